/- Functions of the program as pure Lean functions, and that calls do what these say. Printed by a program out of the given form. -/
import Derived.Test.YtcedmbakcchkiaaGreatDoorL0
set_option linter.unusedVariables false
set_option linter.unusedSimpArgs false
namespace Go.Proofs.YtcedmbakcchkiaaGreatDoor
open Go Go.RowKit Go.Sx
set_option maxRecDepth 100000
set_option maxHeartbeats 20000000
def m_muster_within (n:Int) (lo:Int) (hi:Int):Option Bool:=
 if(decide (lo≤n))=true then
  some (decide (n≤hi))
 else
  some false
theorem d_muster_within (n:Int) (lo:Int) (hi:Int) (r:Bool) (hm:m_muster_within n lo hi=some r):Does Tryz.prog 117 [DI n,DI lo,DI hi] (fun x=>x=DB r):=by
 refine zn Tryz.func117 rfl ?_
 apply vb hm<;>intro _ hm
 exact hm.rr
 exact hm.rr
def m_muster_isDepot (n:Int):Option Bool:=
 Option.bind (m_muster_within n 0 5) fun x1=>
 some x1
theorem d_muster_isDepot (n:Int) (r:Bool) (hm:m_muster_isDepot n=some r):Does Tryz.prog 64 [DI n] (fun x=>x=DB r):=by
 refine zn Tryz.func64 rfl ?_
 refine cy hm (d_muster_within n 0 5) fun x1 hm=> ?_
 exact hm.rr
def m_cmp_isNaN_int (x:Int):Option Bool:=
 some (x !=x)
theorem d_cmp_isNaN_int (x:Int) (r:Bool) (hm:m_cmp_isNaN_int x=some r):Does Tryz.prog 183 [DI x] (fun x=>x=DB r):=by
 refine zn Tryz.func183 rfl ?_
 exact hm.rr
def m_cmp_Compare_int (x:Int) (y:Int):Option Int:=
 Option.bind (m_cmp_isNaN_int x) fun x1=>
 Option.bind (m_cmp_isNaN_int y) fun x3=>
 if x1=true then
  if x3=true then
   some 0
  else
   some (-1)
 else
  if x3=true then
   some 1
  else
   if(decide (x<y))=true then
    some (-1)
   else
    if(decide (x>y))=true then
     some 1
    else
     some 0
theorem d_cmp_Compare_int (x:Int) (y:Int) (r:Int) (hm:m_cmp_Compare_int x y=some r):Does Tryz.prog 150 [DI x,DI y] (fun x=>x=DI r):=by
 refine zn Tryz.func150 rfl ?_
 refine cy hm (d_cmp_isNaN_int x) fun x1 hm=> ?_
 refine cy hm (d_cmp_isNaN_int y) fun x3 hm=> ?_
 apply vb hm<;>intro _ hm
 apply vb hm<;>intro _ hm
 exact hm.rr
 exact hm.rr
 apply vb hm<;>intro _ hm
 exact hm.rr
 apply vb hm<;>intro _ hm
 exact hm.rr
 apply vb hm<;>intro _ hm
 exact hm.rr
 exact hm.rr
def m_muster_compareBids (a:TBid) (b_:TBid):Option Int:=
 Option.bind (m_cmp_Compare_int a.Night b_.Night) fun x1=>
 some x1
theorem d_muster_compareBids (a:TBid) (b_:TBid) (r:Int) (hm:m_muster_compareBids a b_=some r):Does Tryz.prog 89 [.agg (TBid.c a), .agg (TBid.c b_)] (fun x=>x=DI r):=by
 refine zn Tryz.func89 rfl ?_
 refine cy hm (d_cmp_Compare_int a.Night b_.Night) fun x1 hm=> ?_
 exact hm.rr
def m_cmp_Or_int_L1 (vals:(List Int)):Int→Option (Sum Int (Sum Int Int)):=fun v5=>
 if(decide (v5<(vals.length:Int)))=true then
  Option.bind (idx vals v5) fun e11=>
  if(e11 !=0)=true then
   some (.inr (.inr e11))
  else
   some (.inl (W (v5+1)))
 else
  some (.inr (.inl v5))
def m_cmp_Or_int (vals:(List Int)):Option Int:=
 Option.bind (loopF (m_cmp_Or_int_L1 vals) 0) fun e=>
 match e with
 | .inl v14=>
  some 0
 | .inr rr15=>
  some rr15
theorem d_cmp_Or_int (vals:(List Int)) (r:Int) (hm:m_cmp_Or_int vals=some r):Does Tryz.prog 153 [lD 1 vals cI] (fun x=>x=DI r):=by
 refine zn Tryz.func153 rfl ?_
 obtain⟨ev16,he,hk17⟩:=bd_some hm
 refine LoopY.ofL (m_cmp_Or_int_L1 vals) (fun v5=>⟨[(0,lD 1 vals cI),(2,DI 0),(3,DI 0),(6,lD 1 vals cI),(7,DI (vals.length:Int)),(8,DI v5)], [],0⟩) 0 (SubY.of 0 rfl (tA rfl) trivial) he ?_
 rintro fu18 v5 b hm hi19
 apply vb hm<;>intro _ hm
 obtain⟨e21,hx22,hm⟩:=bd_some hm
 refine⟨_,el_idx (fun _=>rfl) hx22, ?_⟩
 apply vb hm<;>intro _ hm
 cases hm
 cases hi19
 have hm:=hk17
 exact hm.rr
 cases hm
 exact⟨(_,(W (v5+1))),SubY.of 0 rfl (tA rfl) trivial,hi19,Nat.lt_succ_self _⟩
 cases hm
 cases hi19
 have hm:=hk17
 exact hm.rr
def m_muster_compareLoans (a:TLoan) (b_:TLoan):Option Int:=
 Option.bind (m_cmp_Compare_int a.Owner b_.Owner) fun x1=>
 Option.bind (m_cmp_Compare_int a.No b_.No) fun x3=>
 Option.bind (m_cmp_Or_int ([x1,x3]:List Int)) fun x5=>
 some x5
theorem d_muster_compareLoans (a:TLoan) (b_:TLoan) (r:Int) (hm:m_muster_compareLoans a b_=some r):Does Tryz.prog 95 [.agg (TLoan.c a), .agg (TLoan.c b_)] (fun x=>x=DI r):=by
 refine zy pl95 [] [] [] Tryz.func95 rfl ?_
 refine⟨rfl, ?_⟩
 refine cy hm (d_cmp_Compare_int a.Owner b_.Owner) fun x1 hm=> ?_
 refine cy hm (d_cmp_Compare_int a.No b_.No) fun x3 hm=> ?_
 refine⟨([x1,x3]:List Int).flatMap cI,([x1,x3]:List Int).length,⟨rfl,rfl⟩, ?_⟩
 refine co hm (d_cmp_Or_int (([x1,x3]:List Int))) fun x5 hm=> ?_
 exact hm.rr
def m_muster_depotOf (n:Int):Option Int:=
 some (n.tmod 6)
theorem d_muster_depotOf (n:Int) (r:Int) (hm:m_muster_depotOf n=some r):Does Tryz.prog 71 [DI n] (fun x=>x=DI r):=by
 refine zn Tryz.func71 rfl ?_
 refine⟨by decide, ?_⟩
 exact hm.rr
def m_muster_isNight (n:Int):Option Bool:=
 Option.bind (m_muster_within n 0 100000) fun x1=>
 some x1
theorem d_muster_isNight (n:Int) (r:Bool) (hm:m_muster_isNight n=some r):Does Tryz.prog 86 [DI n] (fun x=>x=DB r):=by
 refine zn Tryz.func86 rfl ?_
 refine cy hm (d_muster_within n 0 100000) fun x1 hm=> ?_
 exact hm.rr
def m_muster_isValue (n:Int):Option Bool:=
 Option.bind (m_muster_within n 1 1000000) fun x1=>
 some x1
theorem d_muster_isValue (n:Int) (r:Bool) (hm:m_muster_isValue n=some r):Does Tryz.prog 87 [DI n] (fun x=>x=DB r):=by
 refine zn Tryz.func87 rfl ?_
 refine cy hm (d_muster_within n 1 1000000) fun x1 hm=> ?_
 exact hm.rr
def m_math_bits_OnesCount64 (x:Int):Option Int:=
 some (W ((BitVec.ofInt IntKind.i64.bits (W (IntKind.u64.wrap ((IntKind.u64.wrap ((IntKind.u64.wrap ((IntKind.u64.wrap ((BitVec.ofInt IntKind.u64.bits (IntKind.u64.wrap (((IntKind.u64.wrap ((IntKind.u64.wrap ((BitVec.ofInt IntKind.u64.bits ((IntKind.u64.wrap ((IntKind.u64.wrap ((BitVec.ofInt IntKind.u64.bits (x.fdiv (2^(min (1:Int).toNat IntKind.u64.bits)))&&&BitVec.ofInt IntKind.u64.bits 6148914691236517205).toNat:Int))+(IntKind.u64.wrap ((BitVec.ofInt IntKind.u64.bits x&&&BitVec.ofInt IntKind.u64.bits 6148914691236517205).toNat:Int)))).fdiv (2^(min (2:Int).toNat IntKind.u64.bits)))&&&BitVec.ofInt IntKind.u64.bits 3689348814741910323).toNat:Int))+(IntKind.u64.wrap ((BitVec.ofInt IntKind.u64.bits (IntKind.u64.wrap ((IntKind.u64.wrap ((BitVec.ofInt IntKind.u64.bits (x.fdiv (2^(min (1:Int).toNat IntKind.u64.bits)))&&&BitVec.ofInt IntKind.u64.bits 6148914691236517205).toNat:Int))+(IntKind.u64.wrap ((BitVec.ofInt IntKind.u64.bits x&&&BitVec.ofInt IntKind.u64.bits 6148914691236517205).toNat:Int))))&&&BitVec.ofInt IntKind.u64.bits 3689348814741910323).toNat:Int)))).fdiv (2^(min (4:Int).toNat IntKind.u64.bits)))+(IntKind.u64.wrap ((IntKind.u64.wrap ((BitVec.ofInt IntKind.u64.bits ((IntKind.u64.wrap ((IntKind.u64.wrap ((BitVec.ofInt IntKind.u64.bits (x.fdiv (2^(min (1:Int).toNat IntKind.u64.bits)))&&&BitVec.ofInt IntKind.u64.bits 6148914691236517205).toNat:Int))+(IntKind.u64.wrap ((BitVec.ofInt IntKind.u64.bits x&&&BitVec.ofInt IntKind.u64.bits 6148914691236517205).toNat:Int)))).fdiv (2^(min (2:Int).toNat IntKind.u64.bits)))&&&BitVec.ofInt IntKind.u64.bits 3689348814741910323).toNat:Int))+(IntKind.u64.wrap ((BitVec.ofInt IntKind.u64.bits (IntKind.u64.wrap ((IntKind.u64.wrap ((BitVec.ofInt IntKind.u64.bits (x.fdiv (2^(min (1:Int).toNat IntKind.u64.bits)))&&&BitVec.ofInt IntKind.u64.bits 6148914691236517205).toNat:Int))+(IntKind.u64.wrap ((BitVec.ofInt IntKind.u64.bits x&&&BitVec.ofInt IntKind.u64.bits 6148914691236517205).toNat:Int))))&&&BitVec.ofInt IntKind.u64.bits 3689348814741910323).toNat:Int))))))&&&BitVec.ofInt IntKind.u64.bits 1085102592571150095).toNat:Int))+((IntKind.u64.wrap ((BitVec.ofInt IntKind.u64.bits (IntKind.u64.wrap (((IntKind.u64.wrap ((IntKind.u64.wrap ((BitVec.ofInt IntKind.u64.bits ((IntKind.u64.wrap ((IntKind.u64.wrap ((BitVec.ofInt IntKind.u64.bits (x.fdiv (2^(min (1:Int).toNat IntKind.u64.bits)))&&&BitVec.ofInt IntKind.u64.bits 6148914691236517205).toNat:Int))+(IntKind.u64.wrap ((BitVec.ofInt IntKind.u64.bits x&&&BitVec.ofInt IntKind.u64.bits 6148914691236517205).toNat:Int)))).fdiv (2^(min (2:Int).toNat IntKind.u64.bits)))&&&BitVec.ofInt IntKind.u64.bits 3689348814741910323).toNat:Int))+(IntKind.u64.wrap ((BitVec.ofInt IntKind.u64.bits (IntKind.u64.wrap ((IntKind.u64.wrap ((BitVec.ofInt IntKind.u64.bits (x.fdiv (2^(min (1:Int).toNat IntKind.u64.bits)))&&&BitVec.ofInt IntKind.u64.bits 6148914691236517205).toNat:Int))+(IntKind.u64.wrap ((BitVec.ofInt IntKind.u64.bits x&&&BitVec.ofInt IntKind.u64.bits 6148914691236517205).toNat:Int))))&&&BitVec.ofInt IntKind.u64.bits 3689348814741910323).toNat:Int)))).fdiv (2^(min (4:Int).toNat IntKind.u64.bits)))+(IntKind.u64.wrap ((IntKind.u64.wrap ((BitVec.ofInt IntKind.u64.bits ((IntKind.u64.wrap ((IntKind.u64.wrap ((BitVec.ofInt IntKind.u64.bits (x.fdiv (2^(min (1:Int).toNat IntKind.u64.bits)))&&&BitVec.ofInt IntKind.u64.bits 6148914691236517205).toNat:Int))+(IntKind.u64.wrap ((BitVec.ofInt IntKind.u64.bits x&&&BitVec.ofInt IntKind.u64.bits 6148914691236517205).toNat:Int)))).fdiv (2^(min (2:Int).toNat IntKind.u64.bits)))&&&BitVec.ofInt IntKind.u64.bits 3689348814741910323).toNat:Int))+(IntKind.u64.wrap ((BitVec.ofInt IntKind.u64.bits (IntKind.u64.wrap ((IntKind.u64.wrap ((BitVec.ofInt IntKind.u64.bits (x.fdiv (2^(min (1:Int).toNat IntKind.u64.bits)))&&&BitVec.ofInt IntKind.u64.bits 6148914691236517205).toNat:Int))+(IntKind.u64.wrap ((BitVec.ofInt IntKind.u64.bits x&&&BitVec.ofInt IntKind.u64.bits 6148914691236517205).toNat:Int))))&&&BitVec.ofInt IntKind.u64.bits 3689348814741910323).toNat:Int))))))&&&BitVec.ofInt IntKind.u64.bits 1085102592571150095).toNat:Int)).fdiv (2^(min (8:Int).toNat IntKind.u64.bits)))))+((IntKind.u64.wrap ((IntKind.u64.wrap ((BitVec.ofInt IntKind.u64.bits (IntKind.u64.wrap (((IntKind.u64.wrap ((IntKind.u64.wrap ((BitVec.ofInt IntKind.u64.bits ((IntKind.u64.wrap ((IntKind.u64.wrap ((BitVec.ofInt IntKind.u64.bits (x.fdiv (2^(min (1:Int).toNat IntKind.u64.bits)))&&&BitVec.ofInt IntKind.u64.bits 6148914691236517205).toNat:Int))+(IntKind.u64.wrap ((BitVec.ofInt IntKind.u64.bits x&&&BitVec.ofInt IntKind.u64.bits 6148914691236517205).toNat:Int)))).fdiv (2^(min (2:Int).toNat IntKind.u64.bits)))&&&BitVec.ofInt IntKind.u64.bits 3689348814741910323).toNat:Int))+(IntKind.u64.wrap ((BitVec.ofInt IntKind.u64.bits (IntKind.u64.wrap ((IntKind.u64.wrap ((BitVec.ofInt IntKind.u64.bits (x.fdiv (2^(min (1:Int).toNat IntKind.u64.bits)))&&&BitVec.ofInt IntKind.u64.bits 6148914691236517205).toNat:Int))+(IntKind.u64.wrap ((BitVec.ofInt IntKind.u64.bits x&&&BitVec.ofInt IntKind.u64.bits 6148914691236517205).toNat:Int))))&&&BitVec.ofInt IntKind.u64.bits 3689348814741910323).toNat:Int)))).fdiv (2^(min (4:Int).toNat IntKind.u64.bits)))+(IntKind.u64.wrap ((IntKind.u64.wrap ((BitVec.ofInt IntKind.u64.bits ((IntKind.u64.wrap ((IntKind.u64.wrap ((BitVec.ofInt IntKind.u64.bits (x.fdiv (2^(min (1:Int).toNat IntKind.u64.bits)))&&&BitVec.ofInt IntKind.u64.bits 6148914691236517205).toNat:Int))+(IntKind.u64.wrap ((BitVec.ofInt IntKind.u64.bits x&&&BitVec.ofInt IntKind.u64.bits 6148914691236517205).toNat:Int)))).fdiv (2^(min (2:Int).toNat IntKind.u64.bits)))&&&BitVec.ofInt IntKind.u64.bits 3689348814741910323).toNat:Int))+(IntKind.u64.wrap ((BitVec.ofInt IntKind.u64.bits (IntKind.u64.wrap ((IntKind.u64.wrap ((BitVec.ofInt IntKind.u64.bits (x.fdiv (2^(min (1:Int).toNat IntKind.u64.bits)))&&&BitVec.ofInt IntKind.u64.bits 6148914691236517205).toNat:Int))+(IntKind.u64.wrap ((BitVec.ofInt IntKind.u64.bits x&&&BitVec.ofInt IntKind.u64.bits 6148914691236517205).toNat:Int))))&&&BitVec.ofInt IntKind.u64.bits 3689348814741910323).toNat:Int))))))&&&BitVec.ofInt IntKind.u64.bits 1085102592571150095).toNat:Int))+((IntKind.u64.wrap ((BitVec.ofInt IntKind.u64.bits (IntKind.u64.wrap (((IntKind.u64.wrap ((IntKind.u64.wrap ((BitVec.ofInt IntKind.u64.bits ((IntKind.u64.wrap ((IntKind.u64.wrap ((BitVec.ofInt IntKind.u64.bits (x.fdiv (2^(min (1:Int).toNat IntKind.u64.bits)))&&&BitVec.ofInt IntKind.u64.bits 6148914691236517205).toNat:Int))+(IntKind.u64.wrap ((BitVec.ofInt IntKind.u64.bits x&&&BitVec.ofInt IntKind.u64.bits 6148914691236517205).toNat:Int)))).fdiv (2^(min (2:Int).toNat IntKind.u64.bits)))&&&BitVec.ofInt IntKind.u64.bits 3689348814741910323).toNat:Int))+(IntKind.u64.wrap ((BitVec.ofInt IntKind.u64.bits (IntKind.u64.wrap ((IntKind.u64.wrap ((BitVec.ofInt IntKind.u64.bits (x.fdiv (2^(min (1:Int).toNat IntKind.u64.bits)))&&&BitVec.ofInt IntKind.u64.bits 6148914691236517205).toNat:Int))+(IntKind.u64.wrap ((BitVec.ofInt IntKind.u64.bits x&&&BitVec.ofInt IntKind.u64.bits 6148914691236517205).toNat:Int))))&&&BitVec.ofInt IntKind.u64.bits 3689348814741910323).toNat:Int)))).fdiv (2^(min (4:Int).toNat IntKind.u64.bits)))+(IntKind.u64.wrap ((IntKind.u64.wrap ((BitVec.ofInt IntKind.u64.bits ((IntKind.u64.wrap ((IntKind.u64.wrap ((BitVec.ofInt IntKind.u64.bits (x.fdiv (2^(min (1:Int).toNat IntKind.u64.bits)))&&&BitVec.ofInt IntKind.u64.bits 6148914691236517205).toNat:Int))+(IntKind.u64.wrap ((BitVec.ofInt IntKind.u64.bits x&&&BitVec.ofInt IntKind.u64.bits 6148914691236517205).toNat:Int)))).fdiv (2^(min (2:Int).toNat IntKind.u64.bits)))&&&BitVec.ofInt IntKind.u64.bits 3689348814741910323).toNat:Int))+(IntKind.u64.wrap ((BitVec.ofInt IntKind.u64.bits (IntKind.u64.wrap ((IntKind.u64.wrap ((BitVec.ofInt IntKind.u64.bits (x.fdiv (2^(min (1:Int).toNat IntKind.u64.bits)))&&&BitVec.ofInt IntKind.u64.bits 6148914691236517205).toNat:Int))+(IntKind.u64.wrap ((BitVec.ofInt IntKind.u64.bits x&&&BitVec.ofInt IntKind.u64.bits 6148914691236517205).toNat:Int))))&&&BitVec.ofInt IntKind.u64.bits 3689348814741910323).toNat:Int))))))&&&BitVec.ofInt IntKind.u64.bits 1085102592571150095).toNat:Int)).fdiv (2^(min (8:Int).toNat IntKind.u64.bits))))).fdiv (2^(min (16:Int).toNat IntKind.u64.bits)))))+((IntKind.u64.wrap ((IntKind.u64.wrap ((IntKind.u64.wrap ((BitVec.ofInt IntKind.u64.bits (IntKind.u64.wrap (((IntKind.u64.wrap ((IntKind.u64.wrap ((BitVec.ofInt IntKind.u64.bits ((IntKind.u64.wrap ((IntKind.u64.wrap ((BitVec.ofInt IntKind.u64.bits (x.fdiv (2^(min (1:Int).toNat IntKind.u64.bits)))&&&BitVec.ofInt IntKind.u64.bits 6148914691236517205).toNat:Int))+(IntKind.u64.wrap ((BitVec.ofInt IntKind.u64.bits x&&&BitVec.ofInt IntKind.u64.bits 6148914691236517205).toNat:Int)))).fdiv (2^(min (2:Int).toNat IntKind.u64.bits)))&&&BitVec.ofInt IntKind.u64.bits 3689348814741910323).toNat:Int))+(IntKind.u64.wrap ((BitVec.ofInt IntKind.u64.bits (IntKind.u64.wrap ((IntKind.u64.wrap ((BitVec.ofInt IntKind.u64.bits (x.fdiv (2^(min (1:Int).toNat IntKind.u64.bits)))&&&BitVec.ofInt IntKind.u64.bits 6148914691236517205).toNat:Int))+(IntKind.u64.wrap ((BitVec.ofInt IntKind.u64.bits x&&&BitVec.ofInt IntKind.u64.bits 6148914691236517205).toNat:Int))))&&&BitVec.ofInt IntKind.u64.bits 3689348814741910323).toNat:Int)))).fdiv (2^(min (4:Int).toNat IntKind.u64.bits)))+(IntKind.u64.wrap ((IntKind.u64.wrap ((BitVec.ofInt IntKind.u64.bits ((IntKind.u64.wrap ((IntKind.u64.wrap ((BitVec.ofInt IntKind.u64.bits (x.fdiv (2^(min (1:Int).toNat IntKind.u64.bits)))&&&BitVec.ofInt IntKind.u64.bits 6148914691236517205).toNat:Int))+(IntKind.u64.wrap ((BitVec.ofInt IntKind.u64.bits x&&&BitVec.ofInt IntKind.u64.bits 6148914691236517205).toNat:Int)))).fdiv (2^(min (2:Int).toNat IntKind.u64.bits)))&&&BitVec.ofInt IntKind.u64.bits 3689348814741910323).toNat:Int))+(IntKind.u64.wrap ((BitVec.ofInt IntKind.u64.bits (IntKind.u64.wrap ((IntKind.u64.wrap ((BitVec.ofInt IntKind.u64.bits (x.fdiv (2^(min (1:Int).toNat IntKind.u64.bits)))&&&BitVec.ofInt IntKind.u64.bits 6148914691236517205).toNat:Int))+(IntKind.u64.wrap ((BitVec.ofInt IntKind.u64.bits x&&&BitVec.ofInt IntKind.u64.bits 6148914691236517205).toNat:Int))))&&&BitVec.ofInt IntKind.u64.bits 3689348814741910323).toNat:Int))))))&&&BitVec.ofInt IntKind.u64.bits 1085102592571150095).toNat:Int))+((IntKind.u64.wrap ((BitVec.ofInt IntKind.u64.bits (IntKind.u64.wrap (((IntKind.u64.wrap ((IntKind.u64.wrap ((BitVec.ofInt IntKind.u64.bits ((IntKind.u64.wrap ((IntKind.u64.wrap ((BitVec.ofInt IntKind.u64.bits (x.fdiv (2^(min (1:Int).toNat IntKind.u64.bits)))&&&BitVec.ofInt IntKind.u64.bits 6148914691236517205).toNat:Int))+(IntKind.u64.wrap ((BitVec.ofInt IntKind.u64.bits x&&&BitVec.ofInt IntKind.u64.bits 6148914691236517205).toNat:Int)))).fdiv (2^(min (2:Int).toNat IntKind.u64.bits)))&&&BitVec.ofInt IntKind.u64.bits 3689348814741910323).toNat:Int))+(IntKind.u64.wrap ((BitVec.ofInt IntKind.u64.bits (IntKind.u64.wrap ((IntKind.u64.wrap ((BitVec.ofInt IntKind.u64.bits (x.fdiv (2^(min (1:Int).toNat IntKind.u64.bits)))&&&BitVec.ofInt IntKind.u64.bits 6148914691236517205).toNat:Int))+(IntKind.u64.wrap ((BitVec.ofInt IntKind.u64.bits x&&&BitVec.ofInt IntKind.u64.bits 6148914691236517205).toNat:Int))))&&&BitVec.ofInt IntKind.u64.bits 3689348814741910323).toNat:Int)))).fdiv (2^(min (4:Int).toNat IntKind.u64.bits)))+(IntKind.u64.wrap ((IntKind.u64.wrap ((BitVec.ofInt IntKind.u64.bits ((IntKind.u64.wrap ((IntKind.u64.wrap ((BitVec.ofInt IntKind.u64.bits (x.fdiv (2^(min (1:Int).toNat IntKind.u64.bits)))&&&BitVec.ofInt IntKind.u64.bits 6148914691236517205).toNat:Int))+(IntKind.u64.wrap ((BitVec.ofInt IntKind.u64.bits x&&&BitVec.ofInt IntKind.u64.bits 6148914691236517205).toNat:Int)))).fdiv (2^(min (2:Int).toNat IntKind.u64.bits)))&&&BitVec.ofInt IntKind.u64.bits 3689348814741910323).toNat:Int))+(IntKind.u64.wrap ((BitVec.ofInt IntKind.u64.bits (IntKind.u64.wrap ((IntKind.u64.wrap ((BitVec.ofInt IntKind.u64.bits (x.fdiv (2^(min (1:Int).toNat IntKind.u64.bits)))&&&BitVec.ofInt IntKind.u64.bits 6148914691236517205).toNat:Int))+(IntKind.u64.wrap ((BitVec.ofInt IntKind.u64.bits x&&&BitVec.ofInt IntKind.u64.bits 6148914691236517205).toNat:Int))))&&&BitVec.ofInt IntKind.u64.bits 3689348814741910323).toNat:Int))))))&&&BitVec.ofInt IntKind.u64.bits 1085102592571150095).toNat:Int)).fdiv (2^(min (8:Int).toNat IntKind.u64.bits)))))+((IntKind.u64.wrap ((IntKind.u64.wrap ((BitVec.ofInt IntKind.u64.bits (IntKind.u64.wrap (((IntKind.u64.wrap ((IntKind.u64.wrap ((BitVec.ofInt IntKind.u64.bits ((IntKind.u64.wrap ((IntKind.u64.wrap ((BitVec.ofInt IntKind.u64.bits (x.fdiv (2^(min (1:Int).toNat IntKind.u64.bits)))&&&BitVec.ofInt IntKind.u64.bits 6148914691236517205).toNat:Int))+(IntKind.u64.wrap ((BitVec.ofInt IntKind.u64.bits x&&&BitVec.ofInt IntKind.u64.bits 6148914691236517205).toNat:Int)))).fdiv (2^(min (2:Int).toNat IntKind.u64.bits)))&&&BitVec.ofInt IntKind.u64.bits 3689348814741910323).toNat:Int))+(IntKind.u64.wrap ((BitVec.ofInt IntKind.u64.bits (IntKind.u64.wrap ((IntKind.u64.wrap ((BitVec.ofInt IntKind.u64.bits (x.fdiv (2^(min (1:Int).toNat IntKind.u64.bits)))&&&BitVec.ofInt IntKind.u64.bits 6148914691236517205).toNat:Int))+(IntKind.u64.wrap ((BitVec.ofInt IntKind.u64.bits x&&&BitVec.ofInt IntKind.u64.bits 6148914691236517205).toNat:Int))))&&&BitVec.ofInt IntKind.u64.bits 3689348814741910323).toNat:Int)))).fdiv (2^(min (4:Int).toNat IntKind.u64.bits)))+(IntKind.u64.wrap ((IntKind.u64.wrap ((BitVec.ofInt IntKind.u64.bits ((IntKind.u64.wrap ((IntKind.u64.wrap ((BitVec.ofInt IntKind.u64.bits (x.fdiv (2^(min (1:Int).toNat IntKind.u64.bits)))&&&BitVec.ofInt IntKind.u64.bits 6148914691236517205).toNat:Int))+(IntKind.u64.wrap ((BitVec.ofInt IntKind.u64.bits x&&&BitVec.ofInt IntKind.u64.bits 6148914691236517205).toNat:Int)))).fdiv (2^(min (2:Int).toNat IntKind.u64.bits)))&&&BitVec.ofInt IntKind.u64.bits 3689348814741910323).toNat:Int))+(IntKind.u64.wrap ((BitVec.ofInt IntKind.u64.bits (IntKind.u64.wrap ((IntKind.u64.wrap ((BitVec.ofInt IntKind.u64.bits (x.fdiv (2^(min (1:Int).toNat IntKind.u64.bits)))&&&BitVec.ofInt IntKind.u64.bits 6148914691236517205).toNat:Int))+(IntKind.u64.wrap ((BitVec.ofInt IntKind.u64.bits x&&&BitVec.ofInt IntKind.u64.bits 6148914691236517205).toNat:Int))))&&&BitVec.ofInt IntKind.u64.bits 3689348814741910323).toNat:Int))))))&&&BitVec.ofInt IntKind.u64.bits 1085102592571150095).toNat:Int))+((IntKind.u64.wrap ((BitVec.ofInt IntKind.u64.bits (IntKind.u64.wrap (((IntKind.u64.wrap ((IntKind.u64.wrap ((BitVec.ofInt IntKind.u64.bits ((IntKind.u64.wrap ((IntKind.u64.wrap ((BitVec.ofInt IntKind.u64.bits (x.fdiv (2^(min (1:Int).toNat IntKind.u64.bits)))&&&BitVec.ofInt IntKind.u64.bits 6148914691236517205).toNat:Int))+(IntKind.u64.wrap ((BitVec.ofInt IntKind.u64.bits x&&&BitVec.ofInt IntKind.u64.bits 6148914691236517205).toNat:Int)))).fdiv (2^(min (2:Int).toNat IntKind.u64.bits)))&&&BitVec.ofInt IntKind.u64.bits 3689348814741910323).toNat:Int))+(IntKind.u64.wrap ((BitVec.ofInt IntKind.u64.bits (IntKind.u64.wrap ((IntKind.u64.wrap ((BitVec.ofInt IntKind.u64.bits (x.fdiv (2^(min (1:Int).toNat IntKind.u64.bits)))&&&BitVec.ofInt IntKind.u64.bits 6148914691236517205).toNat:Int))+(IntKind.u64.wrap ((BitVec.ofInt IntKind.u64.bits x&&&BitVec.ofInt IntKind.u64.bits 6148914691236517205).toNat:Int))))&&&BitVec.ofInt IntKind.u64.bits 3689348814741910323).toNat:Int)))).fdiv (2^(min (4:Int).toNat IntKind.u64.bits)))+(IntKind.u64.wrap ((IntKind.u64.wrap ((BitVec.ofInt IntKind.u64.bits ((IntKind.u64.wrap ((IntKind.u64.wrap ((BitVec.ofInt IntKind.u64.bits (x.fdiv (2^(min (1:Int).toNat IntKind.u64.bits)))&&&BitVec.ofInt IntKind.u64.bits 6148914691236517205).toNat:Int))+(IntKind.u64.wrap ((BitVec.ofInt IntKind.u64.bits x&&&BitVec.ofInt IntKind.u64.bits 6148914691236517205).toNat:Int)))).fdiv (2^(min (2:Int).toNat IntKind.u64.bits)))&&&BitVec.ofInt IntKind.u64.bits 3689348814741910323).toNat:Int))+(IntKind.u64.wrap ((BitVec.ofInt IntKind.u64.bits (IntKind.u64.wrap ((IntKind.u64.wrap ((BitVec.ofInt IntKind.u64.bits (x.fdiv (2^(min (1:Int).toNat IntKind.u64.bits)))&&&BitVec.ofInt IntKind.u64.bits 6148914691236517205).toNat:Int))+(IntKind.u64.wrap ((BitVec.ofInt IntKind.u64.bits x&&&BitVec.ofInt IntKind.u64.bits 6148914691236517205).toNat:Int))))&&&BitVec.ofInt IntKind.u64.bits 3689348814741910323).toNat:Int))))))&&&BitVec.ofInt IntKind.u64.bits 1085102592571150095).toNat:Int)).fdiv (2^(min (8:Int).toNat IntKind.u64.bits))))).fdiv (2^(min (16:Int).toNat IntKind.u64.bits))))).fdiv (2^(min (32:Int).toNat IntKind.u64.bits))))))&&&BitVec.ofInt IntKind.i64.bits 127).toNat:Int))
theorem d_math_bits_OnesCount64 (x:Int) (r:Int) (hm:m_math_bits_OnesCount64 x=some r):Does Tryz.prog 203 [.v (.int .u64 x)] (fun x=>x=DI r):=by
 refine zn Tryz.func203 rfl ?_
 refine⟨by decide, ?_⟩
 refine⟨by decide, ?_⟩
 refine⟨by decide, ?_⟩
 refine⟨by decide, ?_⟩
 refine⟨by decide, ?_⟩
 refine⟨by decide, ?_⟩
 exact hm.rr
def m_math_bits_OnesCount (x:Int):Option Int:=
 Option.bind (m_math_bits_OnesCount64 x) fun x1=>
 some x1
theorem d_math_bits_OnesCount (x:Int) (r:Int) (hm:m_math_bits_OnesCount x=some r):Does Tryz.prog 169 [.v (.int .u64 x)] (fun x=>x=DI r):=by
 refine zn Tryz.func169 rfl ?_
 refine cy hm (d_math_bits_OnesCount64 x) fun x1 hm=> ?_
 exact hm.rr
def m_muster_mask_quorum (m:Int):Option Bool:=
 Option.bind (m_math_bits_OnesCount (IntKind.u64.wrap m)) fun x1=>
 some (decide (x1≥4))
theorem d_muster_mask_quorum (m:Int) (r:Bool) (hm:m_muster_mask_quorum m=some r):Does Tryz.prog 105 [DI m] (fun x=>x=DB r):=by
 refine zn Tryz.func105 rfl ?_
 refine cy hm (d_math_bits_OnesCount (IntKind.u64.wrap m)) fun x1 hm=> ?_
 exact hm.rr
def m_muster_mask_isSet (m:Int):Option Bool:=
 Option.bind (m_muster_within m 0 63) fun x1=>
 some x1
theorem d_muster_mask_isSet (m:Int) (r:Bool) (hm:m_muster_mask_isSet m=some r):Does Tryz.prog 123 [DI m] (fun x=>x=DB r):=by
 refine zn Tryz.func123 rfl ?_
 refine cy hm (d_muster_within m 0 63) fun x1 hm=> ?_
 exact hm.rr
def m_muster_isBallot (n:Int):Option Bool:=
 Option.bind (m_muster_within n 6 59999) fun x1=>
 some x1
theorem d_muster_isBallot (n:Int) (r:Bool) (hm:m_muster_isBallot n=some r):Does Tryz.prog 125 [DI n] (fun x=>x=DB r):=by
 refine zn Tryz.func125 rfl ?_
 refine cy hm (d_muster_within n 6 59999) fun x1 hm=> ?_
 exact hm.rr
def m_muster_isState_2 (h:THeard):Option Bool:=
 Option.bind (m_muster_isBallot h.Ballot) fun x1=>
 if x1=true then
  Option.bind (m_muster_isNight h.Night) fun x4=>
  if x4=true then
   Option.bind (m_muster_isValue h.Value) fun x7=>
   if x7=true then
    if(h.Mask !=0)=true then
     Option.bind (m_muster_mask_isSet h.Mask) fun x11=>
     some x11
    else
     some false
   else
    some false
  else
   some false
 else
  some false
theorem d_muster_isState_2 (h:THeard) (r:Bool) (hm:m_muster_isState_2 h=some r):Does Tryz.prog 124 [.agg (THeard.c h)] (fun x=>x=DB r):=by
 refine zn Tryz.func124 rfl ?_
 refine cy hm (d_muster_isBallot h.Ballot) fun x1 hm=> ?_
 apply vb hm<;>intro _ hm
 refine cy hm (d_muster_isNight h.Night) fun x4 hm=> ?_
 apply vb hm<;>intro _ hm
 refine cy hm (d_muster_isValue h.Value) fun x7 hm=> ?_
 apply vb hm<;>intro _ hm
 apply vb hm<;>intro _ hm
 refine cy hm (d_muster_mask_isSet h.Mask) fun x11 hm=> ?_
 exact hm.rr
 exact hm.rr
 exact hm.rr
 exact hm.rr
 exact hm.rr
def m_muster_isThing (n:Int):Option Bool:=
 Option.bind (m_muster_within n 1 99) fun x1=>
 some x1
theorem d_muster_isThing (n:Int) (r:Bool) (hm:m_muster_isThing n=some r):Does Tryz.prog 70 [DI n] (fun x=>x=DB r):=by
 refine zn Tryz.func70 rfl ?_
 refine cy hm (d_muster_within n 1 99) fun x1 hm=> ?_
 exact hm.rr
def m_muster_isMoment (n:Int):Option Bool:=
 Option.bind (m_muster_within n 0 144001439) fun x1=>
 some x1
theorem d_muster_isMoment (n:Int) (r:Bool) (hm:m_muster_isMoment n=some r):Does Tryz.prog 91 [DI n] (fun x=>x=DB r):=by
 refine zn Tryz.func91 rfl ?_
 refine cy hm (d_muster_within n 0 144001439) fun x1 hm=> ?_
 exact hm.rr
def m_muster_isTime (from_:Int) (until_:Int):Option Bool:=
 Option.bind (m_muster_isMoment from_) fun x1=>
 if x1=true then
  Option.bind (m_muster_isMoment until_) fun x4=>
  if x4=true then
   some (decide (from_≤until_))
  else
   some false
 else
  some false
theorem d_muster_isTime (from_:Int) (until_:Int) (r:Bool) (hm:m_muster_isTime from_ until_=some r):Does Tryz.prog 127 [DI from_,DI until_] (fun x=>x=DB r):=by
 refine zn Tryz.func127 rfl ?_
 refine cy hm (d_muster_isMoment from_) fun x1 hm=> ?_
 apply vb hm<;>intro _ hm
 refine cy hm (d_muster_isMoment until_) fun x4 hm=> ?_
 apply vb hm<;>intro _ hm
 exact hm.rr
 exact hm.rr
 exact hm.rr
def m_muster_isSlot (s:TSlot):Option Bool:=
 if(s.Ballot==0)=true then
  if(s.Value==0)=true then
   Option.bind (m_muster_isNight s.Night) fun x3=>
   if x3=true then
    Option.bind (m_muster_isBallot s.Promised) fun x6=>
    if x6=true then
     some true
    else
     some false
   else
    some false
  else
   Option.bind (m_muster_within s.Ballot 6 s.Promised) fun x9=>
   if x9=true then
    Option.bind (m_muster_isValue s.Value) fun x12=>
    Option.bind (m_muster_isNight s.Night) fun x14=>
    if x14=true then
     Option.bind (m_muster_isBallot s.Promised) fun x17=>
     if x17=true then
      some x12
     else
      some false
    else
     some false
   else
    Option.bind (m_muster_isNight s.Night) fun x20=>
    if x20=true then
     Option.bind (m_muster_isBallot s.Promised) fun x23=>
     if x23=true then
      some false
     else
      some false
    else
     some false
 else
  Option.bind (m_muster_within s.Ballot 6 s.Promised) fun x26=>
  if x26=true then
   Option.bind (m_muster_isValue s.Value) fun x29=>
   Option.bind (m_muster_isNight s.Night) fun x31=>
   if x31=true then
    Option.bind (m_muster_isBallot s.Promised) fun x34=>
    if x34=true then
     some x29
    else
     some false
   else
    some false
  else
   Option.bind (m_muster_isNight s.Night) fun x37=>
   if x37=true then
    Option.bind (m_muster_isBallot s.Promised) fun x40=>
    if x40=true then
     some false
    else
     some false
   else
    some false
theorem d_muster_isSlot (s:TSlot) (r:Bool) (hm:m_muster_isSlot s=some r):Does Tryz.prog 130 [.agg (TSlot.c s)] (fun x=>x=DB r):=by
 refine zn Tryz.func130 rfl ?_
 apply vb hm<;>intro _ hm
 apply vb hm<;>intro _ hm
 refine cy hm (d_muster_isNight s.Night) fun x3 hm=> ?_
 apply vb hm<;>intro _ hm
 refine cy hm (d_muster_isBallot s.Promised) fun x6 hm=> ?_
 apply vb hm<;>intro _ hm
 exact hm.rr
 exact hm.rr
 exact hm.rr
 refine cy hm (d_muster_within s.Ballot 6 s.Promised) fun x9 hm=> ?_
 apply vb hm<;>intro _ hm
 refine cy hm (d_muster_isValue s.Value) fun x12 hm=> ?_
 refine cy hm (d_muster_isNight s.Night) fun x14 hm=> ?_
 apply vb hm<;>intro _ hm
 refine cy hm (d_muster_isBallot s.Promised) fun x17 hm=> ?_
 apply vb hm<;>intro _ hm
 exact hm.rr
 exact hm.rr
 exact hm.rr
 refine cy hm (d_muster_isNight s.Night) fun x20 hm=> ?_
 apply vb hm<;>intro _ hm
 refine cy hm (d_muster_isBallot s.Promised) fun x23 hm=> ?_
 apply vb hm<;>intro _ hm
 exact hm.rr
 exact hm.rr
 exact hm.rr
 refine cy hm (d_muster_within s.Ballot 6 s.Promised) fun x26 hm=> ?_
 apply vb hm<;>intro _ hm
 refine cy hm (d_muster_isValue s.Value) fun x29 hm=> ?_
 refine cy hm (d_muster_isNight s.Night) fun x31 hm=> ?_
 apply vb hm<;>intro _ hm
 refine cy hm (d_muster_isBallot s.Promised) fun x34 hm=> ?_
 apply vb hm<;>intro _ hm
 exact hm.rr
 exact hm.rr
 exact hm.rr
 refine cy hm (d_muster_isNight s.Night) fun x37 hm=> ?_
 apply vb hm<;>intro _ hm
 refine cy hm (d_muster_isBallot s.Promised) fun x40 hm=> ?_
 apply vb hm<;>intro _ hm
 exact hm.rr
 exact hm.rr
 exact hm.rr
def m_muster_compareSlots (a:TSlot) (b_:TSlot):Option Int:=
 Option.bind (m_cmp_Compare_int a.Night b_.Night) fun x1=>
 some x1
theorem d_muster_compareSlots (a:TSlot) (b_:TSlot) (r:Int) (hm:m_muster_compareSlots a b_=some r):Does Tryz.prog 136 [.agg (TSlot.c a), .agg (TSlot.c b_)] (fun x=>x=DI r):=by
 refine zn Tryz.func136 rfl ?_
 refine cy hm (d_cmp_Compare_int a.Night b_.Night) fun x1 hm=> ?_
 exact hm.rr
def m_muster_compareHeard (a:THeard) (b_:THeard):Option Int:=
 Option.bind (m_cmp_Compare_int a.Ballot b_.Ballot) fun x1=>
 Option.bind (m_cmp_Compare_int a.Night b_.Night) fun x3=>
 Option.bind (m_cmp_Or_int ([x1,x3]:List Int)) fun x5=>
 some x5
theorem d_muster_compareHeard (a:THeard) (b_:THeard) (r:Int) (hm:m_muster_compareHeard a b_=some r):Does Tryz.prog 139 [.agg (THeard.c a), .agg (THeard.c b_)] (fun x=>x=DI r):=by
 refine zy pl139 [] [] [] Tryz.func139 rfl ?_
 refine⟨rfl, ?_⟩
 refine cy hm (d_cmp_Compare_int a.Ballot b_.Ballot) fun x1 hm=> ?_
 refine cy hm (d_cmp_Compare_int a.Night b_.Night) fun x3 hm=> ?_
 refine⟨([x1,x3]:List Int).flatMap cI,([x1,x3]:List Int).length,⟨rfl,rfl⟩, ?_⟩
 refine co hm (d_cmp_Or_int (([x1,x3]:List Int))) fun x5 hm=> ?_
 exact hm.rr
def m_muster_meet (a:TLease) (b_:TLease):Option Bool:=
 some (decide ((if b_.From>a.From then b_.From else a.From)<(if b_.Until<a.Until then b_.Until else a.Until)))
theorem d_muster_meet (a:TLease) (b_:TLease) (r:Bool) (hm:m_muster_meet a b_=some r):Does Tryz.prog 145 [.agg (TLease.c a), .agg (TLease.c b_)] (fun x=>x=DB r):=by
 refine zn Tryz.func145 rfl ?_
 exact hm.rr
def m_muster_each_api_Slot_1__muster_isSlot (x:TSlot):Option Bool:=
 Option.bind (m_muster_isSlot x) fun x1=>
 some (!x1)
theorem d_muster_each_api_Slot_1__muster_isSlot (x:TSlot) (r:Bool) (hm:m_muster_each_api_Slot_1__muster_isSlot x=some r):Does Tryz.prog 172 [.agg (TSlot.c x), .ptr [.fn 130 [] []] 0] (fun x=>x=DB r):=by
 refine zn Tryz.func172 rfl ?_
 refine cy hm (d_muster_isSlot x) fun x1 hm=> ?_
 exact hm.rr
def m_slices_IndexFunc_api_Slot_api_Slot__muster_each_api_Slot_1_of_muster_isSlot_L1 (s:(List TSlot)):Int→Option (Sum Int (Sum Int Int)):=fun v7=>
 if(decide (v7<(s.length:Int)))=true then
  Option.bind (idx s v7) fun e15=>
  Option.bind (m_muster_each_api_Slot_1__muster_isSlot e15) fun x17=>
  if x17=true then
   some (.inr (.inr v7))
  else
   some (.inl (W (v7+1)))
 else
  some (.inr (.inl v7))
def m_slices_IndexFunc_api_Slot_api_Slot__muster_each_api_Slot_1_of_muster_isSlot (s:(List TSlot)):Option Int:=
 Option.bind (loopF (m_slices_IndexFunc_api_Slot_api_Slot__muster_each_api_Slot_1_of_muster_isSlot_L1 s) 0) fun e=>
 match e with
 | .inl v20=>
  some (-1)
 | .inr rr21=>
  some rr21
theorem d_slices_IndexFunc_api_Slot_api_Slot__muster_each_api_Slot_1_of_muster_isSlot (s:(List TSlot)) (r:Int) (hm:m_slices_IndexFunc_api_Slot_api_Slot__muster_each_api_Slot_1_of_muster_isSlot s=some r):Does Tryz.prog 205 [lD 4 s TSlot.c, .fn 172 [] [.ptr [.fn 130 [] []] 0]] (fun x=>x=DI r):=by
 refine zn Tryz.func205 rfl ?_
 obtain⟨ev22,he,hk23⟩:=bd_some hm
 refine LoopY.ofL (m_slices_IndexFunc_api_Slot_api_Slot__muster_each_api_Slot_1_of_muster_isSlot_L1 s) (fun v7=>⟨[(0,lD 4 s TSlot.c),(1, .fn 172 [] [.ptr [.fn 130 [] []] 0]),(4,DI 0),(7,DI (s.length:Int)),(8,DI v7)], [],0⟩) 0 (SubY.of 0 rfl (tA rfl) trivial) he ?_
 rintro fu24 v7 b hm hi25
 apply vb hm<;>intro _ hm
 obtain⟨e27,hx28,hm⟩:=bd_some hm
 refine⟨_,el_idx (fun _=>rfl) hx28, ?_⟩
 refine cy hm (d_muster_each_api_Slot_1__muster_isSlot e27) fun x29 hm=> ?_
 apply vb hm<;>intro _ hm
 cases hm
 cases hi25
 have hm:=hk23
 exact hm.rr
 cases hm
 exact⟨(_,(W (v7+1))),SubY.of 0 rfl (tA rfl) trivial,hi25,Nat.lt_succ_self _⟩
 cases hm
 cases hi25
 have hm:=hk23
 exact hm.rr
def m_slices_ContainsFunc_api_Slot_api_Slot__muster_each_api_Slot_1_of_muster_isSlot (s:(List TSlot)):Option Bool:=
 Option.bind (m_slices_IndexFunc_api_Slot_api_Slot__muster_each_api_Slot_1_of_muster_isSlot s) fun x1=>
 some (decide (x1≥0))
theorem d_slices_ContainsFunc_api_Slot_api_Slot__muster_each_api_Slot_1_of_muster_isSlot (s:(List TSlot)) (r:Bool) (hm:m_slices_ContainsFunc_api_Slot_api_Slot__muster_each_api_Slot_1_of_muster_isSlot s=some r):Does Tryz.prog 171 [lD 4 s TSlot.c, .fn 172 [] [.ptr [.fn 130 [] []] 0]] (fun x=>x=DB r):=by
 refine zn Tryz.func171 rfl ?_
 refine cy hm (d_slices_IndexFunc_api_Slot_api_Slot__muster_each_api_Slot_1_of_muster_isSlot s) fun x1 hm=> ?_
 exact hm.rr
def m_muster_each_api_Slot__muster_isSlot (l:(List TSlot)) (most:Int):Option Bool:=
 if(decide ((l.length:Int)≤most))=true then
  Option.bind (m_slices_ContainsFunc_api_Slot_api_Slot__muster_each_api_Slot_1_of_muster_isSlot l) fun x2=>
  some (!x2)
 else
  some false
theorem d_muster_each_api_Slot__muster_isSlot (l:(List TSlot)) (most:Int) (r:Bool) (hm:m_muster_each_api_Slot__muster_isSlot l most=some r):Does Tryz.prog 129 [lD 4 l TSlot.c,DI most, .fn 130 [] []] (fun x=>x=DB r):=by
 refine zn Tryz.func129 rfl ?_
 apply vb hm<;>intro _ hm
 refine co hm (d_slices_ContainsFunc_api_Slot_api_Slot__muster_each_api_Slot_1_of_muster_isSlot l) fun x2 hm=> ?_
 exact hm.rr
 exact hm.rr
def m_muster_isState_1 (b_:TBid) (c_0:TState) (c_1:Int):Option Bool:=
 Option.bind (m_muster_isNight b_.Night) fun x1=>
 if x1=true then
  Option.bind (m_muster_within b_.Ballot 6 (W ((W (6*c_0.Round))+c_1))) fun x4=>
  if x4=true then
   Option.bind (m_muster_depotOf b_.Ballot) fun x7=>
   if(x7==c_1)=true then
    Option.bind (m_muster_isValue b_.Value) fun x10=>
    if x10=true then
     Option.bind (m_muster_within b_.Best 0 (W (b_.Ballot-1))) fun x13=>
     if x13=true then
      Option.bind (m_muster_mask_isSet b_.Mask) fun x16=>
      if x16=true then
       Option.bind (m_muster_mask_quorum b_.Mask) fun x19=>
       some (b_.Asked==x19)
      else
       some false
     else
      some false
    else
     some false
   else
    some false
  else
   some false
 else
  some false
theorem d_muster_isState_1 (b_:TBid) (c_0:TState) (c_1:Int) (r:Bool) (hm:m_muster_isState_1 b_ c_0 c_1=some r):Does Tryz.prog 122 [.agg (TBid.c b_), .ptr (TState.c c_0) 0, .ptr [DI c_1] 0] (fun x=>x=DB r):=by
 refine zy pl122 [] [] [] Tryz.func122 rfl ?_
 refine⟨rfl, ?_⟩
 refine cy hm (d_muster_isNight b_.Night) fun x1 hm=> ?_
 apply vb hm<;>intro _ hm
 refine cy hm (d_muster_within b_.Ballot 6 (W ((W (6*c_0.Round))+c_1))) fun x4 hm=> ?_
 apply vb hm<;>intro _ hm
 refine cy hm (d_muster_depotOf b_.Ballot) fun x7 hm=> ?_
 apply vb hm<;>intro _ hm
 refine cy hm (d_muster_isValue b_.Value) fun x10 hm=> ?_
 apply vb hm<;>intro _ hm
 refine cy hm (d_muster_within b_.Best 0 (W (b_.Ballot-1))) fun x13 hm=> ?_
 apply vb hm<;>intro _ hm
 refine cy hm (d_muster_mask_isSet b_.Mask) fun x16 hm=> ?_
 apply vb hm<;>intro _ hm
 refine cy hm (d_muster_mask_quorum b_.Mask) fun x19 hm=> ?_
 exact hm.rr
 exact hm.rr
 exact hm.rr
 exact hm.rr
 exact hm.rr
 exact hm.rr
 exact hm.rr
def m_muster_each_api_Bid_1__muster_isState_1 (x:TBid) (c_0:TState) (c_1:Int):Option Bool:=
 Option.bind (m_muster_isState_1 x c_0 c_1) fun x1=>
 some (!x1)
theorem d_muster_each_api_Bid_1__muster_isState_1 (x:TBid) (c_0:TState) (c_1:Int) (r:Bool) (hm:m_muster_each_api_Bid_1__muster_isState_1 x c_0 c_1=some r):Does Tryz.prog 173 [.agg (TBid.c x), .ptr [.fn 122 [] [.ptr (TState.c c_0) 0, .ptr [DI c_1] 0]] 0] (fun x=>x=DB r):=by
 refine zn Tryz.func173 rfl ?_
 refine cy hm (d_muster_isState_1 x c_0 c_1) fun x1 hm=> ?_
 exact hm.rr
def m_slices_IndexFunc_api_Bid_api_Bid__muster_each_api_Bid_1_of_muster_isState_1_L1 (s:(List TBid)) (c1_0:TState) (c1_1:Int):Int→Option (Sum Int (Sum Int Int)):=fun v7=>
 if(decide (v7<(s.length:Int)))=true then
  Option.bind (idx s v7) fun e15=>
  Option.bind (m_muster_each_api_Bid_1__muster_isState_1 e15 c1_0 c1_1) fun x17=>
  if x17=true then
   some (.inr (.inr v7))
  else
   some (.inl (W (v7+1)))
 else
  some (.inr (.inl v7))
def m_slices_IndexFunc_api_Bid_api_Bid__muster_each_api_Bid_1_of_muster_isState_1 (s:(List TBid)) (c1_0:TState) (c1_1:Int):Option Int:=
 Option.bind (loopF (m_slices_IndexFunc_api_Bid_api_Bid__muster_each_api_Bid_1_of_muster_isState_1_L1 s c1_0 c1_1) 0) fun e=>
 match e with
 | .inl v20=>
  some (-1)
 | .inr rr21=>
  some rr21
theorem d_slices_IndexFunc_api_Bid_api_Bid__muster_each_api_Bid_1_of_muster_isState_1 (s:(List TBid)) (c1_0:TState) (c1_1:Int) (r:Int) (hm:m_slices_IndexFunc_api_Bid_api_Bid__muster_each_api_Bid_1_of_muster_isState_1 s c1_0 c1_1=some r):Does Tryz.prog 178 [lD 6 s TBid.c, .fn 173 [] [.ptr [.fn 122 [] [.ptr (TState.c c1_0) 0, .ptr [DI c1_1] 0]] 0]] (fun x=>x=DI r):=by
 refine zn Tryz.func178 rfl ?_
 obtain⟨ev22,he,hk23⟩:=bd_some hm
 refine LoopY.ofL (m_slices_IndexFunc_api_Bid_api_Bid__muster_each_api_Bid_1_of_muster_isState_1_L1 s c1_0 c1_1) (fun v7=>⟨[(0,lD 6 s TBid.c),(1, .fn 173 [] [.ptr [.fn 122 [] [.ptr (TState.c c1_0) 0, .ptr [DI c1_1] 0]] 0]),(4,DI 0),(7,DI (s.length:Int)),(8,DI v7)], [],0⟩) 0 (SubY.of 0 rfl (tA rfl) trivial) he ?_
 rintro fu24 v7 b hm hi25
 apply vb hm<;>intro _ hm
 obtain⟨e27,hx28,hm⟩:=bd_some hm
 refine⟨_,el_idx (fun _=>rfl) hx28, ?_⟩
 refine cy hm (d_muster_each_api_Bid_1__muster_isState_1 e27 c1_0 c1_1) fun x29 hm=> ?_
 apply vb hm<;>intro _ hm
 cases hm
 cases hi25
 have hm:=hk23
 exact hm.rr
 cases hm
 exact⟨(_,(W (v7+1))),SubY.of 0 rfl (tA rfl) trivial,hi25,Nat.lt_succ_self _⟩
 cases hm
 cases hi25
 have hm:=hk23
 exact hm.rr
def m_slices_ContainsFunc_api_Bid_api_Bid__muster_each_api_Bid_1_of_muster_isState_1 (s:(List TBid)) (c1_0:TState) (c1_1:Int):Option Bool:=
 Option.bind (m_slices_IndexFunc_api_Bid_api_Bid__muster_each_api_Bid_1_of_muster_isState_1 s c1_0 c1_1) fun x1=>
 some (decide (x1≥0))
theorem d_slices_ContainsFunc_api_Bid_api_Bid__muster_each_api_Bid_1_of_muster_isState_1 (s:(List TBid)) (c1_0:TState) (c1_1:Int) (r:Bool) (hm:m_slices_ContainsFunc_api_Bid_api_Bid__muster_each_api_Bid_1_of_muster_isState_1 s c1_0 c1_1=some r):Does Tryz.prog 141 [lD 6 s TBid.c, .fn 173 [] [.ptr [.fn 122 [] [.ptr (TState.c c1_0) 0, .ptr [DI c1_1] 0]] 0]] (fun x=>x=DB r):=by
 refine zn Tryz.func141 rfl ?_
 refine cy hm (d_slices_IndexFunc_api_Bid_api_Bid__muster_each_api_Bid_1_of_muster_isState_1 s c1_0 c1_1) fun x1 hm=> ?_
 exact hm.rr
def m_muster_each_api_Bid__muster_isState_1 (l:(List TBid)) (most:Int) (c2_0:TState) (c2_1:Int):Option Bool:=
 if(decide ((l.length:Int)≤most))=true then
  Option.bind (m_slices_ContainsFunc_api_Bid_api_Bid__muster_each_api_Bid_1_of_muster_isState_1 l c2_0 c2_1) fun x2=>
  some (!x2)
 else
  some false
theorem d_muster_each_api_Bid__muster_isState_1 (l:(List TBid)) (most:Int) (c2_0:TState) (c2_1:Int) (r:Bool) (hm:m_muster_each_api_Bid__muster_isState_1 l most c2_0 c2_1=some r):Does Tryz.prog 131 [lD 6 l TBid.c,DI most, .fn 122 [] [.ptr (TState.c c2_0) 0, .ptr [DI c2_1] 0]] (fun x=>x=DB r):=by
 refine zn Tryz.func131 rfl ?_
 apply vb hm<;>intro _ hm
 refine co hm (d_slices_ContainsFunc_api_Bid_api_Bid__muster_each_api_Bid_1_of_muster_isState_1 l c2_0 c2_1) fun x2 hm=> ?_
 exact hm.rr
 exact hm.rr
def m_muster_each_api_Heard_1__muster_isState_2 (x:THeard):Option Bool:=
 Option.bind (m_muster_isState_2 x) fun x1=>
 some (!x1)
theorem d_muster_each_api_Heard_1__muster_isState_2 (x:THeard) (r:Bool) (hm:m_muster_each_api_Heard_1__muster_isState_2 x=some r):Does Tryz.prog 175 [.agg (THeard.c x), .ptr [.fn 124 [] []] 0] (fun x=>x=DB r):=by
 refine zn Tryz.func175 rfl ?_
 refine cy hm (d_muster_isState_2 x) fun x1 hm=> ?_
 exact hm.rr
def m_slices_IndexFunc_api_Heard_api_Heard__muster_each_api_Heard_1_of_muster_isState_2_L1 (s:(List THeard)):Int→Option (Sum Int (Sum Int Int)):=fun v7=>
 if(decide (v7<(s.length:Int)))=true then
  Option.bind (idx s v7) fun e15=>
  Option.bind (m_muster_each_api_Heard_1__muster_isState_2 e15) fun x17=>
  if x17=true then
   some (.inr (.inr v7))
  else
   some (.inl (W (v7+1)))
 else
  some (.inr (.inl v7))
def m_slices_IndexFunc_api_Heard_api_Heard__muster_each_api_Heard_1_of_muster_isState_2 (s:(List THeard)):Option Int:=
 Option.bind (loopF (m_slices_IndexFunc_api_Heard_api_Heard__muster_each_api_Heard_1_of_muster_isState_2_L1 s) 0) fun e=>
 match e with
 | .inl v20=>
  some (-1)
 | .inr rr21=>
  some rr21
theorem d_slices_IndexFunc_api_Heard_api_Heard__muster_each_api_Heard_1_of_muster_isState_2 (s:(List THeard)) (r:Int) (hm:m_slices_IndexFunc_api_Heard_api_Heard__muster_each_api_Heard_1_of_muster_isState_2 s=some r):Does Tryz.prog 206 [lD 4 s THeard.c, .fn 175 [] [.ptr [.fn 124 [] []] 0]] (fun x=>x=DI r):=by
 refine zn Tryz.func206 rfl ?_
 obtain⟨ev22,he,hk23⟩:=bd_some hm
 refine LoopY.ofL (m_slices_IndexFunc_api_Heard_api_Heard__muster_each_api_Heard_1_of_muster_isState_2_L1 s) (fun v7=>⟨[(0,lD 4 s THeard.c),(1, .fn 175 [] [.ptr [.fn 124 [] []] 0]),(4,DI 0),(7,DI (s.length:Int)),(8,DI v7)], [],0⟩) 0 (SubY.of 0 rfl (tA rfl) trivial) he ?_
 rintro fu24 v7 b hm hi25
 apply vb hm<;>intro _ hm
 obtain⟨e27,hx28,hm⟩:=bd_some hm
 refine⟨_,el_idx (fun _=>rfl) hx28, ?_⟩
 refine cy hm (d_muster_each_api_Heard_1__muster_isState_2 e27) fun x29 hm=> ?_
 apply vb hm<;>intro _ hm
 cases hm
 cases hi25
 have hm:=hk23
 exact hm.rr
 cases hm
 exact⟨(_,(W (v7+1))),SubY.of 0 rfl (tA rfl) trivial,hi25,Nat.lt_succ_self _⟩
 cases hm
 cases hi25
 have hm:=hk23
 exact hm.rr
def m_slices_ContainsFunc_api_Heard_api_Heard__muster_each_api_Heard_1_of_muster_isState_2 (s:(List THeard)):Option Bool:=
 Option.bind (m_slices_IndexFunc_api_Heard_api_Heard__muster_each_api_Heard_1_of_muster_isState_2 s) fun x1=>
 some (decide (x1≥0))
theorem d_slices_ContainsFunc_api_Heard_api_Heard__muster_each_api_Heard_1_of_muster_isState_2 (s:(List THeard)) (r:Bool) (hm:m_slices_ContainsFunc_api_Heard_api_Heard__muster_each_api_Heard_1_of_muster_isState_2 s=some r):Does Tryz.prog 174 [lD 4 s THeard.c, .fn 175 [] [.ptr [.fn 124 [] []] 0]] (fun x=>x=DB r):=by
 refine zn Tryz.func174 rfl ?_
 refine cy hm (d_slices_IndexFunc_api_Heard_api_Heard__muster_each_api_Heard_1_of_muster_isState_2 s) fun x1 hm=> ?_
 exact hm.rr
def m_muster_each_api_Heard__muster_isState_2 (l:(List THeard)) (most:Int):Option Bool:=
 if(decide ((l.length:Int)≤most))=true then
  Option.bind (m_slices_ContainsFunc_api_Heard_api_Heard__muster_each_api_Heard_1_of_muster_isState_2 l) fun x2=>
  some (!x2)
 else
  some false
theorem d_muster_each_api_Heard__muster_isState_2 (l:(List THeard)) (most:Int) (r:Bool) (hm:m_muster_each_api_Heard__muster_isState_2 l most=some r):Does Tryz.prog 132 [lD 4 l THeard.c,DI most, .fn 124 [] []] (fun x=>x=DB r):=by
 refine zn Tryz.func132 rfl ?_
 apply vb hm<;>intro _ hm
 refine co hm (d_slices_ContainsFunc_api_Heard_api_Heard__muster_each_api_Heard_1_of_muster_isState_2 l) fun x2 hm=> ?_
 exact hm.rr
 exact hm.rr
def m_muster_isState_3 (l:TLease) (c_0:Int):Option Bool:=
 Option.bind (m_muster_isThing l.Thing) fun x1=>
 if x1=true then
  Option.bind (m_muster_depotOf l.Thing) fun x4=>
  if(x4==c_0)=true then
   Option.bind (m_muster_isDepot l.To) fun x7=>
   if x7=true then
    if(l.To !=c_0)=true then
     Option.bind (m_muster_isTime l.From l.Until) fun x11=>
     some x11
    else
     some false
   else
    some false
  else
   some false
 else
  some false
theorem d_muster_isState_3 (l:TLease) (c_0:Int) (r:Bool) (hm:m_muster_isState_3 l c_0=some r):Does Tryz.prog 126 [.agg (TLease.c l), .ptr [DI c_0] 0] (fun x=>x=DB r):=by
 refine zy pl126 [] [] [] Tryz.func126 rfl ?_
 refine⟨rfl, ?_⟩
 refine cy hm (d_muster_isThing l.Thing) fun x1 hm=> ?_
 apply vb hm<;>intro _ hm
 refine cy hm (d_muster_depotOf l.Thing) fun x4 hm=> ?_
 apply vb hm<;>intro _ hm
 refine cy hm (d_muster_isDepot l.To) fun x7 hm=> ?_
 apply vb hm<;>intro _ hm
 apply vb hm<;>intro _ hm
 refine cy hm (d_muster_isTime l.From l.Until) fun x11 hm=> ?_
 exact hm.rr
 exact hm.rr
 exact hm.rr
 exact hm.rr
 exact hm.rr
def m_muster_each_api_Lease_1__muster_isState_3 (x:TLease) (c_0:Int):Option Bool:=
 Option.bind (m_muster_isState_3 x c_0) fun x1=>
 some (!x1)
theorem d_muster_each_api_Lease_1__muster_isState_3 (x:TLease) (c_0:Int) (r:Bool) (hm:m_muster_each_api_Lease_1__muster_isState_3 x c_0=some r):Does Tryz.prog 176 [.agg (TLease.c x), .ptr [.fn 126 [] [.ptr [DI c_0] 0]] 0] (fun x=>x=DB r):=by
 refine zn Tryz.func176 rfl ?_
 refine cy hm (d_muster_isState_3 x c_0) fun x1 hm=> ?_
 exact hm.rr
def m_slices_IndexFunc_api_Lease_api_Lease__muster_each_api_Lease_1_of_muster_isState_3_L1 (s:(List TLease)) (c1_0:Int):Int→Option (Sum Int (Sum Int Int)):=fun v7=>
 if(decide (v7<(s.length:Int)))=true then
  Option.bind (idx s v7) fun e15=>
  Option.bind (m_muster_each_api_Lease_1__muster_isState_3 e15 c1_0) fun x17=>
  if x17=true then
   some (.inr (.inr v7))
  else
   some (.inl (W (v7+1)))
 else
  some (.inr (.inl v7))
def m_slices_IndexFunc_api_Lease_api_Lease__muster_each_api_Lease_1_of_muster_isState_3 (s:(List TLease)) (c1_0:Int):Option Int:=
 Option.bind (loopF (m_slices_IndexFunc_api_Lease_api_Lease__muster_each_api_Lease_1_of_muster_isState_3_L1 s c1_0) 0) fun e=>
 match e with
 | .inl v20=>
  some (-1)
 | .inr rr21=>
  some rr21
theorem d_slices_IndexFunc_api_Lease_api_Lease__muster_each_api_Lease_1_of_muster_isState_3 (s:(List TLease)) (c1_0:Int) (r:Int) (hm:m_slices_IndexFunc_api_Lease_api_Lease__muster_each_api_Lease_1_of_muster_isState_3 s c1_0=some r):Does Tryz.prog 179 [lD 5 s TLease.c, .fn 176 [] [.ptr [.fn 126 [] [.ptr [DI c1_0] 0]] 0]] (fun x=>x=DI r):=by
 refine zn Tryz.func179 rfl ?_
 obtain⟨ev22,he,hk23⟩:=bd_some hm
 refine LoopY.ofL (m_slices_IndexFunc_api_Lease_api_Lease__muster_each_api_Lease_1_of_muster_isState_3_L1 s c1_0) (fun v7=>⟨[(0,lD 5 s TLease.c),(1, .fn 176 [] [.ptr [.fn 126 [] [.ptr [DI c1_0] 0]] 0]),(4,DI 0),(7,DI (s.length:Int)),(8,DI v7)], [],0⟩) 0 (SubY.of 0 rfl (tA rfl) trivial) he ?_
 rintro fu24 v7 b hm hi25
 apply vb hm<;>intro _ hm
 obtain⟨e27,hx28,hm⟩:=bd_some hm
 refine⟨_,el_idx (fun _=>rfl) hx28, ?_⟩
 refine cy hm (d_muster_each_api_Lease_1__muster_isState_3 e27 c1_0) fun x29 hm=> ?_
 apply vb hm<;>intro _ hm
 cases hm
 cases hi25
 have hm:=hk23
 exact hm.rr
 cases hm
 exact⟨(_,(W (v7+1))),SubY.of 0 rfl (tA rfl) trivial,hi25,Nat.lt_succ_self _⟩
 cases hm
 cases hi25
 have hm:=hk23
 exact hm.rr
def m_slices_ContainsFunc_api_Lease_api_Lease__muster_each_api_Lease_1_of_muster_isState_3 (s:(List TLease)) (c1_0:Int):Option Bool:=
 Option.bind (m_slices_IndexFunc_api_Lease_api_Lease__muster_each_api_Lease_1_of_muster_isState_3 s c1_0) fun x1=>
 some (decide (x1≥0))
theorem d_slices_ContainsFunc_api_Lease_api_Lease__muster_each_api_Lease_1_of_muster_isState_3 (s:(List TLease)) (c1_0:Int) (r:Bool) (hm:m_slices_ContainsFunc_api_Lease_api_Lease__muster_each_api_Lease_1_of_muster_isState_3 s c1_0=some r):Does Tryz.prog 143 [lD 5 s TLease.c, .fn 176 [] [.ptr [.fn 126 [] [.ptr [DI c1_0] 0]] 0]] (fun x=>x=DB r):=by
 refine zn Tryz.func143 rfl ?_
 refine cy hm (d_slices_IndexFunc_api_Lease_api_Lease__muster_each_api_Lease_1_of_muster_isState_3 s c1_0) fun x1 hm=> ?_
 exact hm.rr
def m_muster_each_api_Lease__muster_isState_3 (l:(List TLease)) (most:Int) (c2_0:Int):Option Bool:=
 if(decide ((l.length:Int)≤most))=true then
  Option.bind (m_slices_ContainsFunc_api_Lease_api_Lease__muster_each_api_Lease_1_of_muster_isState_3 l c2_0) fun x2=>
  some (!x2)
 else
  some false
theorem d_muster_each_api_Lease__muster_isState_3 (l:(List TLease)) (most:Int) (c2_0:Int) (r:Bool) (hm:m_muster_each_api_Lease__muster_isState_3 l most c2_0=some r):Does Tryz.prog 133 [lD 5 l TLease.c,DI most, .fn 126 [] [.ptr [DI c2_0] 0]] (fun x=>x=DB r):=by
 refine zn Tryz.func133 rfl ?_
 apply vb hm<;>intro _ hm
 refine co hm (d_slices_ContainsFunc_api_Lease_api_Lease__muster_each_api_Lease_1_of_muster_isState_3 l c2_0) fun x2 hm=> ?_
 exact hm.rr
 exact hm.rr
def m_muster_isState_4 (l:TLoan) (c_0:Int):Option Bool:=
 Option.bind (m_muster_isDepot l.Owner) fun x1=>
 if x1=true then
  if(l.Owner !=c_0)=true then
   Option.bind (m_muster_within l.No 1 40) fun x5=>
   if x5=true then
    Option.bind (m_muster_isThing l.Thing) fun x8=>
    if x8=true then
     Option.bind (m_muster_depotOf l.Thing) fun x11=>
     if(x11==l.Owner)=true then
      Option.bind (m_muster_isTime l.From l.Until) fun x14=>
      some x14
     else
      some false
    else
     some false
   else
    some false
  else
   some false
 else
  some false
theorem d_muster_isState_4 (l:TLoan) (c_0:Int) (r:Bool) (hm:m_muster_isState_4 l c_0=some r):Does Tryz.prog 128 [.agg (TLoan.c l), .ptr [DI c_0] 0] (fun x=>x=DB r):=by
 refine zy pl128 [] [] [] Tryz.func128 rfl ?_
 refine⟨rfl, ?_⟩
 refine cy hm (d_muster_isDepot l.Owner) fun x1 hm=> ?_
 apply vb hm<;>intro _ hm
 apply vb hm<;>intro _ hm
 refine cy hm (d_muster_within l.No 1 40) fun x5 hm=> ?_
 apply vb hm<;>intro _ hm
 refine cy hm (d_muster_isThing l.Thing) fun x8 hm=> ?_
 apply vb hm<;>intro _ hm
 refine cy hm (d_muster_depotOf l.Thing) fun x11 hm=> ?_
 apply vb hm<;>intro _ hm
 refine cy hm (d_muster_isTime l.From l.Until) fun x14 hm=> ?_
 exact hm.rr
 exact hm.rr
 exact hm.rr
 exact hm.rr
 exact hm.rr
 exact hm.rr
def m_muster_each_api_Loan_1__muster_isState_4 (x:TLoan) (c_0:Int):Option Bool:=
 Option.bind (m_muster_isState_4 x c_0) fun x1=>
 some (!x1)
theorem d_muster_each_api_Loan_1__muster_isState_4 (x:TLoan) (c_0:Int) (r:Bool) (hm:m_muster_each_api_Loan_1__muster_isState_4 x c_0=some r):Does Tryz.prog 177 [.agg (TLoan.c x), .ptr [.fn 128 [] [.ptr [DI c_0] 0]] 0] (fun x=>x=DB r):=by
 refine zn Tryz.func177 rfl ?_
 refine cy hm (d_muster_isState_4 x c_0) fun x1 hm=> ?_
 exact hm.rr
def m_slices_IndexFunc_api_Loan_api_Loan__muster_each_api_Loan_1_of_muster_isState_4_L1 (s:(List TLoan)) (c1_0:Int):Int→Option (Sum Int (Sum Int Int)):=fun v7=>
 if(decide (v7<(s.length:Int)))=true then
  Option.bind (idx s v7) fun e15=>
  Option.bind (m_muster_each_api_Loan_1__muster_isState_4 e15 c1_0) fun x17=>
  if x17=true then
   some (.inr (.inr v7))
  else
   some (.inl (W (v7+1)))
 else
  some (.inr (.inl v7))
def m_slices_IndexFunc_api_Loan_api_Loan__muster_each_api_Loan_1_of_muster_isState_4 (s:(List TLoan)) (c1_0:Int):Option Int:=
 Option.bind (loopF (m_slices_IndexFunc_api_Loan_api_Loan__muster_each_api_Loan_1_of_muster_isState_4_L1 s c1_0) 0) fun e=>
 match e with
 | .inl v20=>
  some (-1)
 | .inr rr21=>
  some rr21
theorem d_slices_IndexFunc_api_Loan_api_Loan__muster_each_api_Loan_1_of_muster_isState_4 (s:(List TLoan)) (c1_0:Int) (r:Int) (hm:m_slices_IndexFunc_api_Loan_api_Loan__muster_each_api_Loan_1_of_muster_isState_4 s c1_0=some r):Does Tryz.prog 190 [lD 6 s TLoan.c, .fn 177 [] [.ptr [.fn 128 [] [.ptr [DI c1_0] 0]] 0]] (fun x=>x=DI r):=by
 refine zn Tryz.func190 rfl ?_
 obtain⟨ev22,he,hk23⟩:=bd_some hm
 refine LoopY.ofL (m_slices_IndexFunc_api_Loan_api_Loan__muster_each_api_Loan_1_of_muster_isState_4_L1 s c1_0) (fun v7=>⟨[(0,lD 6 s TLoan.c),(1, .fn 177 [] [.ptr [.fn 128 [] [.ptr [DI c1_0] 0]] 0]),(4,DI 0),(7,DI (s.length:Int)),(8,DI v7)], [],0⟩) 0 (SubY.of 0 rfl (tA rfl) trivial) he ?_
 rintro fu24 v7 b hm hi25
 apply vb hm<;>intro _ hm
 obtain⟨e27,hx28,hm⟩:=bd_some hm
 refine⟨_,el_idx (fun _=>rfl) hx28, ?_⟩
 refine cy hm (d_muster_each_api_Loan_1__muster_isState_4 e27 c1_0) fun x29 hm=> ?_
 apply vb hm<;>intro _ hm
 cases hm
 cases hi25
 have hm:=hk23
 exact hm.rr
 cases hm
 exact⟨(_,(W (v7+1))),SubY.of 0 rfl (tA rfl) trivial,hi25,Nat.lt_succ_self _⟩
 cases hm
 cases hi25
 have hm:=hk23
 exact hm.rr
def m_slices_ContainsFunc_api_Loan_api_Loan__muster_each_api_Loan_1_of_muster_isState_4 (s:(List TLoan)) (c1_0:Int):Option Bool:=
 Option.bind (m_slices_IndexFunc_api_Loan_api_Loan__muster_each_api_Loan_1_of_muster_isState_4 s c1_0) fun x1=>
 some (decide (x1≥0))
theorem d_slices_ContainsFunc_api_Loan_api_Loan__muster_each_api_Loan_1_of_muster_isState_4 (s:(List TLoan)) (c1_0:Int) (r:Bool) (hm:m_slices_ContainsFunc_api_Loan_api_Loan__muster_each_api_Loan_1_of_muster_isState_4 s c1_0=some r):Does Tryz.prog 165 [lD 6 s TLoan.c, .fn 177 [] [.ptr [.fn 128 [] [.ptr [DI c1_0] 0]] 0]] (fun x=>x=DB r):=by
 refine zn Tryz.func165 rfl ?_
 refine cy hm (d_slices_IndexFunc_api_Loan_api_Loan__muster_each_api_Loan_1_of_muster_isState_4 s c1_0) fun x1 hm=> ?_
 exact hm.rr
def m_muster_each_api_Loan__muster_isState_4 (l:(List TLoan)) (most:Int) (c2_0:Int):Option Bool:=
 if(decide ((l.length:Int)≤most))=true then
  Option.bind (m_slices_ContainsFunc_api_Loan_api_Loan__muster_each_api_Loan_1_of_muster_isState_4 l c2_0) fun x2=>
  some (!x2)
 else
  some false
theorem d_muster_each_api_Loan__muster_isState_4 (l:(List TLoan)) (most:Int) (c2_0:Int) (r:Bool) (hm:m_muster_each_api_Loan__muster_isState_4 l most c2_0=some r):Does Tryz.prog 134 [lD 6 l TLoan.c,DI most, .fn 128 [] [.ptr [DI c2_0] 0]] (fun x=>x=DB r):=by
 refine zn Tryz.func134 rfl ?_
 apply vb hm<;>intro _ hm
 refine co hm (d_slices_ContainsFunc_api_Loan_api_Loan__muster_each_api_Loan_1_of_muster_isState_4 l c2_0) fun x2 hm=> ?_
 exact hm.rr
 exact hm.rr
def m_muster_rises_api_Slot__muster_compareSlots_L1 (l:(List TSlot)):Int→Option (Sum Int (Sum Int Bool)):=fun i9=>
 if(decide (i9<(l.length:Int)))=true then
  Option.bind (idx l (W (i9-1))) fun e19=>
  Option.bind (idx l i9) fun e21=>
  Option.bind (m_muster_compareSlots e19 e21) fun x23=>
  if(decide (x23≥0))=true then
   some (.inr (.inr false))
  else
   some (.inl (W (i9+1)))
 else
  some (.inr (.inl i9))
def m_muster_rises_api_Slot__muster_compareSlots (l:(List TSlot)):Option Bool:=
 Option.bind (loopF (m_muster_rises_api_Slot__muster_compareSlots_L1 l) 1) fun e=>
 match e with
 | .inl i26=>
  some true
 | .inr rr27=>
  some rr27
theorem d_muster_rises_api_Slot__muster_compareSlots (l:(List TSlot)) (r:Bool) (hm:m_muster_rises_api_Slot__muster_compareSlots l=some r):Does Tryz.prog 135 [lD 4 l TSlot.c, .fn 136 [] []] (fun x=>x=DB r):=by
 refine zy pl135 [] [] [] Tryz.func135 rfl ?_
 obtain⟨ev28,he,hk29⟩:=bd_some hm
 refine LoopY.ofL (m_muster_rises_api_Slot__muster_compareSlots_L1 l) (fun i9=>⟨[(0,lD 4 l TSlot.c),(1, .fn 136 [] []),(4,DB false),(5,DI i9)], [],0⟩) 1 (SubY.of 0 rfl (tA rfl) trivial) he ?_
 rintro fu30 i9 b hm hi31
 apply vb hm<;>intro _ hm
 refine⟨rfl, ?_⟩
 obtain⟨e33,hx34,hm⟩:=bd_some hm
 refine⟨_,el_idx (fun _=>rfl) hx34, ?_⟩
 obtain⟨e35,hx36,hm⟩:=bd_some hm
 refine⟨_,el_idx (fun _=>rfl) hx36, ?_⟩
 refine cy hm (d_muster_compareSlots e33 e35) fun x37 hm=> ?_
 apply vb hm<;>intro _ hm
 cases hm
 cases hi31
 have hm:=hk29
 exact hm.rr
 cases hm
 exact⟨(_,(W (i9+1))),SubY.of 0 rfl (tA rfl) trivial,hi31,Nat.lt_succ_self _⟩
 cases hm
 cases hi31
 have hm:=hk29
 exact hm.rr
def m_muster_rises_api_Bid__muster_compareBids_L1 (l:(List TBid)):Int→Option (Sum Int (Sum Int Bool)):=fun i9=>
 if(decide (i9<(l.length:Int)))=true then
  Option.bind (idx l (W (i9-1))) fun e19=>
  Option.bind (idx l i9) fun e21=>
  Option.bind (m_muster_compareBids e19 e21) fun x23=>
  if(decide (x23≥0))=true then
   some (.inr (.inr false))
  else
   some (.inl (W (i9+1)))
 else
  some (.inr (.inl i9))
def m_muster_rises_api_Bid__muster_compareBids (l:(List TBid)):Option Bool:=
 Option.bind (loopF (m_muster_rises_api_Bid__muster_compareBids_L1 l) 1) fun e=>
 match e with
 | .inl i26=>
  some true
 | .inr rr27=>
  some rr27
theorem d_muster_rises_api_Bid__muster_compareBids (l:(List TBid)) (r:Bool) (hm:m_muster_rises_api_Bid__muster_compareBids l=some r):Does Tryz.prog 137 [lD 6 l TBid.c, .fn 89 [] []] (fun x=>x=DB r):=by
 refine zy pl137 [] [] [] Tryz.func137 rfl ?_
 obtain⟨ev28,he,hk29⟩:=bd_some hm
 refine LoopY.ofL (m_muster_rises_api_Bid__muster_compareBids_L1 l) (fun i9=>⟨[(0,lD 6 l TBid.c),(1, .fn 89 [] []),(4,DB false),(5,DI i9)], [],0⟩) 1 (SubY.of 0 rfl (tA rfl) trivial) he ?_
 rintro fu30 i9 b hm hi31
 apply vb hm<;>intro _ hm
 refine⟨rfl, ?_⟩
 obtain⟨e33,hx34,hm⟩:=bd_some hm
 refine⟨_,el_idx (fun _=>rfl) hx34, ?_⟩
 obtain⟨e35,hx36,hm⟩:=bd_some hm
 refine⟨_,el_idx (fun _=>rfl) hx36, ?_⟩
 refine cy hm (d_muster_compareBids e33 e35) fun x37 hm=> ?_
 apply vb hm<;>intro _ hm
 cases hm
 cases hi31
 have hm:=hk29
 exact hm.rr
 cases hm
 exact⟨(_,(W (i9+1))),SubY.of 0 rfl (tA rfl) trivial,hi31,Nat.lt_succ_self _⟩
 cases hm
 cases hi31
 have hm:=hk29
 exact hm.rr
def m_muster_rises_api_Heard__muster_compareHeard_L1 (l:(List THeard)):Int→Option (Sum Int (Sum Int Bool)):=fun i9=>
 if(decide (i9<(l.length:Int)))=true then
  Option.bind (idx l (W (i9-1))) fun e19=>
  Option.bind (idx l i9) fun e21=>
  Option.bind (m_muster_compareHeard e19 e21) fun x23=>
  if(decide (x23≥0))=true then
   some (.inr (.inr false))
  else
   some (.inl (W (i9+1)))
 else
  some (.inr (.inl i9))
def m_muster_rises_api_Heard__muster_compareHeard (l:(List THeard)):Option Bool:=
 Option.bind (loopF (m_muster_rises_api_Heard__muster_compareHeard_L1 l) 1) fun e=>
 match e with
 | .inl i26=>
  some true
 | .inr rr27=>
  some rr27
theorem d_muster_rises_api_Heard__muster_compareHeard (l:(List THeard)) (r:Bool) (hm:m_muster_rises_api_Heard__muster_compareHeard l=some r):Does Tryz.prog 138 [lD 4 l THeard.c, .fn 139 [] []] (fun x=>x=DB r):=by
 refine zy pl138 [] [] [] Tryz.func138 rfl ?_
 obtain⟨ev28,he,hk29⟩:=bd_some hm
 refine LoopY.ofL (m_muster_rises_api_Heard__muster_compareHeard_L1 l) (fun i9=>⟨[(0,lD 4 l THeard.c),(1, .fn 139 [] []),(4,DB false),(5,DI i9)], [],0⟩) 1 (SubY.of 0 rfl (tA rfl) trivial) he ?_
 rintro fu30 i9 b hm hi31
 apply vb hm<;>intro _ hm
 refine⟨rfl, ?_⟩
 obtain⟨e33,hx34,hm⟩:=bd_some hm
 refine⟨_,el_idx (fun _=>rfl) hx34, ?_⟩
 obtain⟨e35,hx36,hm⟩:=bd_some hm
 refine⟨_,el_idx (fun _=>rfl) hx36, ?_⟩
 refine cy hm (d_muster_compareHeard e33 e35) fun x37 hm=> ?_
 apply vb hm<;>intro _ hm
 cases hm
 cases hi31
 have hm:=hk29
 exact hm.rr
 cases hm
 exact⟨(_,(W (i9+1))),SubY.of 0 rfl (tA rfl) trivial,hi31,Nat.lt_succ_self _⟩
 cases hm
 cases hi31
 have hm:=hk29
 exact hm.rr
def m_muster_rises_api_Loan__muster_compareLoans_L1 (l:(List TLoan)):Int→Option (Sum Int (Sum Int Bool)):=fun i9=>
 if(decide (i9<(l.length:Int)))=true then
  Option.bind (idx l (W (i9-1))) fun e19=>
  Option.bind (idx l i9) fun e21=>
  Option.bind (m_muster_compareLoans e19 e21) fun x23=>
  if(decide (x23≥0))=true then
   some (.inr (.inr false))
  else
   some (.inl (W (i9+1)))
 else
  some (.inr (.inl i9))
def m_muster_rises_api_Loan__muster_compareLoans (l:(List TLoan)):Option Bool:=
 Option.bind (loopF (m_muster_rises_api_Loan__muster_compareLoans_L1 l) 1) fun e=>
 match e with
 | .inl i26=>
  some true
 | .inr rr27=>
  some rr27
theorem d_muster_rises_api_Loan__muster_compareLoans (l:(List TLoan)) (r:Bool) (hm:m_muster_rises_api_Loan__muster_compareLoans l=some r):Does Tryz.prog 140 [lD 6 l TLoan.c, .fn 95 [] []] (fun x=>x=DB r):=by
 refine zy pl140 [] [] [] Tryz.func140 rfl ?_
 obtain⟨ev28,he,hk29⟩:=bd_some hm
 refine LoopY.ofL (m_muster_rises_api_Loan__muster_compareLoans_L1 l) (fun i9=>⟨[(0,lD 6 l TLoan.c),(1, .fn 95 [] []),(4,DB false),(5,DI i9)], [],0⟩) 1 (SubY.of 0 rfl (tA rfl) trivial) he ?_
 rintro fu30 i9 b hm hi31
 apply vb hm<;>intro _ hm
 refine⟨rfl, ?_⟩
 obtain⟨e33,hx34,hm⟩:=bd_some hm
 refine⟨_,el_idx (fun _=>rfl) hx34, ?_⟩
 obtain⟨e35,hx36,hm⟩:=bd_some hm
 refine⟨_,el_idx (fun _=>rfl) hx36, ?_⟩
 refine cy hm (d_muster_compareLoans e33 e35) fun x37 hm=> ?_
 apply vb hm<;>intro _ hm
 cases hm
 cases hi31
 have hm:=hk29
 exact hm.rr
 cases hm
 exact⟨(_,(W (i9+1))),SubY.of 0 rfl (tA rfl) trivial,hi31,Nat.lt_succ_self _⟩
 cases hm
 cases hi31
 have hm:=hk29
 exact hm.rr
def m_muster_isState_5 (c:TBid) (c_0:TBid):Option Bool:=
 some (c.Ballot==c_0.Ballot)
theorem d_muster_isState_5 (c:TBid) (c_0:TBid) (r:Bool) (hm:m_muster_isState_5 c c_0=some r):Does Tryz.prog 142 [.agg (TBid.c c), .ptr (TBid.c c_0) 0] (fun x=>x=DB r):=by
 refine zn Tryz.func142 rfl ?_
 exact hm.rr
def m_slices_IndexFunc_api_Bid_api_Bid__muster_isState_5_L1 (s:(List TBid)) (c1_0:TBid):Int→Option (Sum Int (Sum Int Int)):=fun v7=>
 if(decide (v7<(s.length:Int)))=true then
  Option.bind (idx s v7) fun e15=>
  Option.bind (m_muster_isState_5 e15 c1_0) fun x17=>
  if x17=true then
   some (.inr (.inr v7))
  else
   some (.inl (W (v7+1)))
 else
  some (.inr (.inl v7))
def m_slices_IndexFunc_api_Bid_api_Bid__muster_isState_5 (s:(List TBid)) (c1_0:TBid):Option Int:=
 Option.bind (loopF (m_slices_IndexFunc_api_Bid_api_Bid__muster_isState_5_L1 s c1_0) 0) fun e=>
 match e with
 | .inl v20=>
  some (-1)
 | .inr rr21=>
  some rr21
theorem d_slices_IndexFunc_api_Bid_api_Bid__muster_isState_5 (s:(List TBid)) (c1_0:TBid) (r:Int) (hm:m_slices_IndexFunc_api_Bid_api_Bid__muster_isState_5 s c1_0=some r):Does Tryz.prog 178 [lD 6 s TBid.c, .fn 142 [] [.ptr (TBid.c c1_0) 0]] (fun x=>x=DI r):=by
 refine zn Tryz.func178 rfl ?_
 obtain⟨ev22,he,hk23⟩:=bd_some hm
 refine LoopY.ofL (m_slices_IndexFunc_api_Bid_api_Bid__muster_isState_5_L1 s c1_0) (fun v7=>⟨[(0,lD 6 s TBid.c),(1, .fn 142 [] [.ptr (TBid.c c1_0) 0]),(4,DI 0),(7,DI (s.length:Int)),(8,DI v7)], [],0⟩) 0 (SubY.of 0 rfl (tA rfl) trivial) he ?_
 rintro fu24 v7 b hm hi25
 apply vb hm<;>intro _ hm
 obtain⟨e27,hx28,hm⟩:=bd_some hm
 refine⟨_,el_idx (fun _=>rfl) hx28, ?_⟩
 refine cy hm (d_muster_isState_5 e27 c1_0) fun x29 hm=> ?_
 apply vb hm<;>intro _ hm
 cases hm
 cases hi25
 have hm:=hk23
 exact hm.rr
 cases hm
 exact⟨(_,(W (v7+1))),SubY.of 0 rfl (tA rfl) trivial,hi25,Nat.lt_succ_self _⟩
 cases hm
 cases hi25
 have hm:=hk23
 exact hm.rr
def m_slices_ContainsFunc_api_Bid_api_Bid__muster_isState_5 (s:(List TBid)) (c1_0:TBid):Option Bool:=
 Option.bind (m_slices_IndexFunc_api_Bid_api_Bid__muster_isState_5 s c1_0) fun x1=>
 some (decide (x1≥0))
theorem d_slices_ContainsFunc_api_Bid_api_Bid__muster_isState_5 (s:(List TBid)) (c1_0:TBid) (r:Bool) (hm:m_slices_ContainsFunc_api_Bid_api_Bid__muster_isState_5 s c1_0=some r):Does Tryz.prog 141 [lD 6 s TBid.c, .fn 142 [] [.ptr (TBid.c c1_0) 0]] (fun x=>x=DB r):=by
 refine zn Tryz.func141 rfl ?_
 refine cy hm (d_slices_IndexFunc_api_Bid_api_Bid__muster_isState_5 s c1_0) fun x1 hm=> ?_
 exact hm.rr
def m_muster_isState_6 (o:TLease) (c_0:TLease):Option Bool:=
 if(o.Thing==c_0.Thing)=true then
  Option.bind (m_muster_meet o c_0) fun x2=>
  some x2
 else
  some false
theorem d_muster_isState_6 (o:TLease) (c_0:TLease) (r:Bool) (hm:m_muster_isState_6 o c_0=some r):Does Tryz.prog 144 [.agg (TLease.c o), .ptr (TLease.c c_0) 0] (fun x=>x=DB r):=by
 refine zn Tryz.func144 rfl ?_
 apply vb hm<;>intro _ hm
 refine cy hm (d_muster_meet o c_0) fun x2 hm=> ?_
 exact hm.rr
 exact hm.rr
def m_slices_IndexFunc_api_Lease_api_Lease__muster_isState_6_L1 (s:(List TLease)) (c1_0:TLease):Int→Option (Sum Int (Sum Int Int)):=fun v7=>
 if(decide (v7<(s.length:Int)))=true then
  Option.bind (idx s v7) fun e15=>
  Option.bind (m_muster_isState_6 e15 c1_0) fun x17=>
  if x17=true then
   some (.inr (.inr v7))
  else
   some (.inl (W (v7+1)))
 else
  some (.inr (.inl v7))
def m_slices_IndexFunc_api_Lease_api_Lease__muster_isState_6 (s:(List TLease)) (c1_0:TLease):Option Int:=
 Option.bind (loopF (m_slices_IndexFunc_api_Lease_api_Lease__muster_isState_6_L1 s c1_0) 0) fun e=>
 match e with
 | .inl v20=>
  some (-1)
 | .inr rr21=>
  some rr21
theorem d_slices_IndexFunc_api_Lease_api_Lease__muster_isState_6 (s:(List TLease)) (c1_0:TLease) (r:Int) (hm:m_slices_IndexFunc_api_Lease_api_Lease__muster_isState_6 s c1_0=some r):Does Tryz.prog 179 [lD 5 s TLease.c, .fn 144 [] [.ptr (TLease.c c1_0) 0]] (fun x=>x=DI r):=by
 refine zn Tryz.func179 rfl ?_
 obtain⟨ev22,he,hk23⟩:=bd_some hm
 refine LoopY.ofL (m_slices_IndexFunc_api_Lease_api_Lease__muster_isState_6_L1 s c1_0) (fun v7=>⟨[(0,lD 5 s TLease.c),(1, .fn 144 [] [.ptr (TLease.c c1_0) 0]),(4,DI 0),(7,DI (s.length:Int)),(8,DI v7)], [],0⟩) 0 (SubY.of 0 rfl (tA rfl) trivial) he ?_
 rintro fu24 v7 b hm hi25
 apply vb hm<;>intro _ hm
 obtain⟨e27,hx28,hm⟩:=bd_some hm
 refine⟨_,el_idx (fun _=>rfl) hx28, ?_⟩
 refine cy hm (d_muster_isState_6 e27 c1_0) fun x29 hm=> ?_
 apply vb hm<;>intro _ hm
 cases hm
 cases hi25
 have hm:=hk23
 exact hm.rr
 cases hm
 exact⟨(_,(W (v7+1))),SubY.of 0 rfl (tA rfl) trivial,hi25,Nat.lt_succ_self _⟩
 cases hm
 cases hi25
 have hm:=hk23
 exact hm.rr
def m_slices_ContainsFunc_api_Lease_api_Lease__muster_isState_6 (s:(List TLease)) (c1_0:TLease):Option Bool:=
 Option.bind (m_slices_IndexFunc_api_Lease_api_Lease__muster_isState_6 s c1_0) fun x1=>
 some (decide (x1≥0))
theorem d_slices_ContainsFunc_api_Lease_api_Lease__muster_isState_6 (s:(List TLease)) (c1_0:TLease) (r:Bool) (hm:m_slices_ContainsFunc_api_Lease_api_Lease__muster_isState_6 s c1_0=some r):Does Tryz.prog 143 [lD 5 s TLease.c, .fn 144 [] [.ptr (TLease.c c1_0) 0]] (fun x=>x=DB r):=by
 refine zn Tryz.func143 rfl ?_
 refine cy hm (d_slices_IndexFunc_api_Lease_api_Lease__muster_isState_6 s c1_0) fun x1 hm=> ?_
 exact hm.rr
def m_muster_isState_L1 (s:TState):Int→Option (Sum Int (Sum Int Bool)):=fun v41=>
 if(decide (v41<(s.Bids.length:Int)))=true then
  Option.bind (idx s.Bids v41) fun e50=>
  gd ((0≤v41∧v41≤(s.Bids.length:Int)))<|
  Option.bind (some (sub s.Bids 0 (v41).toNat)) fun sl52=>
  Option.bind (m_slices_ContainsFunc_api_Bid_api_Bid__muster_isState_5 sl52 e50) fun x53=>
  if x53=true then
   some (.inr (.inr false))
  else
   some (.inl (W (v41+1)))
 else
  some (.inr (.inl v41))
def m_muster_isState_L2 (s:TState):Int→Option (Sum Int (Sum Int Bool)):=fun v65=>
 if(decide (v65<(s.Leases.length:Int)))=true then
  Option.bind (idx s.Leases v65) fun e75=>
  if(e75.No !=(W (v65+1)))=true then
   some (.inr (.inr false))
  else
   gd ((0≤v65∧v65≤(s.Leases.length:Int)))<|
   Option.bind (some (sub s.Leases 0 (v65).toNat)) fun sl78=>
   Option.bind (m_slices_ContainsFunc_api_Lease_api_Lease__muster_isState_6 sl78 e75) fun x79=>
   if x79=true then
    some (.inr (.inr false))
   else
    some (.inl (W (v65+1)))
 else
  some (.inr (.inl v65))
def m_muster_isState (me:Int) (s:TState):Option Bool:=
 Option.bind (m_muster_isDepot me) fun x1=>
 if(!x1)=true then
  some false
 else
  Option.bind (m_muster_within s.Round 0 9999) fun x4=>
  if(!x4)=true then
   some false
  else
   Option.bind (m_muster_each_api_Slot__muster_isSlot s.Slots 12) fun x7=>
   if(!x7)=true then
    some false
   else
    Option.bind (m_muster_each_api_Bid__muster_isState_1 s.Bids 12 s me) fun x10=>
    if(!x10)=true then
     some false
    else
     Option.bind (m_muster_each_api_Heard__muster_isState_2 s.Heard 60) fun x13=>
     if(!x13)=true then
      some false
     else
      Option.bind (m_muster_each_api_Lease__muster_isState_3 s.Leases 40 me) fun x16=>
      if(!x16)=true then
       some false
      else
       Option.bind (m_muster_each_api_Loan__muster_isState_4 s.Loans 60 me) fun x19=>
       if(!x19)=true then
        some false
       else
        Option.bind (m_muster_rises_api_Slot__muster_compareSlots s.Slots) fun x22=>
        if(!x22)=true then
         some false
        else
         Option.bind (m_muster_rises_api_Bid__muster_compareBids s.Bids) fun x25=>
         if(!x25)=true then
          some false
         else
          Option.bind (m_muster_rises_api_Heard__muster_compareHeard s.Heard) fun x28=>
          if(!x28)=true then
           some false
          else
           Option.bind (m_muster_rises_api_Loan__muster_compareLoans s.Loans) fun x31=>
           if(!x31)=true then
            some false
           else
            Option.bind (loopF (m_muster_isState_L1 s) 0) fun e=>
            match e with
            | .inl v56=>
             Option.bind (loopF (m_muster_isState_L2 s) 0) fun e=>
             match e with
             | .inl v82=>
              some true
             | .inr rr83=>
              some rr83
            | .inr rr96=>
             some rr96
theorem d_muster_isState (me:Int) (s:TState) (r:Bool) (hm:m_muster_isState me s=some r):Does Tryz.prog 73 [DI me, .agg (TState.c s)] (fun x=>x=DB r):=by
 refine zn Tryz.func73 rfl ?_
 refine cy hm (d_muster_isDepot me) fun x1 hm=> ?_
 apply vb hm<;>intro _ hm
 exact hm.rr
 refine cy hm (d_muster_within s.Round 0 9999) fun x4 hm=> ?_
 apply vb hm<;>intro _ hm
 exact hm.rr
 refine cy hm (d_muster_each_api_Slot__muster_isSlot s.Slots 12) fun x7 hm=> ?_
 apply vb hm<;>intro _ hm
 exact hm.rr
 refine co hm (d_muster_each_api_Bid__muster_isState_1 s.Bids 12 s me) fun x10 hm=> ?_
 apply vb hm<;>intro _ hm
 exact hm.rr
 refine cy hm (d_muster_each_api_Heard__muster_isState_2 s.Heard 60) fun x13 hm=> ?_
 apply vb hm<;>intro _ hm
 exact hm.rr
 refine co hm (d_muster_each_api_Lease__muster_isState_3 s.Leases 40 me) fun x16 hm=> ?_
 apply vb hm<;>intro _ hm
 exact hm.rr
 refine co hm (d_muster_each_api_Loan__muster_isState_4 s.Loans 60 me) fun x19 hm=> ?_
 apply vb hm<;>intro _ hm
 exact hm.rr
 refine cy hm (d_muster_rises_api_Slot__muster_compareSlots s.Slots) fun x22 hm=> ?_
 apply vb hm<;>intro _ hm
 exact hm.rr
 refine cy hm (d_muster_rises_api_Bid__muster_compareBids s.Bids) fun x25 hm=> ?_
 apply vb hm<;>intro _ hm
 exact hm.rr
 refine cy hm (d_muster_rises_api_Heard__muster_compareHeard s.Heard) fun x28 hm=> ?_
 apply vb hm<;>intro _ hm
 exact hm.rr
 refine cy hm (d_muster_rises_api_Loan__muster_compareLoans s.Loans) fun x31 hm=> ?_
 apply vb hm<;>intro _ hm
 exact hm.rr
 obtain⟨ev97,he,hk98⟩:=bd_some hm
 refine LoopY.ofL (m_muster_isState_L1 s) (fun v41=>⟨[(0,DI me),(1, .agg (TState.c s)),(2, .own 0 0),(3, .own 1 0),(4,DB false),(5, .fn 122 [] [.own 1 0, .own 0 0]),(6, .fn 124 [] []),(7, .fn 126 [] [.own 0 0]),(8, .fn 128 [] [.own 0 0]),(58,DB (!x19)),(80,DB (!x31)),(82,lD 6 s.Bids TBid.c),(83,DI (s.Bids.length:Int)),(84,DI v41)], [(0, .blk [DI me] 3),(1, .blk (TState.c s) 28)],2⟩) 0 (SubY.of 2 rfl (tA rfl) ⟨hR rfl,hR rfl,trivial⟩) he ?_
 rintro fu99 v41 b hm hi100
 apply vb hm<;>intro _ hm
 obtain⟨e102,hx103,hm⟩:=bd_some hm
 refine⟨_,el_idx (fun _=>rfl) hx103, ?_⟩
 obtain⟨hg,hm⟩:=gd_some hm
 obtain⟨sl104,hy,hm⟩:=bd_some hm
 refine⟨hg,_,(flat_sub (c:=TBid.c) (z:=6) (fun _=>rfl) _ _ _).trans (congrArg _ (Option.some.inj hy)), ?_⟩
 have hl:sl104.length=(v41).toNat-0:=by rw [←Option.some.inj hy];exact sub_len (by omega)
 rw [←hl]
 refine co hm (d_slices_ContainsFunc_api_Bid_api_Bid__muster_isState_5 sl104 e102) fun x105 hm=> ?_
 apply vb hm<;>intro _ hm
 cases hm
 cases hi100
 have hm:=hk98
 exact hm.rr
 cases hm
 exact⟨(_,(W (v41+1))),SubY.of 2 rfl (tA rfl) ⟨hR rfl,hR rfl,trivial⟩,hi100,Nat.lt_succ_self _⟩
 cases hm
 cases hi100
 have hm:=hk98
 obtain⟨ev135,he,hk136⟩:=bd_some hm
 refine LoopY.ofL (m_muster_isState_L2 s) (fun v116=>⟨[(0,DI me),(1, .agg (TState.c s)),(2, .own 0 0),(3, .own 1 0),(4,DB false),(5, .fn 122 [] [.own 1 0, .own 0 0]),(6, .fn 124 [] []),(7, .fn 126 [] [.own 0 0]),(8, .fn 128 [] [.own 0 0]),(58,DB (!x19)),(80,DB (!x31)),(82,lD 6 s.Bids TBid.c),(83,DI (s.Bids.length:Int)),(84,DI v41),(85,DB (decide (v41<(s.Bids.length:Int)))),(97,lD 5 s.Leases TLease.c),(98,DI (s.Leases.length:Int)),(99,DI v116)], [(0, .blk [DI me] 3),(1, .blk (TState.c s) 28)],2⟩) 0 (SubY.of 2 rfl (tA rfl) ⟨hR rfl,hR rfl,trivial⟩) he ?_
 rintro fu137 v116 b hm hi138
 apply vb hm<;>intro _ hm
 obtain⟨e140,hx141,hm⟩:=bd_some hm
 refine⟨_,el_idx (fun _=>rfl) hx141, ?_⟩
 apply vb hm<;>intro _ hm
 cases hm
 cases hi138
 have hm:=hk136
 exact hm.rr
 obtain⟨hg,hm⟩:=gd_some hm
 obtain⟨sl143,hy,hm⟩:=bd_some hm
 refine⟨hg,_,(flat_sub (c:=TLease.c) (z:=5) (fun _=>rfl) _ _ _).trans (congrArg _ (Option.some.inj hy)), ?_⟩
 have hl:sl143.length=(v116).toNat-0:=by rw [←Option.some.inj hy];exact sub_len (by omega)
 rw [←hl]
 refine co hm (d_slices_ContainsFunc_api_Lease_api_Lease__muster_isState_6 sl143 e140) fun x144 hm=> ?_
 apply vb hm<;>intro _ hm
 cases hm
 cases hi138
 have hm:=hk136
 exact hm.rr
 cases hm
 exact⟨(_,(W (v116+1))),SubY.of 2 rfl (tA rfl) ⟨hR rfl,hR rfl,trivial⟩,hi138,Nat.lt_succ_self _⟩
 cases hm
 cases hi138
 have hm:=hk136
 exact hm.rr
def m_muster_Check (x:TStation):Option Int:=
 Option.bind (m_muster_isState x.Me x.Now) fun x1=>
 if(!x1)=true then
  some 90
 else
  Option.bind (m_muster_isState x.Me x.Safe) fun x4=>
  if(!x4)=true then
   some 90
  else
   some 0
theorem d_muster_Check (x:TStation) (r:Int) (hm:m_muster_Check x=some r):Does Tryz.prog 27 [.agg (TStation.c x)] (fun x=>x=DI r):=by
 refine zn Tryz.func27 rfl ?_
 refine cy hm (d_muster_isState x.Me x.Now) fun x1 hm=> ?_
 apply vb hm<;>intro _ hm
 exact hm.rr
 refine cy hm (d_muster_isState x.Me x.Safe) fun x4 hm=> ?_
 apply vb hm<;>intro _ hm
 exact hm.rr
 exact hm.rr
def m_slices_Clone_api_Slot_api_Slot (s:List TSlot):Option (List TSlot):=gd (s.length*32≤140737488355328∧s.length≤9223372036854775807) (some s)
theorem d_slices_Clone_api_Slot_api_Slot (s:List TSlot) (r:List TSlot) (hm:m_slices_Clone_api_Slot_api_Slot s=some r):Does Tryz.prog 112 [.lst 4 s.length (s.flatMap TSlot.c)] (fun x=>x= .lst 4 r.length (r.flatMap TSlot.c)):=by
 obtain⟨hg,hm⟩:=gd_some hm
 cases hm
 refine zn Tryz.func112 rfl ?_
 intro b hb
 refine VIf.mk (fun h=> ?_) (fun h=> ?_)
 · have h0:=hb h
   have h1:s= []:=List.eq_nil_of_length_eq_zero h0
   subst h1
   exact RetY.le leD.nil
 · refine⟨[],0,⟨rfl,rfl⟩, ?_⟩
   exact⟨by omega,s.flatMap TSlot.c,s.length,⟨rfl,Nat.zero_add _⟩,RetY.le (leD.refl _)⟩
theorem u_slices_Clone_api_Slot_api_Slot (s:List TSlot) (r:List TSlot) (hm:m_slices_Clone_api_Slot_api_Slot s=some r):DoesU Tryz.prog 112 [.lst 4 s.length (s.flatMap TSlot.c)] 4 r.length (r.flatMap TSlot.c) 110:=by
 obtain⟨hg,hm⟩:=gd_some hm
 cases hm
 refine does_zu (X:=⟨Tryz.prog,tt,Tryz.f112.ntmps, [], [], [], [], [], []⟩) pok _ Tryz.func112 rfl rfl (Nat.le_of_ble_eq_true rfl) ?_
 intro b hb
 refine VIf.mk (fun h=> ?_) (fun h=> ?_)
 · have h0:=hb h
   have h1:s= []:=List.eq_nil_of_length_eq_zero h0
   subst h1
   exact⟨rfl,rfl⟩
 · refine⟨[],0,⟨rfl,rfl⟩, ?_⟩
   exact⟨by omega,s.flatMap TSlot.c,s.length,⟨rfl,Nat.zero_add _⟩,⟨rfl,rfl⟩⟩
def m_slices_Clone_api_Bid_api_Bid (s:List TBid):Option (List TBid):=gd (s.length*48≤140737488355328∧s.length≤9223372036854775807) (some s)
theorem d_slices_Clone_api_Bid_api_Bid (s:List TBid) (r:List TBid) (hm:m_slices_Clone_api_Bid_api_Bid s=some r):Does Tryz.prog 113 [.lst 6 s.length (s.flatMap TBid.c)] (fun x=>x= .lst 6 r.length (r.flatMap TBid.c)):=by
 obtain⟨hg,hm⟩:=gd_some hm
 cases hm
 refine zn Tryz.func113 rfl ?_
 intro b hb
 refine VIf.mk (fun h=> ?_) (fun h=> ?_)
 · have h0:=hb h
   have h1:s= []:=List.eq_nil_of_length_eq_zero h0
   subst h1
   exact RetY.le leD.nil
 · refine⟨[],0,⟨rfl,rfl⟩, ?_⟩
   exact⟨by omega,s.flatMap TBid.c,s.length,⟨rfl,Nat.zero_add _⟩,RetY.le (leD.refl _)⟩
theorem u_slices_Clone_api_Bid_api_Bid (s:List TBid) (r:List TBid) (hm:m_slices_Clone_api_Bid_api_Bid s=some r):DoesU Tryz.prog 113 [.lst 6 s.length (s.flatMap TBid.c)] 6 r.length (r.flatMap TBid.c) 108:=by
 obtain⟨hg,hm⟩:=gd_some hm
 cases hm
 refine does_zu (X:=⟨Tryz.prog,tt,Tryz.f113.ntmps, [], [], [], [], [], []⟩) pok _ Tryz.func113 rfl rfl (Nat.le_of_ble_eq_true rfl) ?_
 intro b hb
 refine VIf.mk (fun h=> ?_) (fun h=> ?_)
 · have h0:=hb h
   have h1:s= []:=List.eq_nil_of_length_eq_zero h0
   subst h1
   exact⟨rfl,rfl⟩
 · refine⟨[],0,⟨rfl,rfl⟩, ?_⟩
   exact⟨by omega,s.flatMap TBid.c,s.length,⟨rfl,Nat.zero_add _⟩,⟨rfl,rfl⟩⟩
def m_slices_Clone_api_Heard_api_Heard (s:List THeard):Option (List THeard):=gd (s.length*32≤140737488355328∧s.length≤9223372036854775807) (some s)
theorem d_slices_Clone_api_Heard_api_Heard (s:List THeard) (r:List THeard) (hm:m_slices_Clone_api_Heard_api_Heard s=some r):Does Tryz.prog 114 [.lst 4 s.length (s.flatMap THeard.c)] (fun x=>x= .lst 4 r.length (r.flatMap THeard.c)):=by
 obtain⟨hg,hm⟩:=gd_some hm
 cases hm
 refine zn Tryz.func114 rfl ?_
 intro b hb
 refine VIf.mk (fun h=> ?_) (fun h=> ?_)
 · have h0:=hb h
   have h1:s= []:=List.eq_nil_of_length_eq_zero h0
   subst h1
   exact RetY.le leD.nil
 · refine⟨[],0,⟨rfl,rfl⟩, ?_⟩
   exact⟨by omega,s.flatMap THeard.c,s.length,⟨rfl,Nat.zero_add _⟩,RetY.le (leD.refl _)⟩
theorem u_slices_Clone_api_Heard_api_Heard (s:List THeard) (r:List THeard) (hm:m_slices_Clone_api_Heard_api_Heard s=some r):DoesU Tryz.prog 114 [.lst 4 s.length (s.flatMap THeard.c)] 4 r.length (r.flatMap THeard.c) 149:=by
 obtain⟨hg,hm⟩:=gd_some hm
 cases hm
 refine does_zu (X:=⟨Tryz.prog,tt,Tryz.f114.ntmps, [], [], [], [], [], []⟩) pok _ Tryz.func114 rfl rfl (Nat.le_of_ble_eq_true rfl) ?_
 intro b hb
 refine VIf.mk (fun h=> ?_) (fun h=> ?_)
 · have h0:=hb h
   have h1:s= []:=List.eq_nil_of_length_eq_zero h0
   subst h1
   exact⟨rfl,rfl⟩
 · refine⟨[],0,⟨rfl,rfl⟩, ?_⟩
   exact⟨by omega,s.flatMap THeard.c,s.length,⟨rfl,Nat.zero_add _⟩,⟨rfl,rfl⟩⟩
def m_slices_Clone_api_Lease_api_Lease (s:List TLease):Option (List TLease):=gd (s.length*40≤140737488355328∧s.length≤9223372036854775807) (some s)
theorem d_slices_Clone_api_Lease_api_Lease (s:List TLease) (r:List TLease) (hm:m_slices_Clone_api_Lease_api_Lease s=some r):Does Tryz.prog 115 [.lst 5 s.length (s.flatMap TLease.c)] (fun x=>x= .lst 5 r.length (r.flatMap TLease.c)):=by
 obtain⟨hg,hm⟩:=gd_some hm
 cases hm
 refine zn Tryz.func115 rfl ?_
 intro b hb
 refine VIf.mk (fun h=> ?_) (fun h=> ?_)
 · have h0:=hb h
   have h1:s= []:=List.eq_nil_of_length_eq_zero h0
   subst h1
   exact RetY.le leD.nil
 · refine⟨[],0,⟨rfl,rfl⟩, ?_⟩
   exact⟨by omega,s.flatMap TLease.c,s.length,⟨rfl,Nat.zero_add _⟩,RetY.le (leD.refl _)⟩
theorem u_slices_Clone_api_Lease_api_Lease (s:List TLease) (r:List TLease) (hm:m_slices_Clone_api_Lease_api_Lease s=some r):DoesU Tryz.prog 115 [.lst 5 s.length (s.flatMap TLease.c)] 5 r.length (r.flatMap TLease.c) 112:=by
 obtain⟨hg,hm⟩:=gd_some hm
 cases hm
 refine does_zu (X:=⟨Tryz.prog,tt,Tryz.f115.ntmps, [], [], [], [], [], []⟩) pok _ Tryz.func115 rfl rfl (Nat.le_of_ble_eq_true rfl) ?_
 intro b hb
 refine VIf.mk (fun h=> ?_) (fun h=> ?_)
 · have h0:=hb h
   have h1:s= []:=List.eq_nil_of_length_eq_zero h0
   subst h1
   exact⟨rfl,rfl⟩
 · refine⟨[],0,⟨rfl,rfl⟩, ?_⟩
   exact⟨by omega,s.flatMap TLease.c,s.length,⟨rfl,Nat.zero_add _⟩,⟨rfl,rfl⟩⟩
def m_slices_Clone_api_Loan_api_Loan (s:List TLoan):Option (List TLoan):=gd (s.length*48≤140737488355328∧s.length≤9223372036854775807) (some s)
theorem d_slices_Clone_api_Loan_api_Loan (s:List TLoan) (r:List TLoan) (hm:m_slices_Clone_api_Loan_api_Loan s=some r):Does Tryz.prog 116 [.lst 6 s.length (s.flatMap TLoan.c)] (fun x=>x= .lst 6 r.length (r.flatMap TLoan.c)):=by
 obtain⟨hg,hm⟩:=gd_some hm
 cases hm
 refine zn Tryz.func116 rfl ?_
 intro b hb
 refine VIf.mk (fun h=> ?_) (fun h=> ?_)
 · have h0:=hb h
   have h1:s= []:=List.eq_nil_of_length_eq_zero h0
   subst h1
   exact RetY.le leD.nil
 · refine⟨[],0,⟨rfl,rfl⟩, ?_⟩
   exact⟨by omega,s.flatMap TLoan.c,s.length,⟨rfl,Nat.zero_add _⟩,RetY.le (leD.refl _)⟩
theorem u_slices_Clone_api_Loan_api_Loan (s:List TLoan) (r:List TLoan) (hm:m_slices_Clone_api_Loan_api_Loan s=some r):DoesU Tryz.prog 116 [.lst 6 s.length (s.flatMap TLoan.c)] 6 r.length (r.flatMap TLoan.c) 114:=by
 obtain⟨hg,hm⟩:=gd_some hm
 cases hm
 refine does_zu (X:=⟨Tryz.prog,tt,Tryz.f116.ntmps, [], [], [], [], [], []⟩) pok _ Tryz.func116 rfl rfl (Nat.le_of_ble_eq_true rfl) ?_
 intro b hb
 refine VIf.mk (fun h=> ?_) (fun h=> ?_)
 · have h0:=hb h
   have h1:s= []:=List.eq_nil_of_length_eq_zero h0
   subst h1
   exact⟨rfl,rfl⟩
 · refine⟨[],0,⟨rfl,rfl⟩, ?_⟩
   exact⟨by omega,s.flatMap TLoan.c,s.length,⟨rfl,Nat.zero_add _⟩,⟨rfl,rfl⟩⟩
def m_muster_copied (s:TState):Option TState:=
 Option.bind (m_slices_Clone_api_Slot_api_Slot s.Slots) fun x1=>
 Option.bind (m_slices_Clone_api_Bid_api_Bid s.Bids) fun x3=>
 Option.bind (m_slices_Clone_api_Heard_api_Heard s.Heard) fun x5=>
 Option.bind (m_slices_Clone_api_Lease_api_Lease s.Leases) fun x7=>
 Option.bind (m_slices_Clone_api_Loan_api_Loan s.Loans) fun x9=>
 some (⟨s.Round,x1,x3,x5,x7,x9⟩:TState)
theorem d_muster_copied (s:TState) (r:TState) (hm:m_muster_copied s=some r):Does Tryz.prog 62 [.agg (TState.c s)] (fun x=>x= .agg (TState.c r)):=by
 refine zy pl62 [] [] [] Tryz.func62 rfl ?_
 refine⟨rfl, ?_⟩
 obtain⟨x1,hx2,hm⟩:=bd_some hm
 refine CallY.det (d_slices_Clone_api_Slot_api_Slot s.Slots _ hx2) ?_
 obtain⟨x3,hx4,hm⟩:=bd_some hm
 refine CallY.det (d_slices_Clone_api_Bid_api_Bid s.Bids _ hx4) ?_
 obtain⟨x5,hx6,hm⟩:=bd_some hm
 refine CallY.det (d_slices_Clone_api_Heard_api_Heard s.Heard _ hx6) ?_
 obtain⟨x7,hx8,hm⟩:=bd_some hm
 refine CallY.det (d_slices_Clone_api_Lease_api_Lease s.Leases _ hx8) ?_
 obtain⟨x9,hx10,hm⟩:=bd_some hm
 refine CallY.det (d_slices_Clone_api_Loan_api_Loan s.Loans _ hx10) ?_
 cases hm
 exact RetY.le (leD.refl _)
theorem dm_muster_copied (s:TState) (r:TState) (hm:m_muster_copied s=some r):DoesM Tryz.prog 62 [.agg (TState.c s)] [(4,r.Slots.length,r.Slots.flatMap TSlot.c,110),(6,r.Bids.length,r.Bids.flatMap TBid.c,108),(4,r.Heard.length,r.Heard.flatMap THeard.c,149),(5,r.Leases.length,r.Leases.flatMap TLease.c,112),(6,r.Loans.length,r.Loans.flatMap TLoan.c,114)] [DI r.Round, .row 0 4, .row 1 6, .row 2 4, .row 3 5, .row 4 6]:=by
 refine does_zm (X:=⟨Tryz.prog,tt,Tryz.f62.ntmps,pl62, [99,106,149,210,211,220], [112,113,114,115,116], [], [], []⟩) pok _ Tryz.func62 rfl rfl (Nat.le_of_ble_eq_true rfl) rfl ?_
 refine⟨rfl, ?_⟩
 obtain⟨x1,hx2,hm⟩:=bd_some hm
 refine .inl (CallU.mk ⟨_,_,_,_,u_slices_Clone_api_Slot_api_Slot s.Slots _ hx2, ?_⟩)
 obtain⟨x3,hx4,hm⟩:=bd_some hm
 refine .inl (CallU.mk ⟨_,_,_,_,u_slices_Clone_api_Bid_api_Bid s.Bids _ hx4, ?_⟩)
 obtain⟨x5,hx6,hm⟩:=bd_some hm
 refine .inl (CallU.mk ⟨_,_,_,_,u_slices_Clone_api_Heard_api_Heard s.Heard _ hx6, ?_⟩)
 obtain⟨x7,hx8,hm⟩:=bd_some hm
 refine .inl (CallU.mk ⟨_,_,_,_,u_slices_Clone_api_Lease_api_Lease s.Leases _ hx8, ?_⟩)
 obtain⟨x9,hx10,hm⟩:=bd_some hm
 refine .inl (CallU.mk ⟨_,_,_,_,u_slices_Clone_api_Loan_api_Loan s.Loans _ hx10, ?_⟩)
 cases hm
 exact⟨rfl,⟨⟨rfl,rfl⟩,⟨⟨rfl,rfl,rfl,rfl⟩,⟨⟨rfl,rfl,rfl,rfl⟩,⟨⟨rfl,rfl,rfl,rfl⟩,⟨⟨rfl,rfl,rfl,rfl⟩,⟨⟨rfl,rfl,rfl,rfl⟩,rfl⟩⟩⟩⟩⟩⟩⟩
def m_muster_open (x:TStation):Option ((Option Tpost)×Int):=
 Option.bind (m_muster_Check x) fun x1=>
 if(x1 !=0)=true then
  some (none,x1)
 else
  Option.bind (m_muster_copied x.Now) fun x4=>
  Option.bind (m_muster_copied x.Safe) fun x6=>
  some ((some (⟨(⟨x.Me,x4,x6⟩:TStation)⟩:Tpost)),0)
theorem d_muster_open (x:TStation) (r:((Option Tpost)×Int)) (hm:m_muster_open x=some r):Does Tryz.prog 61 [.agg (TStation.c x)] (fun x=>x= .tup [optp Tpost.c r.1,DI r.2]):=by
 refine zy pl61 [] [] [] Tryz.func61 rfl ?_
 refine cy hm (d_muster_Check x) fun x1 hm=> ?_
 apply vb hm<;>intro _ hm
 cases hm
 exact RetY.le (leD.refl _)
 refine⟨rfl, ?_⟩
 refine cy hm (d_muster_copied x.Now) fun x4 hm=> ?_
 refine cy hm (d_muster_copied x.Safe) fun x6 hm=> ?_
 cases hm
 exact RetY.le (leD.refl _)
def m_IN_muster_open (x:TStation):Option (Sum Int ((List TSlot)×(List TBid)×(List THeard)×(List TLease)×(List TLoan)×(List TSlot)×(List TBid)×(List THeard)×(List TLease)×(List TLoan)×Int×Int×Int)):=
 Option.bind (m_muster_Check x) fun x22=>
 if(x22 !=0)=true then
  some (.inl x22)
 else
  Option.bind (m_muster_copied x.Now) fun x25=>
  Option.bind (m_muster_copied x.Safe) fun x27=>
  some (.inr (x25.Slots,x25.Bids,x25.Heard,x25.Leases,x25.Loans,x27.Slots,x27.Bids,x27.Heard,x27.Leases,x27.Loans,x.Me,x25.Round,x27.Round))
def m_IN_muster_open_1 (x:TStation):Option (Sum Int (Int×Int×(List TSlot)×(List TBid)×(List THeard)×(List TLease)×(List TLoan)×Int×(List TSlot)×(List TBid)×(List THeard)×(List TLease)×(List TLoan))):=
 Option.bind (m_muster_Check x) fun x22=>
 if(x22 !=0)=true then
  some (.inl x22)
 else
  Option.bind (m_muster_copied x.Now) fun x25=>
  Option.bind (m_muster_copied x.Safe) fun x27=>
  some (.inr (x.Me,x25.Round,x25.Slots,x25.Bids,x25.Heard,x25.Leases,x25.Loans,x27.Round,x27.Slots,x27.Bids,x27.Heard,x27.Leases,x27.Loans))
def m_muster_Write (x:TStation):Option (TStation×Int):=
 Option.bind (m_IN_muster_open_1 x) fun e=>
 match e with
 | .inl x8=>
  if(x8 !=0)=true then
   some ((⟨0,(⟨0, [], [], [], [], []⟩:TState),(⟨0, [], [], [], [], []⟩:TState)⟩:TStation),x8)
  else
   none
 | .inr (x9,x10,x11,x12,x13,x14,x15,x16,x17,x18,x19,x20,x21)=>
  Option.bind (m_muster_copied (⟨x10,x11,x12,x13,x14,x15⟩:TState)) fun x32=>
  some ((⟨x9,(⟨x10,x11,x12,x13,x14,x15⟩:TState),x32⟩:TStation),0)
theorem d_muster_Write (x:TStation) (r:(TStation×Int)) (hm:m_muster_Write x=some r):Does Tryz.prog 12 [.agg (TStation.c x)] (fun x=>x= .tup [.agg (TStation.c r.1),DI r.2]):=by
 refine zy [] [] [] [61] Tryz.func12 rfl ?_
 obtain⟨ev29,he30,hm⟩:=bd_some hm
 refine CallIn.ofZ pok ⟨[(0, .agg (TStation.c x)),(1000000, .agg (TStation.c x)),(1000001, .own 0 0),(1000002, .own 1 0),(1000003,DI 0)], [(0, .blk (TStation.c x) 30),(1, .blk [DI 0,DI 0, .v (.slice none 0 0), .v (.slice none 0 0), .v (.slice none 0 0), .v (.slice none 0 0), .v (.slice none 0 0),DI 0, .v (.slice none 0 0), .v (.slice none 0 0), .v (.slice none 0 0), .v (.slice none 0 0), .v (.slice none 0 0)] 30)],2⟩ (match ev29 with| .inl x8=>(⟨[(0, .agg (TStation.c x)),(1, .own 0 0),(2, .own 1 0),(3,DI 0),(8, .tup [.v (.pointer none),DI x8])], [(0, .blk (TStation.c x) 30),(1, .blk [DI 0,DI 0, .v (.slice none 0 0), .v (.slice none 0 0), .v (.slice none 0 0), .v (.slice none 0 0), .v (.slice none 0 0),DI 0, .v (.slice none 0 0), .v (.slice none 0 0), .v (.slice none 0 0), .v (.slice none 0 0), .v (.slice none 0 0)] 30)],2⟩:Sy)| .inr (x9,x10,x11,x12,x13,x14,x15,x16,x17,x18,x19,x20,x21)=>(⟨[(0, .agg (TStation.c x)),(1, .own 0 0),(2, .own 1 0),(3,DI 0),(8, .tup [.own 3 0,DI 0])], [(0, .blk (TStation.c x) 30),(1, .blk [DI 0,DI 0, .v (.slice none 0 0), .v (.slice none 0 0), .v (.slice none 0 0), .v (.slice none 0 0), .v (.slice none 0 0),DI 0, .v (.slice none 0 0), .v (.slice none 0 0), .v (.slice none 0 0), .v (.slice none 0 0), .v (.slice none 0 0)] 30),(3, .blk [DI x9,DI x10,lD 4 x11 TSlot.c,lD 6 x12 TBid.c,lD 4 x13 THeard.c,lD 5 x14 TLease.c,lD 6 x15 TLoan.c,DI x16,lD 4 x17 TSlot.c,lD 6 x18 TBid.c,lD 4 x19 THeard.c,lD 5 x20 TLease.c,lD 6 x21 TLoan.c] 102)],4⟩:Sy):Sy) pl61 [] [] [61] Tryz.func61 rfl rfl rfl (SubY.of 2 rfl (tA rfl) ⟨hR rfl,hR rfl,trivial⟩) (fun sv=> ?_) ?_
 have hm:=he30
 refine cy hm (d_muster_Check x) fun x34 hm=> ?_
 apply vb hm<;>intro _ hm
 cases hm
 exact SubY.of 2 rfl (tA rfl) ⟨hR rfl,hR rfl,trivial⟩
 refine⟨rfl, ?_⟩
 refine cy hm (d_muster_copied x.Now) fun x37 hm=> ?_
 refine cy hm (d_muster_copied x.Safe) fun x39 hm=> ?_
 cases hm
 exact SubY.of 4 rfl (tA rfl) ⟨hR rfl,hR rfl,hR rfl,trivial⟩
 rcases ev29 with x8|⟨x9,x10,x11,x12,x13,x14,x15,x16,x17,x18,x19,x20,x21⟩
 apply vb hm<;>intro _ hm
 cases hm
 exact RetY.le (⟨_,rfl,⟨⟨_,rfl,⟨leD.refl _,leD.refl _,leD.nil,leD.nil,leD.nil,leD.nil,leD.nil,leD.refl _,leD.nil,leD.nil,leD.nil,leD.nil,leD.nil,trivial⟩⟩,leD.refl _,trivial⟩⟩)
 cases hm
 refine cy hm (d_muster_copied ((⟨x10,x11,x12,x13,x14,x15⟩:TState))) fun x32 hm=> ?_
 cases hm
 exact RetY.le (leD.refl _)
def m_R09_In (n:Int) (lo:Int) (hi:Int):Option Bool:=
 if(decide (lo≤n))=true then
  some (decide (n≤hi))
 else
  some false
theorem d_R09_In (n:Int) (lo:Int) (hi:Int) (r:Bool) (hm:m_R09_In n lo hi=some r):Does Tryz.prog 74 [DI n,DI lo,DI hi] (fun x=>x=DB r):=by
 refine zn Tryz.func74 rfl ?_
 apply vb hm<;>intro _ hm
 exact hm.rr
 exact hm.rr
def m_R09_isDepot (n:Int):Option Bool:=
 Option.bind (m_R09_In n 0 5) fun x1=>
 some x1
theorem d_R09_isDepot (n:Int) (r:Bool) (hm:m_R09_isDepot n=some r):Does Tryz.prog 67 [DI n] (fun x=>x=DB r):=by
 refine zn Tryz.func67 rfl ?_
 refine cy hm (d_R09_In n 0 5) fun x1 hm=> ?_
 exact hm.rr
def m_R09_isNight (n:Int):Option Bool:=
 Option.bind (m_R09_In n 0 100000) fun x1=>
 some x1
theorem d_R09_isNight (n:Int) (r:Bool) (hm:m_R09_isNight n=some r):Does Tryz.prog 82 [DI n] (fun x=>x=DB r):=by
 refine zn Tryz.func82 rfl ?_
 refine cy hm (d_R09_In n 0 100000) fun x1 hm=> ?_
 exact hm.rr
def m_R09_isBallot (n:Int):Option Bool:=
 Option.bind (m_R09_In n 6 59999) fun x1=>
 some x1
theorem d_R09_isBallot (n:Int) (r:Bool) (hm:m_R09_isBallot n=some r):Does Tryz.prog 83 [DI n] (fun x=>x=DB r):=by
 refine zn Tryz.func83 rfl ?_
 refine cy hm (d_R09_In n 6 59999) fun x1 hm=> ?_
 exact hm.rr
def m_R09_isValue (n:Int):Option Bool:=
 Option.bind (m_R09_In n 1 1000000) fun x1=>
 some x1
theorem d_R09_isValue (n:Int) (r:Bool) (hm:m_R09_isValue n=some r):Does Tryz.prog 85 [DI n] (fun x=>x=DB r):=by
 refine zn Tryz.func85 rfl ?_
 refine cy hm (d_R09_In n 1 1000000) fun x1 hm=> ?_
 exact hm.rr
def m_R09_areSlots_L1 (l:(List TSlot)):Int→Option (Sum Int (Sum Int Bool)):=fun i25=>
 if(decide (i25<(l.length:Int)))=true then
  Option.bind (idx l i25) fun e71=>
  Option.bind (m_R09_isNight e71.Night) fun x73=>
  if(!x73)=true then
   some (.inr (.inr false))
  else
   if(decide (i25>0))=true then
    Option.bind (idx l (W (i25-1))) fun e77=>
    if(decide (e77.Night≥e71.Night))=true then
     some (.inr (.inr false))
    else
     Option.bind (m_R09_isBallot e71.Promised) fun x80=>
     if(!x80)=true then
      some (.inr (.inr false))
     else
      if(e71.Ballot==0)=true then
       if(!(e71.Value==0))=true then
        Option.bind (m_R09_In e71.Ballot 6 e71.Promised) fun x85=>
        if(!x85)=true then
         some (.inr (.inr false))
        else
         Option.bind (m_R09_isValue e71.Value) fun x88=>
         if(!x88)=true then
          some (.inr (.inr false))
         else
          some (.inl (W (i25+1)))
       else
        some (.inl (W (i25+1)))
      else
       Option.bind (m_R09_In e71.Ballot 6 e71.Promised) fun x91=>
       if(!x91)=true then
        some (.inr (.inr false))
       else
        Option.bind (m_R09_isValue e71.Value) fun x94=>
        if(!x94)=true then
         some (.inr (.inr false))
        else
         some (.inl (W (i25+1)))
   else
    Option.bind (m_R09_isBallot e71.Promised) fun x97=>
    if(!x97)=true then
     some (.inr (.inr false))
    else
     if(e71.Ballot==0)=true then
      if(!(e71.Value==0))=true then
       Option.bind (m_R09_In e71.Ballot 6 e71.Promised) fun x102=>
       if(!x102)=true then
        some (.inr (.inr false))
       else
        Option.bind (m_R09_isValue e71.Value) fun x105=>
        if(!x105)=true then
         some (.inr (.inr false))
        else
         some (.inl (W (i25+1)))
      else
       some (.inl (W (i25+1)))
     else
      Option.bind (m_R09_In e71.Ballot 6 e71.Promised) fun x108=>
      if(!x108)=true then
       some (.inr (.inr false))
      else
       Option.bind (m_R09_isValue e71.Value) fun x111=>
       if(!x111)=true then
        some (.inr (.inr false))
       else
        some (.inl (W (i25+1)))
 else
  some (.inr (.inl i25))
def m_R09_areSlots (l:(List TSlot)):Option Bool:=
 if(decide ((l.length:Int)>12))=true then
  some false
 else
  Option.bind (loopF (m_R09_areSlots_L1 l) 0) fun e=>
  match e with
  | .inl i114=>
   some true
  | .inr rr115=>
   some rr115
theorem d_R09_areSlots (l:(List TSlot)) (r:Bool) (hm:m_R09_areSlots l=some r):Does Tryz.prog 75 [lD 4 l TSlot.c] (fun x=>x=DB r):=by
 refine zy pl75 [] [] [] Tryz.func75 rfl ?_
 apply vb hm<;>intro _ hm
 exact hm.rr
 obtain⟨ev116,he,hk117⟩:=bd_some hm
 refine LoopY.ofL (m_R09_areSlots_L1 l) (fun i25=>⟨[(0,lD 4 l TSlot.c),(2,DB false),(3,DI i25),(8,DB (decide ((l.length:Int)>12)))], [],0⟩) 0 (SubY.of 0 rfl (tA rfl) trivial) he ?_
 rintro fu118 i25 b hm hi119
 apply vb hm<;>intro _ hm
 obtain⟨e121,hx122,hm⟩:=bd_some hm
 refine⟨_,el_idx (fun _=>rfl) hx122, ?_⟩
 refine⟨rfl, ?_⟩
 refine cy hm (d_R09_isNight e121.Night) fun x123 hm=> ?_
 apply vb hm<;>intro _ hm
 cases hm
 cases hi119
 have hm:=hk117
 exact hm.rr
 apply vb hm<;>intro _ hm
 obtain⟨e127,hx128,hm⟩:=bd_some hm
 refine⟨_,el_idx (fun _=>rfl) hx128, ?_⟩
 apply vb hm<;>intro _ hm
 cases hm
 cases hi119
 have hm:=hk117
 exact hm.rr
 refine cy hm (d_R09_isBallot e121.Promised) fun x130 hm=> ?_
 apply vb hm<;>intro _ hm
 cases hm
 cases hi119
 have hm:=hk117
 exact hm.rr
 apply vb hm<;>intro _ hm
 apply vb hm<;>intro _ hm
 refine cy hm (d_R09_In e121.Ballot 6 e121.Promised) fun x135 hm=> ?_
 apply vb hm<;>intro _ hm
 cases hm
 cases hi119
 have hm:=hk117
 exact hm.rr
 refine cy hm (d_R09_isValue e121.Value) fun x138 hm=> ?_
 apply vb hm<;>intro _ hm
 cases hm
 cases hi119
 have hm:=hk117
 exact hm.rr
 cases hm
 exact⟨(_,(W (i25+1))),SubY.of 0 rfl (tA rfl) trivial,hi119,Nat.lt_succ_self _⟩
 cases hm
 exact⟨(_,(W (i25+1))),SubY.of 0 rfl (tA rfl) trivial,hi119,Nat.lt_succ_self _⟩
 refine cy hm (d_R09_In e121.Ballot 6 e121.Promised) fun x141 hm=> ?_
 apply vb hm<;>intro _ hm
 cases hm
 cases hi119
 have hm:=hk117
 exact hm.rr
 refine cy hm (d_R09_isValue e121.Value) fun x144 hm=> ?_
 apply vb hm<;>intro _ hm
 cases hm
 cases hi119
 have hm:=hk117
 exact hm.rr
 cases hm
 exact⟨(_,(W (i25+1))),SubY.of 0 rfl (tA rfl) trivial,hi119,Nat.lt_succ_self _⟩
 refine cy hm (d_R09_isBallot e121.Promised) fun x147 hm=> ?_
 apply vb hm<;>intro _ hm
 cases hm
 cases hi119
 have hm:=hk117
 exact hm.rr
 apply vb hm<;>intro _ hm
 apply vb hm<;>intro _ hm
 refine cy hm (d_R09_In e121.Ballot 6 e121.Promised) fun x152 hm=> ?_
 apply vb hm<;>intro _ hm
 cases hm
 cases hi119
 have hm:=hk117
 exact hm.rr
 refine cy hm (d_R09_isValue e121.Value) fun x155 hm=> ?_
 apply vb hm<;>intro _ hm
 cases hm
 cases hi119
 have hm:=hk117
 exact hm.rr
 cases hm
 exact⟨(_,(W (i25+1))),SubY.of 0 rfl (tA rfl) trivial,hi119,Nat.lt_succ_self _⟩
 cases hm
 exact⟨(_,(W (i25+1))),SubY.of 0 rfl (tA rfl) trivial,hi119,Nat.lt_succ_self _⟩
 refine cy hm (d_R09_In e121.Ballot 6 e121.Promised) fun x158 hm=> ?_
 apply vb hm<;>intro _ hm
 cases hm
 cases hi119
 have hm:=hk117
 exact hm.rr
 refine cy hm (d_R09_isValue e121.Value) fun x161 hm=> ?_
 apply vb hm<;>intro _ hm
 cases hm
 cases hi119
 have hm:=hk117
 exact hm.rr
 cases hm
 exact⟨(_,(W (i25+1))),SubY.of 0 rfl (tA rfl) trivial,hi119,Nat.lt_succ_self _⟩
 cases hm
 cases hi119
 have hm:=hk117
 exact hm.rr
def m_R09_Mod (n:Int) (m:Int):Option Int:=
 gd (m≠0)<|
 gd (m≠0)<|
 some ((W ((n.tmod m)+m)).tmod m)
theorem d_R09_Mod (n:Int) (m:Int) (r:Int) (hm:m_R09_Mod n m=some r):Does Tryz.prog 40 [DI n,DI m] (fun x=>x=DI r):=by
 refine zn Tryz.func40 rfl ?_
 obtain⟨hg,hm⟩:=gd_some hm
 refine⟨hg, ?_⟩
 obtain⟨hg,hm⟩:=gd_some hm
 refine⟨hg, ?_⟩
 exact hm.rr
def m_R09_bit (depot:Int):Option Int:=
 gd (0≤depot)<|
 some (W (1*(2^(min depot.toNat IntKind.i64.bits))))
theorem d_R09_bit (depot:Int) (r:Int) (hm:m_R09_bit depot=some r):Does Tryz.prog 161 [DI depot] (fun x=>x=DI r):=by
 refine zn Tryz.func161 rfl ?_
 obtain⟨hg,hm⟩:=gd_some hm
 refine⟨hg, ?_⟩
 exact hm.rr
def m_R09_quorum_L1 (mask:Int):(Int×Int)→Option (Sum (Int×Int) (Int×Int)):=fun(n4,d5)=>
 if(decide (d5<6))=true then
  Option.bind (m_R09_bit d5) fun x11=>
  if((W ((BitVec.ofInt IntKind.i64.bits mask&&&BitVec.ofInt IntKind.i64.bits x11).toNat:Int)) !=0)=true then
   some (.inl ((W (n4+1)),(W (d5+1))))
  else
   some (.inl (n4,(W (d5+1))))
 else
  some (.inr (n4,d5))
def m_R09_quorum (mask:Int):Option Bool:=
 Option.bind (loopF (m_R09_quorum_L1 mask) (0,0)) fun(n14,d15)=>
 some (decide (n14≥4))
theorem d_R09_quorum (mask:Int) (r:Bool) (hm:m_R09_quorum mask=some r):Does Tryz.prog 107 [DI mask] (fun x=>x=DB r):=by
 refine zn Tryz.func107 rfl ?_
 obtain⟨ev16,he,hk17⟩:=bd_some hm
 refine LoopY.ofL (m_R09_quorum_L1 mask) (fun(n4,d5)=>⟨[(0,DI mask),(2,DB false),(3,DI n4),(4,DI d5)], [],0⟩) (0,0) (SubY.of 0 rfl (tA rfl) trivial) he ?_
 rintro fu18 ⟨n4,d5⟩ b hm hi19
 apply vb hm<;>intro _ hm
 refine cy hm (d_R09_bit d5) fun x21 hm=> ?_
 apply vb hm<;>intro _ hm
 cases hm
 exact⟨(_,((W (n4+1)),(W (d5+1)))),SubY.of 0 rfl (tA rfl) trivial,hi19,Nat.lt_succ_self _⟩
 cases hm
 exact⟨(_,(n4,(W (d5+1)))),SubY.of 0 rfl (tA rfl) trivial,hi19,Nat.lt_succ_self _⟩
 cases hm
 cases hi19
 have hm:=hk17
 exact hm.rr
def m_R09_isMask (n:Int):Option Bool:=
 Option.bind (m_R09_In n 0 63) fun x1=>
 some x1
theorem d_R09_isMask (n:Int) (r:Bool) (hm:m_R09_isMask n=some r):Does Tryz.prog 146 [DI n] (fun x=>x=DB r):=by
 refine zn Tryz.func146 rfl ?_
 refine cy hm (d_R09_In n 0 63) fun x1 hm=> ?_
 exact hm.rr
def m_R09_areBids_L5 (l:(List TBid)) (i26:Int) (e104:TBid):Int→Option (Sum Int (Sum Int Bool)):=fun k135=>
 if(decide (k135<i26))=true then
  Option.bind (idx l k135) fun e141=>
  if(e141.Ballot==e104.Ballot)=true then
   some (.inr (.inr false))
  else
   some (.inl (W (k135+1)))
 else
  some (.inr (.inl k135))
def m_R09_areBids_L4 (l:(List TBid)) (me:Int) (round:Int):Int→Option (Sum Int (Sum Int Bool)):=fun i26=>
 if(decide (i26<(l.length:Int)))=true then
  Option.bind (idx l i26) fun e104=>
  Option.bind (m_R09_isNight e104.Night) fun x106=>
  if(!x106)=true then
   some (.inr (.inr false))
  else
   if(decide (i26>0))=true then
    Option.bind (idx l (W (i26-1))) fun e110=>
    if(decide (e110.Night≥e104.Night))=true then
     some (.inr (.inr false))
    else
     Option.bind (m_R09_isValue e104.Value) fun x113=>
     if(!x113)=true then
      some (.inr (.inr false))
     else
      Option.bind (m_R09_In e104.Ballot (W (6+me)) (W ((W (6*round))+me))) fun x116=>
      if(!x116)=true then
       some (.inr (.inr false))
      else
       Option.bind (m_R09_Mod e104.Ballot 6) fun x119=>
       if(x119 !=me)=true then
        some (.inr (.inr false))
       else
        Option.bind (m_R09_In e104.Best 0 (W (e104.Ballot-1))) fun x122=>
        if(!x122)=true then
         some (.inr (.inr false))
        else
         Option.bind (m_R09_isMask e104.Mask) fun x125=>
         if(!x125)=true then
          some (.inr (.inr false))
         else
          Option.bind (m_R09_quorum e104.Mask) fun x128=>
          if(!(e104.Asked==x128))=true then
           some (.inr (.inr false))
          else
           Option.bind (loopF (m_R09_areBids_L5 l i26 e104) 0) fun e=>
           match e with
           | .inl k144=>
            some (.inl (W (i26+1)))
           | .inr rr145=>
            some (.inr (.inr rr145))
   else
    Option.bind (m_R09_isValue e104.Value) fun x154=>
    if(!x154)=true then
     some (.inr (.inr false))
    else
     Option.bind (m_R09_In e104.Ballot (W (6+me)) (W ((W (6*round))+me))) fun x157=>
     if(!x157)=true then
      some (.inr (.inr false))
     else
      Option.bind (m_R09_Mod e104.Ballot 6) fun x160=>
      if(x160 !=me)=true then
       some (.inr (.inr false))
      else
       Option.bind (m_R09_In e104.Best 0 (W (e104.Ballot-1))) fun x163=>
       if(!x163)=true then
        some (.inr (.inr false))
       else
        Option.bind (m_R09_isMask e104.Mask) fun x166=>
        if(!x166)=true then
         some (.inr (.inr false))
        else
         Option.bind (m_R09_quorum e104.Mask) fun x169=>
         if(!(e104.Asked==x169))=true then
          some (.inr (.inr false))
         else
          Option.bind (loopF (m_R09_areBids_L5 l i26 e104) 0) fun e=>
          match e with
          | .inl k185=>
           some (.inl (W (i26+1)))
          | .inr rr186=>
           some (.inr (.inr rr186))
 else
  some (.inr (.inl i26))
def m_R09_areBids (l:(List TBid)) (me:Int) (round:Int):Option Bool:=
 if(decide ((l.length:Int)>12))=true then
  some false
 else
  Option.bind (loopF (m_R09_areBids_L4 l me round) 0) fun e=>
  match e with
  | .inl i195=>
   some true
  | .inr rr196=>
   some rr196
theorem d_R09_areBids (l:(List TBid)) (me:Int) (round:Int) (r:Bool) (hm:m_R09_areBids l me round=some r):Does Tryz.prog 76 [lD 6 l TBid.c,DI me,DI round] (fun x=>x=DB r):=by
 refine zy pl76 [] [] [] Tryz.func76 rfl ?_
 apply vb hm<;>intro _ hm
 exact hm.rr
 obtain⟨ev197,he,hk198⟩:=bd_some hm
 refine LoopY.ofL (m_R09_areBids_L4 l me round) (fun i26=>⟨[(0,lD 6 l TBid.c),(1,DI me),(2,DI round),(6,DB false),(7,DI i26),(12,DB (decide ((l.length:Int)>12)))], [],0⟩) 0 (SubY.of 0 rfl (tA rfl) trivial) he ?_
 rintro fu199 i26 b hm hi200
 apply vb hm<;>intro _ hm
 obtain⟨e202,hx203,hm⟩:=bd_some hm
 refine⟨_,el_idx (fun _=>rfl) hx203, ?_⟩
 refine⟨rfl, ?_⟩
 refine cy hm (d_R09_isNight e202.Night) fun x204 hm=> ?_
 apply vb hm<;>intro _ hm
 cases hm
 cases hi200
 have hm:=hk198
 exact hm.rr
 apply vb hm<;>intro _ hm
 obtain⟨e208,hx209,hm⟩:=bd_some hm
 refine⟨_,el_idx (fun _=>rfl) hx209, ?_⟩
 apply vb hm<;>intro _ hm
 cases hm
 cases hi200
 have hm:=hk198
 exact hm.rr
 refine cy hm (d_R09_isValue e202.Value) fun x211 hm=> ?_
 apply vb hm<;>intro _ hm
 cases hm
 cases hi200
 have hm:=hk198
 exact hm.rr
 refine cy hm (d_R09_In e202.Ballot (W (6+me)) (W ((W (6*round))+me))) fun x214 hm=> ?_
 apply vb hm<;>intro _ hm
 cases hm
 cases hi200
 have hm:=hk198
 exact hm.rr
 refine cy hm (d_R09_Mod e202.Ballot 6) fun x217 hm=> ?_
 apply vb hm<;>intro _ hm
 cases hm
 cases hi200
 have hm:=hk198
 exact hm.rr
 refine⟨rfl, ?_⟩
 refine cy hm (d_R09_In e202.Best 0 (W (e202.Ballot-1))) fun x220 hm=> ?_
 apply vb hm<;>intro _ hm
 cases hm
 cases hi200
 have hm:=hk198
 exact hm.rr
 refine cy hm (d_R09_isMask e202.Mask) fun x223 hm=> ?_
 apply vb hm<;>intro _ hm
 cases hm
 cases hi200
 have hm:=hk198
 exact hm.rr
 refine cy hm (d_R09_quorum e202.Mask) fun x226 hm=> ?_
 apply vb hm<;>intro _ hm
 cases hm
 cases hi200
 have hm:=hk198
 exact hm.rr
 obtain⟨ev244,he,hk245⟩:=bd_some hm
 refine LoopY.ofL (m_R09_areBids_L5 l i26 e202) (fun k233=>⟨[(0,lD 6 l TBid.c),(1,DI me),(2,DI round),(6,DB false),(7,DI i26),(8, .own 0 0),(9,DI k233),(12,DB (decide ((l.length:Int)>12))),(16,DB (decide (i26<(l.length:Int)))),(47,DB (!x211)),(64,DB (x217 !=me)),(85,DB (!(e202.Asked==x226)))], [(0, .blk (TBid.c e202) 108)],1⟩) 0 (SubY.of 1 rfl (tA rfl) ⟨hR rfl,trivial⟩) he ?_
 rintro fu246 k233 b hm hi247
 apply vb hm<;>intro _ hm
 refine⟨rfl, ?_⟩
 obtain⟨e249,hx250,hm⟩:=bd_some hm
 refine⟨_,el_idx (fun _=>rfl) hx250, ?_⟩
 apply vb hm<;>intro _ hm
 cases hm
 cases hi247
 have hm:=hk245
 cases hm
 cases hi200
 have hm:=hk198
 exact hm.rr
 cases hm
 exact⟨(_,(W (k233+1))),SubY.of 1 rfl (tA rfl) ⟨hR rfl,trivial⟩,hi247,Nat.lt_succ_self _⟩
 cases hm
 cases hi247
 have hm:=hk245
 cases hm
 exact⟨(_,(W (i26+1))),SubY.of 0 rfl (tA rfl) trivial,hi200,Nat.lt_succ_self _⟩
 refine cy hm (d_R09_isValue e202.Value) fun x252 hm=> ?_
 apply vb hm<;>intro _ hm
 cases hm
 cases hi200
 have hm:=hk198
 exact hm.rr
 refine cy hm (d_R09_In e202.Ballot (W (6+me)) (W ((W (6*round))+me))) fun x255 hm=> ?_
 apply vb hm<;>intro _ hm
 cases hm
 cases hi200
 have hm:=hk198
 exact hm.rr
 refine cy hm (d_R09_Mod e202.Ballot 6) fun x258 hm=> ?_
 apply vb hm<;>intro _ hm
 cases hm
 cases hi200
 have hm:=hk198
 exact hm.rr
 refine⟨rfl, ?_⟩
 refine cy hm (d_R09_In e202.Best 0 (W (e202.Ballot-1))) fun x261 hm=> ?_
 apply vb hm<;>intro _ hm
 cases hm
 cases hi200
 have hm:=hk198
 exact hm.rr
 refine cy hm (d_R09_isMask e202.Mask) fun x264 hm=> ?_
 apply vb hm<;>intro _ hm
 cases hm
 cases hi200
 have hm:=hk198
 exact hm.rr
 refine cy hm (d_R09_quorum e202.Mask) fun x267 hm=> ?_
 apply vb hm<;>intro _ hm
 cases hm
 cases hi200
 have hm:=hk198
 exact hm.rr
 obtain⟨ev285,he,hk286⟩:=bd_some hm
 refine LoopY.ofL (m_R09_areBids_L5 l i26 e202) (fun k274=>⟨[(0,lD 6 l TBid.c),(1,DI me),(2,DI round),(6,DB false),(7,DI i26),(8, .own 0 0),(9,DI k274),(12,DB (decide ((l.length:Int)>12))),(16,DB (decide (i26<(l.length:Int)))),(47,DB (!x252)),(64,DB (x258 !=me)),(85,DB (!(e202.Asked==x267)))], [(0, .blk (TBid.c e202) 108)],1⟩) 0 (SubY.of 1 rfl (tA rfl) ⟨hR rfl,trivial⟩) he ?_
 rintro fu287 k274 b hm hi288
 apply vb hm<;>intro _ hm
 refine⟨rfl, ?_⟩
 obtain⟨e290,hx291,hm⟩:=bd_some hm
 refine⟨_,el_idx (fun _=>rfl) hx291, ?_⟩
 apply vb hm<;>intro _ hm
 cases hm
 cases hi288
 have hm:=hk286
 cases hm
 cases hi200
 have hm:=hk198
 exact hm.rr
 cases hm
 exact⟨(_,(W (k274+1))),SubY.of 1 rfl (tA rfl) ⟨hR rfl,trivial⟩,hi288,Nat.lt_succ_self _⟩
 cases hm
 cases hi288
 have hm:=hk286
 cases hm
 exact⟨(_,(W (i26+1))),SubY.of 0 rfl (tA rfl) trivial,hi200,Nat.lt_succ_self _⟩
 cases hm
 cases hi200
 have hm:=hk198
 exact hm.rr
def m_R09_areHeard_L1 (l:(List THeard)):Int→Option (Sum Int (Sum Int Bool)):=fun i18=>
 if(decide (i18<(l.length:Int)))=true then
  Option.bind (idx l i18) fun e46=>
  Option.bind (m_R09_isNight e46.Night) fun x48=>
  if(!x48)=true then
   some (.inr (.inr false))
  else
   Option.bind (m_R09_isBallot e46.Ballot) fun x51=>
   if(!x51)=true then
    some (.inr (.inr false))
   else
    Option.bind (m_R09_isValue e46.Value) fun x54=>
    if(!x54)=true then
     some (.inr (.inr false))
    else
     Option.bind (m_R09_isMask e46.Mask) fun x57=>
     if(!x57)=true then
      some (.inr (.inr false))
     else
      if(e46.Mask==0)=true then
       some (.inr (.inr false))
      else
       if(decide (i18>0))=true then
        Option.bind (idx l (W (i18-1))) fun e62=>
        if(decide (e62.Ballot>e46.Ballot))=true then
         some (.inr (.inr false))
        else
         Option.bind (idx l (W (i18-1))) fun e65=>
         if(e65.Ballot==e46.Ballot)=true then
          Option.bind (idx l (W (i18-1))) fun e68=>
          if(decide (e68.Night≥e46.Night))=true then
           some (.inr (.inr false))
          else
           some (.inl (W (i18+1)))
         else
          some (.inl (W (i18+1)))
       else
        some (.inl (W (i18+1)))
 else
  some (.inr (.inl i18))
def m_R09_areHeard (l:(List THeard)):Option Bool:=
 if(decide ((l.length:Int)>60))=true then
  some false
 else
  Option.bind (loopF (m_R09_areHeard_L1 l) 0) fun e=>
  match e with
  | .inl i71=>
   some true
  | .inr rr72=>
   some rr72
theorem d_R09_areHeard (l:(List THeard)) (r:Bool) (hm:m_R09_areHeard l=some r):Does Tryz.prog 77 [lD 4 l THeard.c] (fun x=>x=DB r):=by
 refine zy pl77 [] [] [] Tryz.func77 rfl ?_
 apply vb hm<;>intro _ hm
 exact hm.rr
 obtain⟨ev73,he,hk74⟩:=bd_some hm
 refine LoopY.ofL (m_R09_areHeard_L1 l) (fun i18=>⟨[(0,lD 4 l THeard.c),(2,DB false),(3,DI i18),(7,DB (decide ((l.length:Int)>60)))], [],0⟩) 0 (SubY.of 0 rfl (tA rfl) trivial) he ?_
 rintro fu75 i18 b hm hi76
 apply vb hm<;>intro _ hm
 obtain⟨e78,hx79,hm⟩:=bd_some hm
 refine⟨_,el_idx (fun _=>rfl) hx79, ?_⟩
 refine cy hm (d_R09_isNight e78.Night) fun x80 hm=> ?_
 apply vb hm<;>intro _ hm
 cases hm
 cases hi76
 have hm:=hk74
 exact hm.rr
 refine cy hm (d_R09_isBallot e78.Ballot) fun x83 hm=> ?_
 apply vb hm<;>intro _ hm
 cases hm
 cases hi76
 have hm:=hk74
 exact hm.rr
 refine cy hm (d_R09_isValue e78.Value) fun x86 hm=> ?_
 apply vb hm<;>intro _ hm
 cases hm
 cases hi76
 have hm:=hk74
 exact hm.rr
 refine cy hm (d_R09_isMask e78.Mask) fun x89 hm=> ?_
 apply vb hm<;>intro _ hm
 cases hm
 cases hi76
 have hm:=hk74
 exact hm.rr
 apply vb hm<;>intro _ hm
 cases hm
 cases hi76
 have hm:=hk74
 exact hm.rr
 refine⟨rfl, ?_⟩
 apply vb hm<;>intro _ hm
 obtain⟨e94,hx95,hm⟩:=bd_some hm
 refine⟨_,el_idx (fun _=>rfl) hx95, ?_⟩
 apply vb hm<;>intro _ hm
 cases hm
 cases hi76
 have hm:=hk74
 exact hm.rr
 obtain⟨e97,hx98,hm⟩:=bd_some hm
 refine⟨_,el_idx (fun _=>rfl) hx98, ?_⟩
 apply vb hm<;>intro _ hm
 obtain⟨e100,hx101,hm⟩:=bd_some hm
 refine⟨_,el_idx (fun _=>rfl) hx101, ?_⟩
 apply vb hm<;>intro _ hm
 cases hm
 cases hi76
 have hm:=hk74
 exact hm.rr
 cases hm
 exact⟨(_,(W (i18+1))),SubY.of 0 rfl (tA rfl) trivial,hi76,Nat.lt_succ_self _⟩
 cases hm
 exact⟨(_,(W (i18+1))),SubY.of 0 rfl (tA rfl) trivial,hi76,Nat.lt_succ_self _⟩
 cases hm
 exact⟨(_,(W (i18+1))),SubY.of 0 rfl (tA rfl) trivial,hi76,Nat.lt_succ_self _⟩
 cases hm
 cases hi76
 have hm:=hk74
 exact hm.rr
def m_R09_isThing (n:Int):Option Bool:=
 Option.bind (m_R09_In n 1 99) fun x1=>
 some x1
theorem d_R09_isThing (n:Int) (r:Bool) (hm:m_R09_isThing n=some r):Does Tryz.prog 72 [DI n] (fun x=>x=DB r):=by
 refine zn Tryz.func72 rfl ?_
 refine cy hm (d_R09_In n 1 99) fun x1 hm=> ?_
 exact hm.rr
def m_R09_isMoment (n:Int):Option Bool:=
 Option.bind (m_R09_In n 0 144001439) fun x1=>
 some x1
theorem d_R09_isMoment (n:Int) (r:Bool) (hm:m_R09_isMoment n=some r):Does Tryz.prog 84 [DI n] (fun x=>x=DB r):=by
 refine zn Tryz.func84 rfl ?_
 refine cy hm (d_R09_In n 0 144001439) fun x1 hm=> ?_
 exact hm.rr
def m_R09_meet (a:TLease) (b_:TLease):Option Bool:=
 if(a.Thing==b_.Thing)=true then
  some (decide ((if b_.From>a.From then b_.From else a.From)<(if b_.Until<a.Until then b_.Until else a.Until)))
 else
  some false
theorem d_R09_meet (a:TLease) (b_:TLease) (r:Bool) (hm:m_R09_meet a b_=some r):Does Tryz.prog 93 [.agg (TLease.c a), .agg (TLease.c b_)] (fun x=>x=DB r):=by
 refine zn Tryz.func93 rfl ?_
 apply vb hm<;>intro _ hm
 exact hm.rr
 exact hm.rr
def m_R09_areLeases_L4 (l:(List TLease)) (i21:Int) (e63:TLease):Int→Option (Sum Int (Sum Int Bool)):=fun k87=>
 if(decide (k87<i21))=true then
  Option.bind (idx l k87) fun e95=>
  Option.bind (m_R09_meet e95 e63) fun x97=>
  if x97=true then
   some (.inr (.inr false))
  else
   some (.inl (W (k87+1)))
 else
  some (.inr (.inl k87))
def m_R09_areLeases_L3 (l:(List TLease)) (me:Int):Int→Option (Sum Int (Sum Int Bool)):=fun i21=>
 if(decide (i21<(l.length:Int)))=true then
  Option.bind (idx l i21) fun e63=>
  if(e63.No !=(W (i21+1)))=true then
   some (.inr (.inr false))
  else
   Option.bind (m_R09_isThing e63.Thing) fun x66=>
   if(!x66)=true then
    some (.inr (.inr false))
   else
    if((e63.Thing.tmod 6) !=me)=true then
     some (.inr (.inr false))
    else
     Option.bind (m_R09_isDepot e63.To) fun x70=>
     if(!x70)=true then
      some (.inr (.inr false))
     else
      if(e63.To==me)=true then
       some (.inr (.inr false))
      else
       Option.bind (m_R09_isMoment e63.From) fun x74=>
       if(!x74)=true then
        some (.inr (.inr false))
       else
        Option.bind (m_R09_isMoment e63.Until) fun x77=>
        if(!x77)=true then
         some (.inr (.inr false))
        else
         if(decide (e63.From>e63.Until))=true then
          some (.inr (.inr false))
         else
          Option.bind (loopF (m_R09_areLeases_L4 l i21 e63) 0) fun e=>
          match e with
          | .inl k100=>
           some (.inl (W (i21+1)))
          | .inr rr101=>
           some (.inr (.inr rr101))
 else
  some (.inr (.inl i21))
def m_R09_areLeases (l:(List TLease)) (me:Int):Option Bool:=
 if(decide ((l.length:Int)>40))=true then
  some false
 else
  Option.bind (loopF (m_R09_areLeases_L3 l me) 0) fun e=>
  match e with
  | .inl i112=>
   some true
  | .inr rr113=>
   some rr113
theorem d_R09_areLeases (l:(List TLease)) (me:Int) (r:Bool) (hm:m_R09_areLeases l me=some r):Does Tryz.prog 78 [lD 5 l TLease.c,DI me] (fun x=>x=DB r):=by
 refine zy pl78 [] [] [] Tryz.func78 rfl ?_
 apply vb hm<;>intro _ hm
 exact hm.rr
 obtain⟨ev114,he,hk115⟩:=bd_some hm
 refine LoopY.ofL (m_R09_areLeases_L3 l me) (fun i21=>⟨[(0,lD 5 l TLease.c),(1,DI me),(4,DB false),(5,DI i21),(10,DB (decide ((l.length:Int)>40)))], [],0⟩) 0 (SubY.of 0 rfl (tA rfl) trivial) he ?_
 rintro fu116 i21 b hm hi117
 apply vb hm<;>intro _ hm
 obtain⟨e119,hx120,hm⟩:=bd_some hm
 refine⟨_,el_idx (fun _=>rfl) hx120, ?_⟩
 apply vb hm<;>intro _ hm
 cases hm
 cases hi117
 have hm:=hk115
 exact hm.rr
 refine cy hm (d_R09_isThing e119.Thing) fun x122 hm=> ?_
 apply vb hm<;>intro _ hm
 cases hm
 cases hi117
 have hm:=hk115
 exact hm.rr
 refine⟨by decide, ?_⟩
 apply vb hm<;>intro _ hm
 cases hm
 cases hi117
 have hm:=hk115
 exact hm.rr
 refine cy hm (d_R09_isDepot e119.To) fun x126 hm=> ?_
 apply vb hm<;>intro _ hm
 cases hm
 cases hi117
 have hm:=hk115
 exact hm.rr
 apply vb hm<;>intro _ hm
 cases hm
 cases hi117
 have hm:=hk115
 exact hm.rr
 refine cy hm (d_R09_isMoment e119.From) fun x130 hm=> ?_
 apply vb hm<;>intro _ hm
 cases hm
 cases hi117
 have hm:=hk115
 exact hm.rr
 refine cy hm (d_R09_isMoment e119.Until) fun x133 hm=> ?_
 apply vb hm<;>intro _ hm
 cases hm
 cases hi117
 have hm:=hk115
 exact hm.rr
 apply vb hm<;>intro _ hm
 cases hm
 cases hi117
 have hm:=hk115
 exact hm.rr
 obtain⟨ev158,he,hk159⟩:=bd_some hm
 refine LoopY.ofL (m_R09_areLeases_L4 l i21 e119) (fun k143=>⟨[(0,lD 5 l TLease.c),(1,DI me),(4,DB false),(5,DI i21),(6, .own 0 0),(7,DI k143),(10,DB (decide ((l.length:Int)>40))),(14,DB (decide (i21<(l.length:Int)))),(69,DB (decide (e119.From>e119.Until)))], [(0, .blk (TLease.c e119) 112)],1⟩) 0 (SubY.of 1 rfl (tA rfl) ⟨hR rfl,trivial⟩) he ?_
 rintro fu160 k143 b hm hi161
 apply vb hm<;>intro _ hm
 refine⟨rfl, ?_⟩
 obtain⟨e163,hx164,hm⟩:=bd_some hm
 refine⟨_,el_idx (fun _=>rfl) hx164, ?_⟩
 refine cy hm (d_R09_meet e163 e119) fun x165 hm=> ?_
 apply vb hm<;>intro _ hm
 cases hm
 cases hi161
 have hm:=hk159
 cases hm
 cases hi117
 have hm:=hk115
 exact hm.rr
 cases hm
 exact⟨(_,(W (k143+1))),SubY.of 1 rfl (tA rfl) ⟨hR rfl,trivial⟩,hi161,Nat.lt_succ_self _⟩
 cases hm
 cases hi161
 have hm:=hk159
 cases hm
 exact⟨(_,(W (i21+1))),SubY.of 0 rfl (tA rfl) trivial,hi117,Nat.lt_succ_self _⟩
 cases hm
 cases hi117
 have hm:=hk115
 exact hm.rr
def m_R09_areLoans_L1 (l:(List TLoan)) (me:Int):Int→Option (Sum Int (Sum Int Bool)):=fun i23=>
 if(decide (i23<(l.length:Int)))=true then
  Option.bind (idx l i23) fun e56=>
  Option.bind (m_R09_isDepot e56.Owner) fun x58=>
  if(!x58)=true then
   some (.inr (.inr false))
  else
   if(e56.Owner==me)=true then
    some (.inr (.inr false))
   else
    Option.bind (m_R09_In e56.No 1 40) fun x62=>
    if(!x62)=true then
     some (.inr (.inr false))
    else
     Option.bind (m_R09_isThing e56.Thing) fun x65=>
     if(!x65)=true then
      some (.inr (.inr false))
     else
      if((e56.Thing.tmod 6) !=e56.Owner)=true then
       some (.inr (.inr false))
      else
       Option.bind (m_R09_isMoment e56.From) fun x69=>
       if(!x69)=true then
        some (.inr (.inr false))
       else
        Option.bind (m_R09_isMoment e56.Until) fun x72=>
        if(!x72)=true then
         some (.inr (.inr false))
        else
         if(decide (e56.From>e56.Until))=true then
          some (.inr (.inr false))
         else
          if(decide (i23>0))=true then
           Option.bind (idx l (W (i23-1))) fun e77=>
           if(decide (e77.Owner>e56.Owner))=true then
            some (.inr (.inr false))
           else
            Option.bind (idx l (W (i23-1))) fun e80=>
            if(e80.Owner==e56.Owner)=true then
             Option.bind (idx l (W (i23-1))) fun e83=>
             if(decide (e83.No≥e56.No))=true then
              some (.inr (.inr false))
             else
              some (.inl (W (i23+1)))
            else
             some (.inl (W (i23+1)))
          else
           some (.inl (W (i23+1)))
 else
  some (.inr (.inl i23))
def m_R09_areLoans (l:(List TLoan)) (me:Int):Option Bool:=
 if(decide ((l.length:Int)>60))=true then
  some false
 else
  Option.bind (loopF (m_R09_areLoans_L1 l me) 0) fun e=>
  match e with
  | .inl i86=>
   some true
  | .inr rr87=>
   some rr87
theorem d_R09_areLoans (l:(List TLoan)) (me:Int) (r:Bool) (hm:m_R09_areLoans l me=some r):Does Tryz.prog 79 [lD 6 l TLoan.c,DI me] (fun x=>x=DB r):=by
 refine zy pl79 [] [] [] Tryz.func79 rfl ?_
 apply vb hm<;>intro _ hm
 exact hm.rr
 obtain⟨ev88,he,hk89⟩:=bd_some hm
 refine LoopY.ofL (m_R09_areLoans_L1 l me) (fun i23=>⟨[(0,lD 6 l TLoan.c),(1,DI me),(4,DB false),(5,DI i23),(9,DB (decide ((l.length:Int)>60)))], [],0⟩) 0 (SubY.of 0 rfl (tA rfl) trivial) he ?_
 rintro fu90 i23 b hm hi91
 apply vb hm<;>intro _ hm
 obtain⟨e93,hx94,hm⟩:=bd_some hm
 refine⟨_,el_idx (fun _=>rfl) hx94, ?_⟩
 refine cy hm (d_R09_isDepot e93.Owner) fun x95 hm=> ?_
 apply vb hm<;>intro _ hm
 cases hm
 cases hi91
 have hm:=hk89
 exact hm.rr
 apply vb hm<;>intro _ hm
 cases hm
 cases hi91
 have hm:=hk89
 exact hm.rr
 refine cy hm (d_R09_In e93.No 1 40) fun x99 hm=> ?_
 apply vb hm<;>intro _ hm
 cases hm
 cases hi91
 have hm:=hk89
 exact hm.rr
 refine cy hm (d_R09_isThing e93.Thing) fun x102 hm=> ?_
 apply vb hm<;>intro _ hm
 cases hm
 cases hi91
 have hm:=hk89
 exact hm.rr
 refine⟨by decide, ?_⟩
 apply vb hm<;>intro _ hm
 cases hm
 cases hi91
 have hm:=hk89
 exact hm.rr
 refine cy hm (d_R09_isMoment e93.From) fun x106 hm=> ?_
 apply vb hm<;>intro _ hm
 cases hm
 cases hi91
 have hm:=hk89
 exact hm.rr
 refine cy hm (d_R09_isMoment e93.Until) fun x109 hm=> ?_
 apply vb hm<;>intro _ hm
 cases hm
 cases hi91
 have hm:=hk89
 exact hm.rr
 apply vb hm<;>intro _ hm
 cases hm
 cases hi91
 have hm:=hk89
 exact hm.rr
 refine⟨rfl, ?_⟩
 apply vb hm<;>intro _ hm
 obtain⟨e114,hx115,hm⟩:=bd_some hm
 refine⟨_,el_idx (fun _=>rfl) hx115, ?_⟩
 apply vb hm<;>intro _ hm
 cases hm
 cases hi91
 have hm:=hk89
 exact hm.rr
 obtain⟨e117,hx118,hm⟩:=bd_some hm
 refine⟨_,el_idx (fun _=>rfl) hx118, ?_⟩
 apply vb hm<;>intro _ hm
 obtain⟨e120,hx121,hm⟩:=bd_some hm
 refine⟨_,el_idx (fun _=>rfl) hx121, ?_⟩
 apply vb hm<;>intro _ hm
 cases hm
 cases hi91
 have hm:=hk89
 exact hm.rr
 cases hm
 exact⟨(_,(W (i23+1))),SubY.of 0 rfl (tA rfl) trivial,hi91,Nat.lt_succ_self _⟩
 cases hm
 exact⟨(_,(W (i23+1))),SubY.of 0 rfl (tA rfl) trivial,hi91,Nat.lt_succ_self _⟩
 cases hm
 exact⟨(_,(W (i23+1))),SubY.of 0 rfl (tA rfl) trivial,hi91,Nat.lt_succ_self _⟩
 cases hm
 cases hi91
 have hm:=hk89
 exact hm.rr
def m_R09_CheckState (me:Int) (s:TState):Option Int:=
 Option.bind (m_R09_isDepot me) fun x1=>
 if(!x1)=true then
  some 90
 else
  Option.bind (m_R09_In s.Round 0 9999) fun x4=>
  if(!x4)=true then
   some 90
  else
   Option.bind (m_R09_areSlots s.Slots) fun x7=>
   if(!x7)=true then
    some 90
   else
    Option.bind (m_R09_areBids s.Bids me s.Round) fun x10=>
    if(!x10)=true then
     some 90
    else
     Option.bind (m_R09_areHeard s.Heard) fun x13=>
     if(!x13)=true then
      some 90
     else
      Option.bind (m_R09_areLeases s.Leases me) fun x16=>
      if(!x16)=true then
       some 90
      else
       Option.bind (m_R09_areLoans s.Loans me) fun x19=>
       if(!x19)=true then
        some 90
       else
        some 0
theorem d_R09_CheckState (me:Int) (s:TState) (r:Int) (hm:m_R09_CheckState me s=some r):Does Tryz.prog 26 [DI me, .agg (TState.c s)] (fun x=>x=DI r):=by
 refine zn Tryz.func26 rfl ?_
 refine cy hm (d_R09_isDepot me) fun x1 hm=> ?_
 apply vb hm<;>intro _ hm
 exact hm.rr
 refine cy hm (d_R09_In s.Round 0 9999) fun x4 hm=> ?_
 apply vb hm<;>intro _ hm
 exact hm.rr
 refine cy hm (d_R09_areSlots s.Slots) fun x7 hm=> ?_
 apply vb hm<;>intro _ hm
 exact hm.rr
 refine cy hm (d_R09_areBids s.Bids me s.Round) fun x10 hm=> ?_
 apply vb hm<;>intro _ hm
 exact hm.rr
 refine cy hm (d_R09_areHeard s.Heard) fun x13 hm=> ?_
 apply vb hm<;>intro _ hm
 exact hm.rr
 refine cy hm (d_R09_areLeases s.Leases me) fun x16 hm=> ?_
 apply vb hm<;>intro _ hm
 exact hm.rr
 refine cy hm (d_R09_areLoans s.Loans me) fun x19 hm=> ?_
 apply vb hm<;>intro _ hm
 exact hm.rr
 exact hm.rr
def m_R09_Check (x:TStation):Option Int:=
 Option.bind (m_R09_CheckState x.Me x.Now) fun x1=>
 if(x1 !=0)=true then
  some 90
 else
  Option.bind (m_R09_CheckState x.Me x.Safe) fun x4=>
  if(x4 !=0)=true then
   some 90
  else
   some 0
theorem d_R09_Check (x:TStation) (r:Int) (hm:m_R09_Check x=some r):Does Tryz.prog 28 [.agg (TStation.c x)] (fun x=>x=DI r):=by
 refine zn Tryz.func28 rfl ?_
 refine cy hm (d_R09_CheckState x.Me x.Now) fun x1 hm=> ?_
 apply vb hm<;>intro _ hm
 exact hm.rr
 refine cy hm (d_R09_CheckState x.Me x.Safe) fun x4 hm=> ?_
 apply vb hm<;>intro _ hm
 exact hm.rr
 exact hm.rr
def m_R09_copied (s:TState):Option TState:=
 gd ((([]:List TSlot).length+s.Slots.length)*32≤140737488355328∧([]:List TSlot).length+s.Slots.length≤9223372036854775807)<|
 gd ((([]:List TBid).length+s.Bids.length)*48≤140737488355328∧([]:List TBid).length+s.Bids.length≤9223372036854775807)<|
 gd ((([]:List THeard).length+s.Heard.length)*32≤140737488355328∧([]:List THeard).length+s.Heard.length≤9223372036854775807)<|
 gd ((([]:List TLease).length+s.Leases.length)*40≤140737488355328∧([]:List TLease).length+s.Leases.length≤9223372036854775807)<|
 gd ((([]:List TLoan).length+s.Loans.length)*48≤140737488355328∧([]:List TLoan).length+s.Loans.length≤9223372036854775807)<|
 some (⟨s.Round,(([]:List TSlot)++s.Slots),(([]:List TBid)++s.Bids),(([]:List THeard)++s.Heard),(([]:List TLease)++s.Leases),(([]:List TLoan)++s.Loans)⟩:TState)
theorem d_R09_copied (s:TState) (r:TState) (hm:m_R09_copied s=some r):Does Tryz.prog 63 [.agg (TState.c s)] (fun x=>x= .agg (TState.c r)):=by
 refine zy pl63 [] [] [] Tryz.func63 rfl ?_
 refine⟨rfl, ?_⟩
 refine⟨([]:List TSlot).flatMap TSlot.c,([]:List TSlot).length,⟨rfl,rfl⟩, ?_⟩
 obtain⟨hg,hm⟩:=gd_some hm
 refine⟨hg,_,_,flat_app (c:=TSlot.c) (l:=(([]:List TSlot):List TSlot)) (r:=(s.Slots:List TSlot)), ?_⟩
 refine⟨([]:List TBid).flatMap TBid.c,([]:List TBid).length,⟨rfl,rfl⟩, ?_⟩
 obtain⟨hg,hm⟩:=gd_some hm
 refine⟨hg,_,_,flat_app (c:=TBid.c) (l:=(([]:List TBid):List TBid)) (r:=(s.Bids:List TBid)), ?_⟩
 refine⟨([]:List THeard).flatMap THeard.c,([]:List THeard).length,⟨rfl,rfl⟩, ?_⟩
 obtain⟨hg,hm⟩:=gd_some hm
 refine⟨hg,_,_,flat_app (c:=THeard.c) (l:=(([]:List THeard):List THeard)) (r:=(s.Heard:List THeard)), ?_⟩
 refine⟨([]:List TLease).flatMap TLease.c,([]:List TLease).length,⟨rfl,rfl⟩, ?_⟩
 obtain⟨hg,hm⟩:=gd_some hm
 refine⟨hg,_,_,flat_app (c:=TLease.c) (l:=(([]:List TLease):List TLease)) (r:=(s.Leases:List TLease)), ?_⟩
 refine⟨([]:List TLoan).flatMap TLoan.c,([]:List TLoan).length,⟨rfl,rfl⟩, ?_⟩
 obtain⟨hg,hm⟩:=gd_some hm
 refine⟨hg,_,_,flat_app (c:=TLoan.c) (l:=(([]:List TLoan):List TLoan)) (r:=(s.Loans:List TLoan)), ?_⟩
 cases hm
 exact RetY.le (leD.refl _)
theorem dm_R09_copied (s:TState) (r:TState) (hm:m_R09_copied s=some r):DoesM Tryz.prog 63 [.agg (TState.c s)] [(4,r.Slots.length,r.Slots.flatMap TSlot.c,110),(6,r.Bids.length,r.Bids.flatMap TBid.c,108),(4,r.Heard.length,r.Heard.flatMap THeard.c,149),(5,r.Leases.length,r.Leases.flatMap TLease.c,112),(6,r.Loans.length,r.Loans.flatMap TLoan.c,114)] [DI r.Round, .row 0 4, .row 1 6, .row 2 4, .row 3 5, .row 4 6]:=by
 refine does_zm (X:=⟨Tryz.prog,tt,Tryz.f63.ntmps,pl63, [99,106,149,210,211,220], [], [], [], []⟩) pok _ Tryz.func63 rfl rfl (Nat.le_of_ble_eq_true rfl) rfl ?_
 refine⟨rfl, ?_⟩
 refine⟨([]:List TSlot).flatMap TSlot.c,([]:List TSlot).length,⟨rfl,rfl⟩, ?_⟩
 obtain⟨hg,hm⟩:=gd_some hm
 refine⟨hg,_,_,flat_app (c:=TSlot.c) (l:=(([]:List TSlot):List TSlot)) (r:=(s.Slots:List TSlot)), ?_⟩
 refine⟨([]:List TBid).flatMap TBid.c,([]:List TBid).length,⟨rfl,rfl⟩, ?_⟩
 obtain⟨hg,hm⟩:=gd_some hm
 refine⟨hg,_,_,flat_app (c:=TBid.c) (l:=(([]:List TBid):List TBid)) (r:=(s.Bids:List TBid)), ?_⟩
 refine⟨([]:List THeard).flatMap THeard.c,([]:List THeard).length,⟨rfl,rfl⟩, ?_⟩
 obtain⟨hg,hm⟩:=gd_some hm
 refine⟨hg,_,_,flat_app (c:=THeard.c) (l:=(([]:List THeard):List THeard)) (r:=(s.Heard:List THeard)), ?_⟩
 refine⟨([]:List TLease).flatMap TLease.c,([]:List TLease).length,⟨rfl,rfl⟩, ?_⟩
 obtain⟨hg,hm⟩:=gd_some hm
 refine⟨hg,_,_,flat_app (c:=TLease.c) (l:=(([]:List TLease):List TLease)) (r:=(s.Leases:List TLease)), ?_⟩
 refine⟨([]:List TLoan).flatMap TLoan.c,([]:List TLoan).length,⟨rfl,rfl⟩, ?_⟩
 obtain⟨hg,hm⟩:=gd_some hm
 refine⟨hg,_,_,flat_app (c:=TLoan.c) (l:=(([]:List TLoan):List TLoan)) (r:=(s.Loans:List TLoan)), ?_⟩
 cases hm
 exact⟨rfl,⟨⟨rfl,rfl⟩,⟨⟨rfl,rfl,rfl,rfl⟩,⟨⟨rfl,rfl,rfl,rfl⟩,⟨⟨rfl,rfl,rfl,rfl⟩,⟨⟨rfl,rfl,rfl,rfl⟩,⟨⟨rfl,rfl,rfl,rfl⟩,rfl⟩⟩⟩⟩⟩⟩⟩
def m_R09_Write (x:TStation):Option (TStation×Int):=
 Option.bind (m_R09_Check x) fun x1=>
 if(x1 !=0)=true then
  some ((⟨0,(⟨0, [], [], [], [], []⟩:TState),(⟨0, [], [], [], [], []⟩:TState)⟩:TStation),90)
 else
  Option.bind (m_R09_copied x.Now) fun x4=>
  Option.bind (m_R09_copied x.Now) fun x6=>
  some ((⟨x.Me,x4,x6⟩:TStation),0)
theorem d_R09_Write (x:TStation) (r:(TStation×Int)) (hm:m_R09_Write x=some r):Does Tryz.prog 13 [.agg (TStation.c x)] (fun x=>x= .tup [.agg (TStation.c r.1),DI r.2]):=by
 refine zy pl13 [] [] [] Tryz.func13 rfl ?_
 refine cy hm (d_R09_Check x) fun x1 hm=> ?_
 apply vb hm<;>intro _ hm
 cases hm
 exact RetY.le (⟨_,rfl,⟨⟨_,rfl,⟨leD.refl _,leD.refl _,leD.nil,leD.nil,leD.nil,leD.nil,leD.nil,leD.refl _,leD.nil,leD.nil,leD.nil,leD.nil,leD.nil,trivial⟩⟩,leD.refl _,trivial⟩⟩)
 refine⟨rfl, ?_⟩
 refine cy hm (d_R09_copied x.Now) fun x4 hm=> ?_
 refine cy hm (d_R09_copied x.Now) fun x6 hm=> ?_
 cases hm
 exact RetY.le (leD.refl _)
def m_muster_Fail (x:TStation):Option (TStation×Int):=
 Option.bind (m_IN_muster_open_1 x) fun e=>
 match e with
 | .inl x8=>
  if(x8 !=0)=true then
   some ((⟨0,(⟨0, [], [], [], [], []⟩:TState),(⟨0, [], [], [], [], []⟩:TState)⟩:TStation),x8)
  else
   none
 | .inr (x9,x10,x11,x12,x13,x14,x15,x16,x17,x18,x19,x20,x21)=>
  Option.bind (m_muster_copied (⟨x16,x17,x18,x19,x20,x21⟩:TState)) fun x32=>
  some ((⟨x9,x32,(⟨x16,x17,x18,x19,x20,x21⟩:TState)⟩:TStation),0)
theorem d_muster_Fail (x:TStation) (r:(TStation×Int)) (hm:m_muster_Fail x=some r):Does Tryz.prog 14 [.agg (TStation.c x)] (fun x=>x= .tup [.agg (TStation.c r.1),DI r.2]):=by
 refine zy [] [] [] [61] Tryz.func14 rfl ?_
 obtain⟨ev29,he30,hm⟩:=bd_some hm
 refine CallIn.ofZ pok ⟨[(0, .agg (TStation.c x)),(1000000, .agg (TStation.c x)),(1000001, .own 0 0),(1000002, .own 1 0),(1000003,DI 0)], [(0, .blk (TStation.c x) 30),(1, .blk [DI 0,DI 0, .v (.slice none 0 0), .v (.slice none 0 0), .v (.slice none 0 0), .v (.slice none 0 0), .v (.slice none 0 0),DI 0, .v (.slice none 0 0), .v (.slice none 0 0), .v (.slice none 0 0), .v (.slice none 0 0), .v (.slice none 0 0)] 30)],2⟩ (match ev29 with| .inl x8=>(⟨[(0, .agg (TStation.c x)),(1, .own 0 0),(2, .own 1 0),(3,DI 0),(8, .tup [.v (.pointer none),DI x8])], [(0, .blk (TStation.c x) 30),(1, .blk [DI 0,DI 0, .v (.slice none 0 0), .v (.slice none 0 0), .v (.slice none 0 0), .v (.slice none 0 0), .v (.slice none 0 0),DI 0, .v (.slice none 0 0), .v (.slice none 0 0), .v (.slice none 0 0), .v (.slice none 0 0), .v (.slice none 0 0)] 30)],2⟩:Sy)| .inr (x9,x10,x11,x12,x13,x14,x15,x16,x17,x18,x19,x20,x21)=>(⟨[(0, .agg (TStation.c x)),(1, .own 0 0),(2, .own 1 0),(3,DI 0),(8, .tup [.own 3 0,DI 0])], [(0, .blk (TStation.c x) 30),(1, .blk [DI 0,DI 0, .v (.slice none 0 0), .v (.slice none 0 0), .v (.slice none 0 0), .v (.slice none 0 0), .v (.slice none 0 0),DI 0, .v (.slice none 0 0), .v (.slice none 0 0), .v (.slice none 0 0), .v (.slice none 0 0), .v (.slice none 0 0)] 30),(3, .blk [DI x9,DI x10,lD 4 x11 TSlot.c,lD 6 x12 TBid.c,lD 4 x13 THeard.c,lD 5 x14 TLease.c,lD 6 x15 TLoan.c,DI x16,lD 4 x17 TSlot.c,lD 6 x18 TBid.c,lD 4 x19 THeard.c,lD 5 x20 TLease.c,lD 6 x21 TLoan.c] 102)],4⟩:Sy):Sy) pl61 [] [] [61] Tryz.func61 rfl rfl rfl (SubY.of 2 rfl (tA rfl) ⟨hR rfl,hR rfl,trivial⟩) (fun sv=> ?_) ?_
 have hm:=he30
 refine cy hm (d_muster_Check x) fun x34 hm=> ?_
 apply vb hm<;>intro _ hm
 cases hm
 exact SubY.of 2 rfl (tA rfl) ⟨hR rfl,hR rfl,trivial⟩
 refine⟨rfl, ?_⟩
 refine cy hm (d_muster_copied x.Now) fun x37 hm=> ?_
 refine cy hm (d_muster_copied x.Safe) fun x39 hm=> ?_
 cases hm
 exact SubY.of 4 rfl (tA rfl) ⟨hR rfl,hR rfl,hR rfl,trivial⟩
 rcases ev29 with x8|⟨x9,x10,x11,x12,x13,x14,x15,x16,x17,x18,x19,x20,x21⟩
 apply vb hm<;>intro _ hm
 cases hm
 exact RetY.le (⟨_,rfl,⟨⟨_,rfl,⟨leD.refl _,leD.refl _,leD.nil,leD.nil,leD.nil,leD.nil,leD.nil,leD.refl _,leD.nil,leD.nil,leD.nil,leD.nil,leD.nil,trivial⟩⟩,leD.refl _,trivial⟩⟩)
 cases hm
 refine cy hm (d_muster_copied ((⟨x16,x17,x18,x19,x20,x21⟩:TState))) fun x32 hm=> ?_
 cases hm
 exact RetY.le (leD.refl _)
def m_R09_Fail (x:TStation):Option (TStation×Int):=
 Option.bind (m_R09_Check x) fun x1=>
 if(x1 !=0)=true then
  some ((⟨0,(⟨0, [], [], [], [], []⟩:TState),(⟨0, [], [], [], [], []⟩:TState)⟩:TStation),90)
 else
  Option.bind (m_R09_copied x.Safe) fun x4=>
  Option.bind (m_R09_copied x.Safe) fun x6=>
  some ((⟨x.Me,x4,x6⟩:TStation),0)
theorem d_R09_Fail (x:TStation) (r:(TStation×Int)) (hm:m_R09_Fail x=some r):Does Tryz.prog 15 [.agg (TStation.c x)] (fun x=>x= .tup [.agg (TStation.c r.1),DI r.2]):=by
 refine zy pl15 [] [] [] Tryz.func15 rfl ?_
 refine cy hm (d_R09_Check x) fun x1 hm=> ?_
 apply vb hm<;>intro _ hm
 cases hm
 exact RetY.le (⟨_,rfl,⟨⟨_,rfl,⟨leD.refl _,leD.refl _,leD.nil,leD.nil,leD.nil,leD.nil,leD.nil,leD.refl _,leD.nil,leD.nil,leD.nil,leD.nil,leD.nil,trivial⟩⟩,leD.refl _,trivial⟩⟩)
 refine⟨rfl, ?_⟩
 refine cy hm (d_R09_copied x.Safe) fun x4 hm=> ?_
 refine cy hm (d_R09_copied x.Safe) fun x6 hm=> ?_
 cases hm
 exact RetY.le (leD.refl _)
def m_muster_post_out (p:Tpost) (to_:Int):Option (Tpost×Int):=
 some (p,to_)
theorem d_muster_post_out (p:Tpost) (to_:Int) (r:(Tpost×Int)) (hm:m_muster_post_out p to_=some r):Does Tryz.prog 66 [.ptr (Tpost.c p) 0,DI to_] (fun x=>x= .fn 119 [] [.ptr [.ptr (Tpost.c r.1) 0] 0, .ptr [DI r.2] 0]):=by
 refine zn Tryz.func66 rfl ?_
 cases hm
 exact RetY.le (leD.refl _)
def en_muster_post_out_1 (x:TCall):List D:= [.agg (TCall.c x)]
def it_muster_post_out_1_L1 (c_0:Tpost) (c_1:Int):Int→Option (List TCall×Sum Int Int):=fun v7=>
 if(decide (v7<(c_0.Station.Safe.Bids.length:Int)))=true then
  Option.bind (idx c_0.Station.Safe.Bids v7) fun e15=>
  if e15.Asked=true then
   emit (⟨3,c_0.Station.Me,c_1,e15.Night,e15.Ballot,0,e15.Value,0,0,0,0⟩:TCall)<|
   some ([], .inl (W (v7+1)))
  else
   emit (⟨1,c_0.Station.Me,c_1,e15.Night,e15.Ballot,0,0,0,0,0,0⟩:TCall)<|
   some ([], .inl (W (v7+1)))
 else
  some ([], .inr v7)
def it_muster_post_out_1_L2 (c_0:Tpost) (c_1:Int):Int→Option (List TCall×Sum Int Int):=fun v35=>
 if(decide (v35<(c_0.Station.Safe.Slots.length:Int)))=true then
  Option.bind (idx c_0.Station.Safe.Slots v35) fun e51=>
  Option.bind (m_muster_depotOf e51.Promised) fun x53=>
  if(x53==c_1)=true then
   if(decide (e51.Promised>e51.Ballot))=true then
    emit (⟨2,c_0.Station.Me,c_1,e51.Night,e51.Promised,e51.Ballot,e51.Value,0,0,0,0⟩:TCall)<|
    if(e51.Ballot !=0)=true then
     emit (⟨4,c_0.Station.Me,c_1,e51.Night,e51.Ballot,0,e51.Value,0,0,0,0⟩:TCall)<|
     some ([], .inl (W (v35+1)))
    else
     some ([], .inl (W (v35+1)))
   else
    if(e51.Ballot !=0)=true then
     emit (⟨4,c_0.Station.Me,c_1,e51.Night,e51.Ballot,0,e51.Value,0,0,0,0⟩:TCall)<|
     some ([], .inl (W (v35+1)))
    else
     some ([], .inl (W (v35+1)))
  else
   if(e51.Ballot !=0)=true then
    emit (⟨4,c_0.Station.Me,c_1,e51.Night,e51.Ballot,0,e51.Value,0,0,0,0⟩:TCall)<|
    some ([], .inl (W (v35+1)))
   else
    some ([], .inl (W (v35+1)))
 else
  some ([], .inr v35)
def it_muster_post_out_1_L3 (c_0:Tpost) (c_1:Int):Int→Option (List TCall×Sum Int Int):=fun v70=>
 if(decide (v70<(c_0.Station.Safe.Leases.length:Int)))=true then
  Option.bind (idx c_0.Station.Safe.Leases v70) fun e77=>
  if(e77.To==c_1)=true then
   emit (⟨5,c_0.Station.Me,c_1,0,0,0,0,e77.No,e77.Thing,e77.From,e77.Until⟩:TCall)<|
   some ([], .inl (W (v70+1)))
  else
   some ([], .inl (W (v70+1)))
 else
  some ([], .inr v70)
def it_muster_post_out_1_L4 (c_0:Tpost) (c_1:Int):Int→Option (List TCall×Sum Int Int):=fun v88=>
 if(decide (v88<(c_0.Station.Safe.Loans.length:Int)))=true then
  Option.bind (idx c_0.Station.Safe.Loans v88) fun e96=>
  if(e96.Owner==c_1)=true then
   if e96.Back=true then
    emit (⟨6,c_0.Station.Me,c_1,0,0,0,0,e96.No,e96.Thing,0,e96.Until⟩:TCall)<|
    some ([], .inl (W (v88+1)))
   else
    some ([], .inl (W (v88+1)))
  else
   some ([], .inl (W (v88+1)))
 else
  some ([], .inr v88)
def it_muster_post_out_1 (c_0:Tpost) (c_1:Int):Option (List TCall×Unit):=
 bindI (loopIF (it_muster_post_out_1_L1 c_0 c_1) 0) fun v20=>
 bindI (loopIF (it_muster_post_out_1_L2 c_0 c_1) 0) fun v64=>
 bindI (loopIF (it_muster_post_out_1_L3 c_0 c_1) 0) fun v81=>
 bindI (loopIF (it_muster_post_out_1_L4 c_0 c_1) 0) fun v101=>
 some ([],())
def ply119:List (Nat×PT):= [(3, .of [(0, [],true),(1, [],false),(2, [],false),(3, [],false),(4, [],true),(5, [],true),(6, [],false),(7, [],true),(8, [],false),(9, [],true),(10, [],false),(11, [],false),(12, [],false)]),(5, .of [(0, [],false),(1, [],false),(2, [],false),(3, [1],false),(4, [],false),(5, [],false)]),(11, .of [(0, [],false),(1, [],false),(3, [],false),(2, [3],true),(4, [],false),(5, [],false),(6, [],false),(7, [],false),(8, [],false),(9, [],false),(10, [],false),(11, [],false),(12, [],false),(13, [],false),(14, [],false),(15, [],false),(16, [],false),(17, [],false),(18, [],false),(19, [],false),(20, [],false),(21, [],false),(22, [],false),(23, [],false),(24, [],false),(25, [],false),(26, [],false),(27, [],false),(28, [],false)]),(12, .of [(0, [],false),(1, [],false),(2, [],false),(3, [],false),(4, [],false),(5, [],false),(6, [],false),(7, [],false),(8, [],false),(9, [],false),(10, [],false),(11, [],false),(12, [],false),(13, [],false),(14, [],false),(15, [],false),(16, [],false),(17, [],false)]),(17, .of [(0, [],false),(1, [],false),(2, [],false),(3, [],false),(4, [],false),(5, [],false),(6, [],false),(7, [],false),(8, [],false),(9, [],false),(10, [],false),(11, [],false),(12, [],false),(13, [],false),(14, [],false),(15, [],false),(16, [],false),(17, [],false),(18, [],false),(19, [],false),(20, [],false)]),(22, .of [(0, [],false),(1, [],false),(2, [],false),(3, [],false),(4, [],false),(5, [],false),(6, [],false),(7, [],false),(8, [],false),(9, [],false),(10, [],false),(11, [],false),(12, [],false),(13, [],false),(14, [],false),(15, [],false),(16, [],false),(17, [],false),(18, [],false),(19, [],false),(20, [],false),(21, [],false),(22, [],false)])]
theorem i_muster_post_out_1 (c_0:Tpost) (c_1:Int) (xs:List TCall) (hm:it_muster_post_out_1 c_0 c_1=some (xs,())):DoesIt Tryz.prog 119 [.ptr [.ptr (Tpost.c c_0) 0] 0, .ptr [DI c_1] 0] (xs.map en_muster_post_out_1):=by
 refine does_zit (X:=⟨Tryz.prog,tt,Tryz.f119.ntmps,ply119, [], [], [], [], []⟩) pok _ _ [(11,29),(12,18),(17,21),(22,23)] Tryz.func119 rfl rfl (Nat.le_of_ble_eq_true rfl) rfl ?_
 intro l
 obtain⟨r,hr⟩:∃r:List TCall×Unit,r=(xs,()):=⟨_,rfl⟩
 rw [←hr]at hm
 have hp:Hp3 en_muster_post_out_1 [] r.1 [] (xs.map en_muster_post_out_1):=⟨by rw [hr];simp⟩
 clear hr
 obtain⟨ev290,rr294,he,hk291,hb1,hb2⟩:=bindI_some hm
 replace hp:=hp.in1 hb1
 clear hb1 hb2
 refine LoopI.of (fun(lpx:Nat×Int)=>match lpx with|(fu292,v7)=>(⟨[(0, .v (.func (.yield l) #[] #[])),(1, .ptr [.ptr (Tpost.c c_0) 0] 0),(2, .ptr [DI c_1] 0),(18,lD 6 c_0.Station.Safe.Bids TBid.c),(19,DI (c_0.Station.Safe.Bids.length:Int)),(20,DI v7)], [],0⟩:Sy)) (fun lpx q=>∃e,loopIO (it_muster_post_out_1_L1 c_0 c_1) lpx.1 lpx.2=some e∧Hp3 en_muster_post_out_1 q e.1 _ _∧e.2=ev290.2) (fun lpx=>lpx.1) (FUEL,0) ⟨_,he,hp,rfl⟩ (SubY.of 0 rfl (tA rfl) trivial) ?_
 clear hp he
 rintro⟨fu292,v7⟩ q ⟨el296,hi293,hp,hx297⟩
 obtain⟨fu292,b,tl,rfl,hm,hb1,hi293⟩:=loopI_step hi293
 replace hp:=hp.in1 hb1
 clear hb1
 have hq:b.2=b.2:=rfl
 apply vb hm<;>intro _ hm
 obtain⟨e300,hx301,hm⟩:=bd_some hm
 refine⟨_,el_idx (fun _=>rfl) hx301, ?_⟩
 refine⟨rfl, ?_⟩
 apply vb hm<;>intro _ hm
 refine⟨rfl, ?_⟩
 obtain⟨rb303,hm,hb1,hb2⟩:=emit_some hm
 refine YieldY.of (x':=en_muster_post_out_1 (⟨3,c_0.Station.Me,c_1,e300.Night,e300.Ballot,0,e300.Value,0,0,0,0⟩:TCall)) rfl rfl (RetY.le (leD.refl _)) (hp.pre hb1) ?_ ?_
 replace hp:=hp.emit hb1
 replace hq:=hq.trans hb2
 cases hm
 rw [hq]at hi293
 obtain⟨e2,hm,rfl,ht⟩:=hi293
 exact⟨(fu292,(W (v7+1))),_,SubY.of 0 rfl (tA rfl) trivial,rfl,⟨_,hm,hp.out rfl,ht.symm.trans hx297⟩,Nat.lt_succ_self _⟩
 exact .inl rfl
 obtain⟨rb304,hm,hb1,hb2⟩:=emit_some hm
 refine YieldY.of (x':=en_muster_post_out_1 (⟨1,c_0.Station.Me,c_1,e300.Night,e300.Ballot,0,0,0,0,0,0⟩:TCall)) rfl rfl (RetY.le (leD.refl _)) (hp.pre hb1) ?_ ?_
 replace hp:=hp.emit hb1
 replace hq:=hq.trans hb2
 cases hm
 rw [hq]at hi293
 obtain⟨e2,hm,rfl,ht⟩:=hi293
 exact⟨(fu292,(W (v7+1))),_,SubY.of 0 rfl (tA rfl) trivial,rfl,⟨_,hm,hp.out rfl,ht.symm.trans hx297⟩,Nat.lt_succ_self _⟩
 exact .inl rfl
 cases hm
 rw [hq]at hi293
 obtain⟨rfl,ht⟩:=hi293
 replace hp:=(hp.out (l':= []) rfl).out rfl
 have hm:=hk291
 try rw [←hx297,ht]at hm
 clear hq
 obtain⟨ev450,rr454,he,hk451,hb1,hb2⟩:=bindI_some hm
 replace hp:=hp.in1 hb1
 clear hb1 hb2
 refine LoopI.of (fun(lpx:Nat×Int)=>match lpx with|(fu452,v319)=>(⟨[(0, .v (.func (.yield l) #[] #[])),(1, .ptr [.ptr (Tpost.c c_0) 0] 0),(2, .ptr [DI c_1] 0),(18,lD 6 c_0.Station.Safe.Bids TBid.c),(19,DI (c_0.Station.Safe.Bids.length:Int)),(20,DI v7),(21,DB (decide (v7<(c_0.Station.Safe.Bids.length:Int)))),(51,lD 4 c_0.Station.Safe.Slots TSlot.c),(52,DI (c_0.Station.Safe.Slots.length:Int)),(53,DI v319)], [],0⟩:Sy)) (fun lpx q=>∃e,loopIO (it_muster_post_out_1_L2 c_0 c_1) lpx.1 lpx.2=some e∧Hp3 en_muster_post_out_1 q e.1 _ _∧e.2=ev450.2) (fun lpx=>lpx.1) (FUEL,0) ⟨_,he,hp,rfl⟩ (SubY.of 0 rfl (tA rfl) trivial) ?_
 clear hp he
 rintro⟨fu452,v319⟩ q ⟨el456,hi453,hp,hx457⟩
 obtain⟨fu452,b,tl,rfl,hm,hb1,hi453⟩:=loopI_step hi453
 replace hp:=hp.in1 hb1
 clear hb1
 have hq:b.2=b.2:=rfl
 apply vb hm<;>intro _ hm
 obtain⟨e460,hx461,hm⟩:=bd_some hm
 refine⟨_,el_idx (fun _=>rfl) hx461, ?_⟩
 refine⟨rfl,rfl, ?_⟩
 refine cy hm (d_muster_depotOf e460.Promised) fun x462 hm=> ?_
 apply vb hm<;>intro _ hm
 apply vb hm<;>intro _ hm
 obtain⟨rb468,hm,hb1,hb2⟩:=emit_some hm
 refine YieldY.fz [0] rfl (YieldZ.of (x':=en_muster_post_out_1 (⟨2,c_0.Station.Me,c_1,e460.Night,e460.Promised,e460.Ballot,e460.Value,0,0,0,0⟩:TCall)) rfl rfl (RetY.le (leD.refl _)) (hp.pre hb1) ?_ ?_)
 replace hp:=hp.emit hb1
 replace hq:=hq.trans hb2
 refine⟨rfl,rfl, ?_⟩
 apply vb hm<;>intro _ hm
 obtain⟨rb467,hm,hb1,hb2⟩:=emit_some hm
 refine YieldY.of (x':=en_muster_post_out_1 (⟨4,c_0.Station.Me,c_1,e460.Night,e460.Ballot,0,e460.Value,0,0,0,0⟩:TCall)) rfl rfl (RetY.le (leD.refl _)) (hp.pre hb1) ?_ ?_
 replace hp:=hp.emit hb1
 replace hq:=hq.trans hb2
 cases hm
 rw [hq]at hi453
 obtain⟨e2,hm,rfl,ht⟩:=hi453
 exact⟨(fu452,(W (v319+1))),_,SubY.of 0 rfl (tA rfl) trivial,rfl,⟨_,hm,hp.out rfl,ht.symm.trans hx457⟩,Nat.lt_succ_self _⟩
 exact .inl rfl
 cases hm
 rw [hq]at hi453
 obtain⟨e2,hm,rfl,ht⟩:=hi453
 exact⟨(fu452,(W (v319+1))),_,SubY.of 0 rfl (tA rfl) trivial,rfl,⟨_,hm,hp.out rfl,ht.symm.trans hx457⟩,Nat.lt_succ_self _⟩
 exact .inl rfl
 refine⟨rfl,rfl, ?_⟩
 apply vb hm<;>intro _ hm
 obtain⟨rb470,hm,hb1,hb2⟩:=emit_some hm
 refine YieldY.of (x':=en_muster_post_out_1 (⟨4,c_0.Station.Me,c_1,e460.Night,e460.Ballot,0,e460.Value,0,0,0,0⟩:TCall)) rfl rfl (RetY.le (leD.refl _)) (hp.pre hb1) ?_ ?_
 replace hp:=hp.emit hb1
 replace hq:=hq.trans hb2
 cases hm
 rw [hq]at hi453
 obtain⟨e2,hm,rfl,ht⟩:=hi453
 exact⟨(fu452,(W (v319+1))),_,SubY.of 0 rfl (tA rfl) trivial,rfl,⟨_,hm,hp.out rfl,ht.symm.trans hx457⟩,Nat.lt_succ_self _⟩
 exact .inl rfl
 cases hm
 rw [hq]at hi453
 obtain⟨e2,hm,rfl,ht⟩:=hi453
 exact⟨(fu452,(W (v319+1))),_,SubY.of 0 rfl (tA rfl) trivial,rfl,⟨_,hm,hp.out rfl,ht.symm.trans hx457⟩,Nat.lt_succ_self _⟩
 refine⟨rfl,rfl, ?_⟩
 apply vb hm<;>intro _ hm
 obtain⟨rb472,hm,hb1,hb2⟩:=emit_some hm
 refine YieldY.of (x':=en_muster_post_out_1 (⟨4,c_0.Station.Me,c_1,e460.Night,e460.Ballot,0,e460.Value,0,0,0,0⟩:TCall)) rfl rfl (RetY.le (leD.refl _)) (hp.pre hb1) ?_ ?_
 replace hp:=hp.emit hb1
 replace hq:=hq.trans hb2
 cases hm
 rw [hq]at hi453
 obtain⟨e2,hm,rfl,ht⟩:=hi453
 exact⟨(fu452,(W (v319+1))),_,SubY.of 0 rfl (tA rfl) trivial,rfl,⟨_,hm,hp.out rfl,ht.symm.trans hx457⟩,Nat.lt_succ_self _⟩
 exact .inl rfl
 cases hm
 rw [hq]at hi453
 obtain⟨e2,hm,rfl,ht⟩:=hi453
 exact⟨(fu452,(W (v319+1))),_,SubY.of 0 rfl (tA rfl) trivial,rfl,⟨_,hm,hp.out rfl,ht.symm.trans hx457⟩,Nat.lt_succ_self _⟩
 cases hm
 rw [hq]at hi453
 obtain⟨rfl,ht⟩:=hi453
 replace hp:=(hp.out (l':= []) rfl).out rfl
 have hm:=hk451
 try rw [←hx457,ht]at hm
 clear hq
 obtain⟨ev525,rr529,he,hk526,hb1,hb2⟩:=bindI_some hm
 replace hp:=hp.in1 hb1
 clear hb1 hb2
 refine LoopI.of (fun(lpx:Nat×Int)=>match lpx with|(fu527,v478)=>(⟨[(0, .v (.func (.yield l) #[] #[])),(1, .ptr [.ptr (Tpost.c c_0) 0] 0),(2, .ptr [DI c_1] 0),(18,lD 6 c_0.Station.Safe.Bids TBid.c),(19,DI (c_0.Station.Safe.Bids.length:Int)),(20,DI v7),(21,DB (decide (v7<(c_0.Station.Safe.Bids.length:Int)))),(51,lD 4 c_0.Station.Safe.Slots TSlot.c),(52,DI (c_0.Station.Safe.Slots.length:Int)),(53,DI v319),(54,DB (decide (v319<(c_0.Station.Safe.Slots.length:Int)))),(116,lD 5 c_0.Station.Safe.Leases TLease.c),(117,DI (c_0.Station.Safe.Leases.length:Int)),(118,DI v478)], [],0⟩:Sy)) (fun lpx q=>∃e,loopIO (it_muster_post_out_1_L3 c_0 c_1) lpx.1 lpx.2=some e∧Hp3 en_muster_post_out_1 q e.1 _ _∧e.2=ev525.2) (fun lpx=>lpx.1) (FUEL,0) ⟨_,he,hp,rfl⟩ (SubY.of 0 rfl (tA rfl) trivial) ?_
 clear hp he
 rintro⟨fu527,v478⟩ q ⟨el531,hi528,hp,hx532⟩
 obtain⟨fu527,b,tl,rfl,hm,hb1,hi528⟩:=loopI_step hi528
 replace hp:=hp.in1 hb1
 clear hb1
 have hq:b.2=b.2:=rfl
 apply vb hm<;>intro _ hm
 obtain⟨e535,hx536,hm⟩:=bd_some hm
 refine⟨_,el_idx (fun _=>rfl) hx536, ?_⟩
 refine⟨rfl,rfl, ?_⟩
 apply vb hm<;>intro _ hm
 obtain⟨rb538,hm,hb1,hb2⟩:=emit_some hm
 refine YieldY.of (x':=en_muster_post_out_1 (⟨5,c_0.Station.Me,c_1,0,0,0,0,e535.No,e535.Thing,e535.From,e535.Until⟩:TCall)) rfl rfl (RetY.le (leD.refl _)) (hp.pre hb1) ?_ ?_
 replace hp:=hp.emit hb1
 replace hq:=hq.trans hb2
 cases hm
 rw [hq]at hi528
 obtain⟨e2,hm,rfl,ht⟩:=hi528
 exact⟨(fu527,(W (v478+1))),_,SubY.of 0 rfl (tA rfl) trivial,rfl,⟨_,hm,hp.out rfl,ht.symm.trans hx532⟩,Nat.lt_succ_self _⟩
 exact .inl rfl
 cases hm
 rw [hq]at hi528
 obtain⟨e2,hm,rfl,ht⟩:=hi528
 exact⟨(fu527,(W (v478+1))),_,SubY.of 0 rfl (tA rfl) trivial,rfl,⟨_,hm,hp.out rfl,ht.symm.trans hx532⟩,Nat.lt_succ_self _⟩
 cases hm
 rw [hq]at hi528
 obtain⟨rfl,ht⟩:=hi528
 replace hp:=(hp.out (l':= []) rfl).out rfl
 have hm:=hk526
 try rw [←hx532,ht]at hm
 clear hq
 obtain⟨ev559,rr563,he,hk560,hb1,hb2⟩:=bindI_some hm
 replace hp:=hp.in1 hb1
 clear hb1 hb2
 refine LoopI.of (fun(lpx:Nat×Int)=>match lpx with|(fu561,v545)=>(⟨[(0, .v (.func (.yield l) #[] #[])),(1, .ptr [.ptr (Tpost.c c_0) 0] 0),(2, .ptr [DI c_1] 0),(18,lD 6 c_0.Station.Safe.Bids TBid.c),(19,DI (c_0.Station.Safe.Bids.length:Int)),(20,DI v7),(21,DB (decide (v7<(c_0.Station.Safe.Bids.length:Int)))),(51,lD 4 c_0.Station.Safe.Slots TSlot.c),(52,DI (c_0.Station.Safe.Slots.length:Int)),(53,DI v319),(54,DB (decide (v319<(c_0.Station.Safe.Slots.length:Int)))),(116,lD 5 c_0.Station.Safe.Leases TLease.c),(117,DI (c_0.Station.Safe.Leases.length:Int)),(118,DI v478),(119,DB (decide (v478<(c_0.Station.Safe.Leases.length:Int)))),(152,lD 6 c_0.Station.Safe.Loans TLoan.c),(153,DI (c_0.Station.Safe.Loans.length:Int)),(154,DI v545)], [],0⟩:Sy)) (fun lpx q=>∃e,loopIO (it_muster_post_out_1_L4 c_0 c_1) lpx.1 lpx.2=some e∧Hp3 en_muster_post_out_1 q e.1 _ _∧e.2=ev559.2) (fun lpx=>lpx.1) (FUEL,0) ⟨_,he,hp,rfl⟩ (SubY.of 0 rfl (tA rfl) trivial) ?_
 clear hp he
 rintro⟨fu561,v545⟩ q ⟨el565,hi562,hp,hx566⟩
 obtain⟨fu561,b,tl,rfl,hm,hb1,hi562⟩:=loopI_step hi562
 replace hp:=hp.in1 hb1
 clear hb1
 have hq:b.2=b.2:=rfl
 apply vb hm<;>intro _ hm
 obtain⟨e569,hx570,hm⟩:=bd_some hm
 refine⟨_,el_idx (fun _=>rfl) hx570, ?_⟩
 refine⟨rfl,rfl, ?_⟩
 apply vb hm<;>intro _ hm
 apply vb hm<;>intro _ hm
 obtain⟨rb573,hm,hb1,hb2⟩:=emit_some hm
 refine YieldY.of (x':=en_muster_post_out_1 (⟨6,c_0.Station.Me,c_1,0,0,0,0,e569.No,e569.Thing,0,e569.Until⟩:TCall)) rfl rfl (RetY.le (leD.refl _)) (hp.pre hb1) ?_ ?_
 replace hp:=hp.emit hb1
 replace hq:=hq.trans hb2
 cases hm
 rw [hq]at hi562
 obtain⟨e2,hm,rfl,ht⟩:=hi562
 exact⟨(fu561,(W (v545+1))),_,SubY.of 0 rfl (tA rfl) trivial,rfl,⟨_,hm,hp.out rfl,ht.symm.trans hx566⟩,Nat.lt_succ_self _⟩
 exact .inl rfl
 cases hm
 rw [hq]at hi562
 obtain⟨e2,hm,rfl,ht⟩:=hi562
 exact⟨(fu561,(W (v545+1))),_,SubY.of 0 rfl (tA rfl) trivial,rfl,⟨_,hm,hp.out rfl,ht.symm.trans hx566⟩,Nat.lt_succ_self _⟩
 cases hm
 rw [hq]at hi562
 obtain⟨e2,hm,rfl,ht⟩:=hi562
 exact⟨(fu561,(W (v545+1))),_,SubY.of 0 rfl (tA rfl) trivial,rfl,⟨_,hm,hp.out rfl,ht.symm.trans hx566⟩,Nat.lt_succ_self _⟩
 cases hm
 rw [hq]at hi562
 obtain⟨rfl,ht⟩:=hi562
 replace hp:=(hp.out (l':= []) rfl).out rfl
 have hm:=hk560
 try rw [←hx566,ht]at hm
 clear hq
 cases hm
 exact .inr (congrArg some (hp.done rfl))
def m_slices_AppendSeq_api_Call_api_Call__nil__muster_post_out_1_L1:(List TCall)→TCall→Option (Sum (List TCall) Unit):=fun v2 y1=>
 gd ((v2.length+([y1]:List TCall).length)*88≤140737488355328∧v2.length+([y1]:List TCall).length≤9223372036854775807)<|
 some (.inl (v2++([y1]:List TCall)))
def m_slices_AppendSeq_api_Call_api_Call__nil__muster_post_out_1 (c1_0:Tpost) (c1_1:Int):Option (List TCall):=
 Option.bind (it_muster_post_out_1 c1_0 c1_1) fun l3=>
 Option.bind (rangeF m_slices_AppendSeq_api_Call_api_Call__nil__muster_post_out_1_L1 l3.1 []) fun e=>
 match e with
 | .inl v4=>
  some v4
 | .inr _=>none
theorem d_slices_AppendSeq_api_Call_api_Call__nil__muster_post_out_1 (c1_0:Tpost) (c1_1:Int) (r:(List TCall)) (hm:m_slices_AppendSeq_api_Call_api_Call__nil__muster_post_out_1 c1_0 c1_1=some r):Does Tryz.prog 118 [.v (.slice none 0 0), .fn 119 [] [.ptr [.ptr (Tpost.c c1_0) 0] 0, .ptr [DI c1_1] 0]] (fun x=>x=lD 11 r TCall.c):=by
 refine does_zr (X:=⟨Tryz.prog,tt,Tryz.f118.ntmps, [], [], [], [], [], []⟩) pok _ Tryz.func118 rfl rfl (Nat.le_of_ble_eq_true rfl) ?_
 intro ds
 intro ds
 obtain⟨l3,hl6,hm⟩:=bd_some hm
 obtain⟨ev5,he,hm⟩:=bd_some hm
 refine RangeY.ofZ (E:=Unit) en_muster_post_out_1 l3.1 m_slices_AppendSeq_api_Call_api_Call__nil__muster_post_out_1_L1 (fun(lpx:(List TCall))=>match lpx with|v2=>(⟨[(0, .v (.slice none 0 0)),(1, .fn 119 [] [.ptr [.ptr (Tpost.c c1_0) 0] 0, .ptr [DI c1_1] 0]),(2, .own 0 0),(4, .v (.slice none 0 0))], [(0, .blk [.row 1 11] 34),(1,rE 11 v2 TCall.c 42)],2⟩:Sy)) (fun(_:Unit)=>(⟨[], [],0⟩:Sy)) (fun _=> .ret) [] ev5 [0,1,2,4] (i_muster_post_out_1 c1_0 c1_1 l3.1 hl6) he (enters_f pok Tryz.func119 rfl) rfl rfl (fun _=>rfl) rfl rfl rfl (by rintro v2;rfl) (by intro _;rfl) (SubY.of 1 rfl (tA rfl) ⟨hR rfl,⟨rfl,rfl⟩,trivial⟩) ?_ ?_ (fun _=> .inl rfl) ?_
 rintro v4 rfl
 intro ds
 intro ds
 cases hm
 exact RetY.le (leD.refl _)
 rintro _ rfl
 cases hm
 clear he hm
 rintro v2 y1 b hm
 refine⟨([y1]:List TCall).flatMap TCall.c,([y1]:List TCall).length,⟨rfl,rfl⟩, ?_⟩
 obtain⟨hg,hm⟩:=gd_some hm
 refine⟨hg,_,_,flat_app (c:=TCall.c) (l:=(v2:List TCall)) (r:=(([y1]:List TCall):List TCall)), ?_⟩
 cases hm
 exact⟨(v2++([y1]:List TCall)),rfl,SubY.of 2 rfl (tA rfl) ⟨hR rfl,hW rfl,trivial⟩⟩
def m_slices_Collect_api_Call__muster_post_out_1 (c0_0:Tpost) (c0_1:Int):Option (List TCall):=
 Option.bind (m_slices_AppendSeq_api_Call_api_Call__nil__muster_post_out_1 c0_0 c0_1) fun x1=>
 some x1
theorem d_slices_Collect_api_Call__muster_post_out_1 (c0_0:Tpost) (c0_1:Int) (r:(List TCall)) (hm:m_slices_Collect_api_Call__muster_post_out_1 c0_0 c0_1=some r):Does Tryz.prog 65 [.fn 119 [] [.ptr [.ptr (Tpost.c c0_0) 0] 0, .ptr [DI c0_1] 0]] (fun x=>x=lD 11 r TCall.c):=by
 refine zn Tryz.func65 rfl ?_
 refine cy hm (d_slices_AppendSeq_api_Call_api_Call__nil__muster_post_out_1 c0_0 c0_1) fun x1 hm=> ?_
 cases hm
 exact RetY.le (leD.refl _)
def m_muster_Calls (x:TStation) (to_:Int):Option ((List TCall)×Int):=
 Option.bind (m_muster_open x) fun⟨x1,x2⟩=>
 optM x1 (
  if(x2 !=0)=true then
   some ([],x2)
  else
   Option.bind (m_muster_isDepot to_) fun x6=>
   if(!x6)=true then
    some ([],1)
   else
    none) fun p4=>
 if(x2 !=0)=true then
  some ([],x2)
 else
  Option.bind (m_muster_isDepot to_) fun x10=>
  if(!x10)=true then
   some ([],1)
  else
   Option.bind (m_muster_post_out p4 to_) fun⟨x13,x14⟩=>
   Option.bind (m_slices_Collect_api_Call__muster_post_out_1 x13 x14) fun x16=>
   some (x16,0)
theorem d_muster_Calls (x:TStation) (to_:Int) (r:((List TCall)×Int)) (hm:m_muster_Calls x to_=some r):Does Tryz.prog 16 [.agg (TStation.c x),DI to_] (fun x=>x= .tup [lD 11 r.1 TCall.c,DI r.2]):=by
 refine zn Tryz.func16 rfl ?_
 refine cy hm (d_muster_open x) ?_
 rintro⟨x1,x2⟩ hm
 rcases x1 with _|p4
 replace hm:=opt_none hm
 apply vb hm<;>intro _ hm
 cases hm
 exact RetY.le (⟨_,rfl,⟨leD.nil,leD.refl _,trivial⟩⟩)
 refine cy hm (d_muster_isDepot to_) fun x6 hm=> ?_
 apply vb hm<;>intro _ hm
 cases hm
 exact RetY.le (⟨_,rfl,⟨leD.nil,leD.refl _,trivial⟩⟩)
 cases hm
 replace hm:=opt_some hm
 apply vb hm<;>intro _ hm
 cases hm
 exact RetY.le (⟨_,rfl,⟨leD.nil,leD.refl _,trivial⟩⟩)
 refine cy hm (d_muster_isDepot to_) fun x10 hm=> ?_
 apply vb hm<;>intro _ hm
 cases hm
 exact RetY.le (⟨_,rfl,⟨leD.nil,leD.refl _,trivial⟩⟩)
 refine cy hm (d_muster_post_out p4 to_) ?_
 rintro⟨x13,x14⟩ hm
 refine cy hm (d_slices_Collect_api_Call__muster_post_out_1 x13 x14) fun x16 hm=> ?_
 cases hm
 exact RetY.le (leD.refl _)
def m_R09_Calls_L1 (x:TStation) (to_:Int):((List TCall)×Int×(List TCall))→Option (Sum ((List TCall)×Int×(List TCall)) ((List TCall)×Int×(List TCall))):=fun(out11,i12,out13)=>
 if(decide (i12<(x.Safe.Bids.length:Int)))=true then
  Option.bind (idx x.Safe.Bids i12) fun e19=>
  if e19.Asked=true then
   gd ((out13.length+([(⟨3,x.Me,to_,e19.Night,e19.Ballot,0,e19.Value,0,0,0,0⟩:TCall)]:List TCall).length)*88≤140737488355328∧out13.length+([(⟨3,x.Me,to_,e19.Night,e19.Ballot,0,e19.Value,0,0,0,0⟩:TCall)]:List TCall).length≤9223372036854775807)<|
   some (.inl (out11,(W (i12+1)),(out13++([(⟨3,x.Me,to_,e19.Night,e19.Ballot,0,e19.Value,0,0,0,0⟩:TCall)]:List TCall))))
  else
   gd ((out13.length+([(⟨1,x.Me,to_,e19.Night,e19.Ballot,0,0,0,0,0,0⟩:TCall)]:List TCall).length)*88≤140737488355328∧out13.length+([(⟨1,x.Me,to_,e19.Night,e19.Ballot,0,0,0,0,0,0⟩:TCall)]:List TCall).length≤9223372036854775807)<|
   some (.inl (out11,(W (i12+1)),(out13++([(⟨1,x.Me,to_,e19.Night,e19.Ballot,0,0,0,0,0,0⟩:TCall)]:List TCall))))
 else
  some (.inr (out11,i12,out13))
def m_R09_Calls_L2 (x:TStation) (to_:Int):(Int×(List TCall))→Option (Sum (Int×(List TCall)) (Int×(List TCall))):=fun(i35,v36)=>
 if(decide (i35<(x.Safe.Slots.length:Int)))=true then
  Option.bind (idx x.Safe.Slots i35) fun e48=>
  Option.bind (m_R09_Mod e48.Promised 6) fun x50=>
  if(x50==to_)=true then
   if(decide (e48.Promised>e48.Ballot))=true then
    gd ((v36.length+([(⟨2,x.Me,to_,e48.Night,e48.Promised,e48.Ballot,e48.Value,0,0,0,0⟩:TCall)]:List TCall).length)*88≤140737488355328∧v36.length+([(⟨2,x.Me,to_,e48.Night,e48.Promised,e48.Ballot,e48.Value,0,0,0,0⟩:TCall)]:List TCall).length≤9223372036854775807)<|
    if(e48.Ballot !=0)=true then
     gd (((v36++([(⟨2,x.Me,to_,e48.Night,e48.Promised,e48.Ballot,e48.Value,0,0,0,0⟩:TCall)]:List TCall)).length+([(⟨4,x.Me,to_,e48.Night,e48.Ballot,0,e48.Value,0,0,0,0⟩:TCall)]:List TCall).length)*88≤140737488355328∧(v36++([(⟨2,x.Me,to_,e48.Night,e48.Promised,e48.Ballot,e48.Value,0,0,0,0⟩:TCall)]:List TCall)).length+([(⟨4,x.Me,to_,e48.Night,e48.Ballot,0,e48.Value,0,0,0,0⟩:TCall)]:List TCall).length≤9223372036854775807)<|
     some (.inl ((W (i35+1)),((v36++([(⟨2,x.Me,to_,e48.Night,e48.Promised,e48.Ballot,e48.Value,0,0,0,0⟩:TCall)]:List TCall))++([(⟨4,x.Me,to_,e48.Night,e48.Ballot,0,e48.Value,0,0,0,0⟩:TCall)]:List TCall))))
    else
     some (.inl ((W (i35+1)),(v36++([(⟨2,x.Me,to_,e48.Night,e48.Promised,e48.Ballot,e48.Value,0,0,0,0⟩:TCall)]:List TCall))))
   else
    if(e48.Ballot !=0)=true then
     gd ((v36.length+([(⟨4,x.Me,to_,e48.Night,e48.Ballot,0,e48.Value,0,0,0,0⟩:TCall)]:List TCall).length)*88≤140737488355328∧v36.length+([(⟨4,x.Me,to_,e48.Night,e48.Ballot,0,e48.Value,0,0,0,0⟩:TCall)]:List TCall).length≤9223372036854775807)<|
     some (.inl ((W (i35+1)),(v36++([(⟨4,x.Me,to_,e48.Night,e48.Ballot,0,e48.Value,0,0,0,0⟩:TCall)]:List TCall))))
    else
     some (.inl ((W (i35+1)),v36))
  else
   if(e48.Ballot !=0)=true then
    gd ((v36.length+([(⟨4,x.Me,to_,e48.Night,e48.Ballot,0,e48.Value,0,0,0,0⟩:TCall)]:List TCall).length)*88≤140737488355328∧v36.length+([(⟨4,x.Me,to_,e48.Night,e48.Ballot,0,e48.Value,0,0,0,0⟩:TCall)]:List TCall).length≤9223372036854775807)<|
    some (.inl ((W (i35+1)),(v36++([(⟨4,x.Me,to_,e48.Night,e48.Ballot,0,e48.Value,0,0,0,0⟩:TCall)]:List TCall))))
   else
    some (.inl ((W (i35+1)),v36))
 else
  some (.inr (i35,v36))
def m_R09_Calls_L3 (x:TStation) (to_:Int):(Int×(List TCall))→Option (Sum (Int×(List TCall)) (Int×(List TCall))):=fun(i63,v64)=>
 if(decide (i63<(x.Safe.Leases.length:Int)))=true then
  Option.bind (idx x.Safe.Leases i63) fun e70=>
  if(e70.To==to_)=true then
   gd ((v64.length+([(⟨5,x.Me,to_,0,0,0,0,e70.No,e70.Thing,e70.From,e70.Until⟩:TCall)]:List TCall).length)*88≤140737488355328∧v64.length+([(⟨5,x.Me,to_,0,0,0,0,e70.No,e70.Thing,e70.From,e70.Until⟩:TCall)]:List TCall).length≤9223372036854775807)<|
   some (.inl ((W (i63+1)),(v64++([(⟨5,x.Me,to_,0,0,0,0,e70.No,e70.Thing,e70.From,e70.Until⟩:TCall)]:List TCall))))
  else
   some (.inl ((W (i63+1)),v64))
 else
  some (.inr (i63,v64))
def m_R09_Calls_L4 (x:TStation) (to_:Int):(Int×(List TCall))→Option (Sum (Int×(List TCall)) (Int×(List TCall))):=fun(i80,v81)=>
 if(decide (i80<(x.Safe.Loans.length:Int)))=true then
  Option.bind (idx x.Safe.Loans i80) fun e88=>
  if(e88.Owner==to_)=true then
   if e88.Back=true then
    gd ((v81.length+([(⟨6,x.Me,to_,0,0,0,0,e88.No,e88.Thing,0,e88.Until⟩:TCall)]:List TCall).length)*88≤140737488355328∧v81.length+([(⟨6,x.Me,to_,0,0,0,0,e88.No,e88.Thing,0,e88.Until⟩:TCall)]:List TCall).length≤9223372036854775807)<|
    some (.inl ((W (i80+1)),(v81++([(⟨6,x.Me,to_,0,0,0,0,e88.No,e88.Thing,0,e88.Until⟩:TCall)]:List TCall))))
   else
    some (.inl ((W (i80+1)),v81))
  else
   some (.inl ((W (i80+1)),v81))
 else
  some (.inr (i80,v81))
def m_R09_Calls (x:TStation) (to_:Int):Option ((List TCall)×Int):=
 Option.bind (m_R09_Check x) fun x1=>
 if(x1 !=0)=true then
  some ([],90)
 else
  Option.bind (m_R09_isDepot to_) fun x4=>
  if(!x4)=true then
   some ([],1)
  else
   Option.bind (loopF (m_R09_Calls_L1 x to_) ([],0, [])) fun(out22,i23,out24)=>
   Option.bind (loopF (m_R09_Calls_L2 x to_) (0,out24)) fun(i57,v58)=>
   Option.bind (loopF (m_R09_Calls_L3 x to_) (0,v58)) fun(i73,v74)=>
   Option.bind (loopF (m_R09_Calls_L4 x to_) (0,v74)) fun(i92,v93)=>
   some (v93,0)
theorem d_R09_Calls (x:TStation) (to_:Int) (r:((List TCall)×Int)) (hm:m_R09_Calls x to_=some r):Does Tryz.prog 17 [.agg (TStation.c x),DI to_] (fun x=>x= .tup [lD 11 r.1 TCall.c,DI r.2]):=by
 refine zn Tryz.func17 rfl ?_
 refine cy hm (d_R09_Check x) fun x1 hm=> ?_
 apply vb hm<;>intro _ hm
 cases hm
 exact RetY.le (⟨_,rfl,⟨leD.nil,leD.refl _,trivial⟩⟩)
 refine cy hm (d_R09_isDepot to_) fun x4 hm=> ?_
 apply vb hm<;>intro _ hm
 cases hm
 exact RetY.le (⟨_,rfl,⟨leD.nil,leD.refl _,trivial⟩⟩)
 obtain⟨ev233,he,hk234⟩:=bd_some hm
 refine LoopY.ofL (m_R09_Calls_L1 x to_) (fun(out11,i12,out13)=>⟨[(0, .agg (TStation.c x)),(1,DI to_),(2, .own 0 0),(4, .v (.slice none 0 0)),(5,DI 0),(6, .own 1 0),(7, .row 3 11),(8,DI i12),(19,DB (x1 !=0)),(22,DB (!x4))], [(0, .blk (TStation.c x) 30),(1, .blk (TState.c x.Safe) 28),(2,rE 11 out11 TCall.c 42),(3,rE 11 out13 TCall.c 42)],4⟩) ([],0, []) (SubY.of 2 rfl (tA rfl) ⟨hR rfl,hR rfl,⟨rfl,rfl⟩,⟨rfl,rfl⟩,trivial⟩) he ?_
 rintro fu235 ⟨out11,i12,out13⟩ b hm hi236
 apply vb hm<;>intro _ hm
 obtain⟨e238,hx239,hm⟩:=bd_some hm
 refine⟨_,el_idx (fun _=>rfl) hx239, ?_⟩
 apply vb hm<;>intro _ hm
 refine⟨([(⟨3,x.Me,to_,e238.Night,e238.Ballot,0,e238.Value,0,0,0,0⟩:TCall)]:List TCall).flatMap TCall.c,([(⟨3,x.Me,to_,e238.Night,e238.Ballot,0,e238.Value,0,0,0,0⟩:TCall)]:List TCall).length,⟨rfl,rfl⟩, ?_⟩
 obtain⟨hg,hm⟩:=gd_some hm
 refine⟨hg,_,_,flat_app (c:=TCall.c) (l:=(out13:List TCall)) (r:=(([(⟨3,x.Me,to_,e238.Night,e238.Ballot,0,e238.Value,0,0,0,0⟩:TCall)]:List TCall):List TCall)), ?_⟩
 cases hm
 exact⟨(_,(out11,(W (i12+1)),(out13++([(⟨3,x.Me,to_,e238.Night,e238.Ballot,0,e238.Value,0,0,0,0⟩:TCall)]:List TCall)))),SubY.of 4 rfl (tA rfl) ⟨hR rfl,hR rfl,hW rfl,hW rfl,trivial⟩,hi236,Nat.lt_succ_self _⟩
 refine⟨([(⟨1,x.Me,to_,e238.Night,e238.Ballot,0,0,0,0,0,0⟩:TCall)]:List TCall).flatMap TCall.c,([(⟨1,x.Me,to_,e238.Night,e238.Ballot,0,0,0,0,0,0⟩:TCall)]:List TCall).length,⟨rfl,rfl⟩, ?_⟩
 obtain⟨hg,hm⟩:=gd_some hm
 refine⟨hg,_,_,flat_app (c:=TCall.c) (l:=(out13:List TCall)) (r:=(([(⟨1,x.Me,to_,e238.Night,e238.Ballot,0,0,0,0,0,0⟩:TCall)]:List TCall):List TCall)), ?_⟩
 cases hm
 exact⟨(_,(out11,(W (i12+1)),(out13++([(⟨1,x.Me,to_,e238.Night,e238.Ballot,0,0,0,0,0,0⟩:TCall)]:List TCall)))),SubY.of 4 rfl (tA rfl) ⟨hR rfl,hR rfl,hW rfl,hW rfl,trivial⟩,hi236,Nat.lt_succ_self _⟩
 cases hm
 cases hi236
 have hm:=hk234
 obtain⟨ev355,he,hk356⟩:=bd_some hm
 refine LoopY.ofL (m_R09_Calls_L2 x to_) (fun(i251,v252)=>⟨[(0, .agg (TStation.c x)),(1,DI to_),(2, .own 0 0),(4, .v (.slice none 0 0)),(5,DI 0),(6, .own 1 0),(7, .row 3 11),(8,DI i12),(11,DI i251),(19,DB (x1 !=0)),(22,DB (!x4)),(29,DB (decide (i12<(x.Safe.Bids.length:Int))))], [(0, .blk (TStation.c x) 30),(1, .blk (TState.c x.Safe) 28),(2,rE 11 out11 TCall.c 42),(3,rE 11 v252 TCall.c 42)],4⟩) (0,out13) (SubY.of 4 rfl (tA rfl) ⟨hR rfl,hR rfl,hW rfl,hW rfl,trivial⟩) he ?_
 rintro fu357 ⟨i251,v252⟩ b hm hi358
 apply vb hm<;>intro _ hm
 obtain⟨e360,hx361,hm⟩:=bd_some hm
 refine⟨_,el_idx (fun _=>rfl) hx361, ?_⟩
 refine cy hm (d_R09_Mod e360.Promised 6) fun x362 hm=> ?_
 apply vb hm<;>intro _ hm
 apply vb hm<;>intro _ hm
 refine⟨([(⟨2,x.Me,to_,e360.Night,e360.Promised,e360.Ballot,e360.Value,0,0,0,0⟩:TCall)]:List TCall).flatMap TCall.c,([(⟨2,x.Me,to_,e360.Night,e360.Promised,e360.Ballot,e360.Value,0,0,0,0⟩:TCall)]:List TCall).length,⟨rfl,rfl⟩, ?_⟩
 obtain⟨hg,hm⟩:=gd_some hm
 refine⟨hg,_,_,flat_app (c:=TCall.c) (l:=(v252:List TCall)) (r:=(([(⟨2,x.Me,to_,e360.Night,e360.Promised,e360.Ballot,e360.Value,0,0,0,0⟩:TCall)]:List TCall):List TCall)), ?_⟩
 apply vb hm<;>intro _ hm
 refine⟨([(⟨4,x.Me,to_,e360.Night,e360.Ballot,0,e360.Value,0,0,0,0⟩:TCall)]:List TCall).flatMap TCall.c,([(⟨4,x.Me,to_,e360.Night,e360.Ballot,0,e360.Value,0,0,0,0⟩:TCall)]:List TCall).length,⟨rfl,rfl⟩, ?_⟩
 obtain⟨hg,hm⟩:=gd_some hm
 refine⟨hg,_,_,flat_app (c:=TCall.c) (l:=((v252++([(⟨2,x.Me,to_,e360.Night,e360.Promised,e360.Ballot,e360.Value,0,0,0,0⟩:TCall)]:List TCall)):List TCall)) (r:=(([(⟨4,x.Me,to_,e360.Night,e360.Ballot,0,e360.Value,0,0,0,0⟩:TCall)]:List TCall):List TCall)), ?_⟩
 cases hm
 exact⟨(_,((W (i251+1)),((v252++([(⟨2,x.Me,to_,e360.Night,e360.Promised,e360.Ballot,e360.Value,0,0,0,0⟩:TCall)]:List TCall))++([(⟨4,x.Me,to_,e360.Night,e360.Ballot,0,e360.Value,0,0,0,0⟩:TCall)]:List TCall)))),SubY.of 4 rfl (tA rfl) ⟨hR rfl,hR rfl,hW rfl,hW rfl,trivial⟩,hi358,Nat.lt_succ_self _⟩
 cases hm
 exact⟨(_,((W (i251+1)),(v252++([(⟨2,x.Me,to_,e360.Night,e360.Promised,e360.Ballot,e360.Value,0,0,0,0⟩:TCall)]:List TCall)))),SubY.of 4 rfl (tA rfl) ⟨hR rfl,hR rfl,hW rfl,hW rfl,trivial⟩,hi358,Nat.lt_succ_self _⟩
 apply vb hm<;>intro _ hm
 refine⟨([(⟨4,x.Me,to_,e360.Night,e360.Ballot,0,e360.Value,0,0,0,0⟩:TCall)]:List TCall).flatMap TCall.c,([(⟨4,x.Me,to_,e360.Night,e360.Ballot,0,e360.Value,0,0,0,0⟩:TCall)]:List TCall).length,⟨rfl,rfl⟩, ?_⟩
 obtain⟨hg,hm⟩:=gd_some hm
 refine⟨hg,_,_,flat_app (c:=TCall.c) (l:=(v252:List TCall)) (r:=(([(⟨4,x.Me,to_,e360.Night,e360.Ballot,0,e360.Value,0,0,0,0⟩:TCall)]:List TCall):List TCall)), ?_⟩
 cases hm
 exact⟨(_,((W (i251+1)),(v252++([(⟨4,x.Me,to_,e360.Night,e360.Ballot,0,e360.Value,0,0,0,0⟩:TCall)]:List TCall)))),SubY.of 4 rfl (tA rfl) ⟨hR rfl,hR rfl,hW rfl,hW rfl,trivial⟩,hi358,Nat.lt_succ_self _⟩
 cases hm
 exact⟨(_,((W (i251+1)),v252)),SubY.of 4 rfl (tA rfl) ⟨hR rfl,hR rfl,hW rfl,hW rfl,trivial⟩,hi358,Nat.lt_succ_self _⟩
 apply vb hm<;>intro _ hm
 refine⟨([(⟨4,x.Me,to_,e360.Night,e360.Ballot,0,e360.Value,0,0,0,0⟩:TCall)]:List TCall).flatMap TCall.c,([(⟨4,x.Me,to_,e360.Night,e360.Ballot,0,e360.Value,0,0,0,0⟩:TCall)]:List TCall).length,⟨rfl,rfl⟩, ?_⟩
 obtain⟨hg,hm⟩:=gd_some hm
 refine⟨hg,_,_,flat_app (c:=TCall.c) (l:=(v252:List TCall)) (r:=(([(⟨4,x.Me,to_,e360.Night,e360.Ballot,0,e360.Value,0,0,0,0⟩:TCall)]:List TCall):List TCall)), ?_⟩
 cases hm
 exact⟨(_,((W (i251+1)),(v252++([(⟨4,x.Me,to_,e360.Night,e360.Ballot,0,e360.Value,0,0,0,0⟩:TCall)]:List TCall)))),SubY.of 4 rfl (tA rfl) ⟨hR rfl,hR rfl,hW rfl,hW rfl,trivial⟩,hi358,Nat.lt_succ_self _⟩
 cases hm
 exact⟨(_,((W (i251+1)),v252)),SubY.of 4 rfl (tA rfl) ⟨hR rfl,hR rfl,hW rfl,hW rfl,trivial⟩,hi358,Nat.lt_succ_self _⟩
 cases hm
 cases hi358
 have hm:=hk356
 obtain⟨ev413,he,hk414⟩:=bd_some hm
 refine LoopY.ofL (m_R09_Calls_L3 x to_) (fun(i373,v374)=>⟨[(0, .agg (TStation.c x)),(1,DI to_),(2, .own 0 0),(4, .v (.slice none 0 0)),(5,DI 0),(6, .own 1 0),(7, .row 3 11),(8,DI i12),(11,DI i251),(13,DI i373),(19,DB (x1 !=0)),(22,DB (!x4)),(29,DB (decide (i12<(x.Safe.Bids.length:Int)))),(59,DB (decide (i251<(x.Safe.Slots.length:Int))))], [(0, .blk (TStation.c x) 30),(1, .blk (TState.c x.Safe) 28),(2,rE 11 out11 TCall.c 42),(3,rE 11 v374 TCall.c 42)],4⟩) (0,v252) (SubY.of 4 rfl (tA rfl) ⟨hR rfl,hR rfl,hW rfl,hW rfl,trivial⟩) he ?_
 rintro fu415 ⟨i373,v374⟩ b hm hi416
 apply vb hm<;>intro _ hm
 obtain⟨e418,hx419,hm⟩:=bd_some hm
 refine⟨_,el_idx (fun _=>rfl) hx419, ?_⟩
 apply vb hm<;>intro _ hm
 refine⟨([(⟨5,x.Me,to_,0,0,0,0,e418.No,e418.Thing,e418.From,e418.Until⟩:TCall)]:List TCall).flatMap TCall.c,([(⟨5,x.Me,to_,0,0,0,0,e418.No,e418.Thing,e418.From,e418.Until⟩:TCall)]:List TCall).length,⟨rfl,rfl⟩, ?_⟩
 obtain⟨hg,hm⟩:=gd_some hm
 refine⟨hg,_,_,flat_app (c:=TCall.c) (l:=(v374:List TCall)) (r:=(([(⟨5,x.Me,to_,0,0,0,0,e418.No,e418.Thing,e418.From,e418.Until⟩:TCall)]:List TCall):List TCall)), ?_⟩
 cases hm
 exact⟨(_,((W (i373+1)),(v374++([(⟨5,x.Me,to_,0,0,0,0,e418.No,e418.Thing,e418.From,e418.Until⟩:TCall)]:List TCall)))),SubY.of 4 rfl (tA rfl) ⟨hR rfl,hR rfl,hW rfl,hW rfl,trivial⟩,hi416,Nat.lt_succ_self _⟩
 cases hm
 exact⟨(_,((W (i373+1)),v374)),SubY.of 4 rfl (tA rfl) ⟨hR rfl,hR rfl,hW rfl,hW rfl,trivial⟩,hi416,Nat.lt_succ_self _⟩
 cases hm
 cases hi416
 have hm:=hk414
 obtain⟨ev440,he,hk441⟩:=bd_some hm
 refine LoopY.ofL (m_R09_Calls_L4 x to_) (fun(i426,v427)=>⟨[(0, .agg (TStation.c x)),(1,DI to_),(2, .own 0 0),(4, .v (.slice none 0 0)),(5,DI 0),(6, .own 1 0),(7, .row 3 11),(8,DI i12),(11,DI i251),(13,DI i373),(15,DI i426),(19,DB (x1 !=0)),(22,DB (!x4)),(29,DB (decide (i12<(x.Safe.Bids.length:Int)))),(59,DB (decide (i251<(x.Safe.Slots.length:Int)))),(114,DB (decide (i373<(x.Safe.Leases.length:Int))))], [(0, .blk (TStation.c x) 30),(1, .blk (TState.c x.Safe) 28),(2,rE 11 out11 TCall.c 42),(3,rE 11 v427 TCall.c 42)],4⟩) (0,v374) (SubY.of 4 rfl (tA rfl) ⟨hR rfl,hR rfl,hW rfl,hW rfl,trivial⟩) he ?_
 rintro fu442 ⟨i426,v427⟩ b hm hi443
 apply vb hm<;>intro _ hm
 obtain⟨e445,hx446,hm⟩:=bd_some hm
 refine⟨_,el_idx (fun _=>rfl) hx446, ?_⟩
 apply vb hm<;>intro _ hm
 apply vb hm<;>intro _ hm
 refine⟨([(⟨6,x.Me,to_,0,0,0,0,e445.No,e445.Thing,0,e445.Until⟩:TCall)]:List TCall).flatMap TCall.c,([(⟨6,x.Me,to_,0,0,0,0,e445.No,e445.Thing,0,e445.Until⟩:TCall)]:List TCall).length,⟨rfl,rfl⟩, ?_⟩
 obtain⟨hg,hm⟩:=gd_some hm
 refine⟨hg,_,_,flat_app (c:=TCall.c) (l:=(v427:List TCall)) (r:=(([(⟨6,x.Me,to_,0,0,0,0,e445.No,e445.Thing,0,e445.Until⟩:TCall)]:List TCall):List TCall)), ?_⟩
 cases hm
 exact⟨(_,((W (i426+1)),(v427++([(⟨6,x.Me,to_,0,0,0,0,e445.No,e445.Thing,0,e445.Until⟩:TCall)]:List TCall)))),SubY.of 4 rfl (tA rfl) ⟨hR rfl,hR rfl,hW rfl,hW rfl,trivial⟩,hi443,Nat.lt_succ_self _⟩
 cases hm
 exact⟨(_,((W (i426+1)),v427)),SubY.of 4 rfl (tA rfl) ⟨hR rfl,hR rfl,hW rfl,hW rfl,trivial⟩,hi443,Nat.lt_succ_self _⟩
 cases hm
 exact⟨(_,((W (i426+1)),v427)),SubY.of 4 rfl (tA rfl) ⟨hR rfl,hR rfl,hW rfl,hW rfl,trivial⟩,hi443,Nat.lt_succ_self _⟩
 cases hm
 cases hi443
 have hm:=hk441
 cases hm
 exact RetY.le (leD.refl _)
def m_R09_SameState_L1 (a:TState) (b_:TState):Int→Option (Sum Int (Sum Int Bool)):=fun i13=>
 if(decide (i13<(a.Slots.length:Int)))=true then
  Option.bind (idx a.Slots i13) fun e21=>
  Option.bind (idx b_.Slots i13) fun e23=>
  if(!((e21.Night==e23.Night)&&((e21.Promised==e23.Promised)&&((e21.Ballot==e23.Ballot)&&(e21.Value==e23.Value)))))=true then
   some (.inr (.inr false))
  else
   some (.inl (W (i13+1)))
 else
  some (.inr (.inl i13))
def m_R09_SameState_L2 (a:TState) (b_:TState):Int→Option (Sum Int (Sum Int Bool)):=fun i33=>
 if(decide (i33<(a.Bids.length:Int)))=true then
  Option.bind (idx a.Bids i33) fun e41=>
  Option.bind (idx b_.Bids i33) fun e43=>
  if(!((e41.Night==e43.Night)&&((e41.Ballot==e43.Ballot)&&((e41.Value==e43.Value)&&((e41.Best==e43.Best)&&((e41.Mask==e43.Mask)&&(e41.Asked==e43.Asked)))))))=true then
   some (.inr (.inr false))
  else
   some (.inl (W (i33+1)))
 else
  some (.inr (.inl i33))
def m_R09_SameState_L3 (a:TState) (b_:TState):Int→Option (Sum Int (Sum Int Bool)):=fun i53=>
 if(decide (i53<(a.Heard.length:Int)))=true then
  Option.bind (idx a.Heard i53) fun e61=>
  Option.bind (idx b_.Heard i53) fun e63=>
  if(!((e61.Night==e63.Night)&&((e61.Ballot==e63.Ballot)&&((e61.Value==e63.Value)&&(e61.Mask==e63.Mask)))))=true then
   some (.inr (.inr false))
  else
   some (.inl (W (i53+1)))
 else
  some (.inr (.inl i53))
def m_R09_SameState_L4 (a:TState) (b_:TState):Int→Option (Sum Int (Sum Int Bool)):=fun i73=>
 if(decide (i73<(a.Leases.length:Int)))=true then
  Option.bind (idx a.Leases i73) fun e81=>
  Option.bind (idx b_.Leases i73) fun e83=>
  if(!((e81.No==e83.No)&&((e81.Thing==e83.Thing)&&((e81.To==e83.To)&&((e81.From==e83.From)&&(e81.Until==e83.Until))))))=true then
   some (.inr (.inr false))
  else
   some (.inl (W (i73+1)))
 else
  some (.inr (.inl i73))
def m_R09_SameState_L5 (a:TState) (b_:TState):Int→Option (Sum Int (Sum Int Bool)):=fun i93=>
 if(decide (i93<(a.Loans.length:Int)))=true then
  Option.bind (idx a.Loans i93) fun e101=>
  Option.bind (idx b_.Loans i93) fun e103=>
  if(!((e101.Owner==e103.Owner)&&((e101.No==e103.No)&&((e101.Thing==e103.Thing)&&((e101.From==e103.From)&&((e101.Until==e103.Until)&&(e101.Back==e103.Back)))))))=true then
   some (.inr (.inr false))
  else
   some (.inl (W (i93+1)))
 else
  some (.inr (.inl i93))
def m_R09_SameState (a:TState) (b_:TState):Option Bool:=
 if(a.Round !=b_.Round)=true then
  some false
 else
  if((a.Slots.length:Int) !=(b_.Slots.length:Int))=true then
   some false
  else
   if((a.Bids.length:Int) !=(b_.Bids.length:Int))=true then
    some false
   else
    if((a.Heard.length:Int) !=(b_.Heard.length:Int))=true then
     some false
    else
     if((a.Leases.length:Int) !=(b_.Leases.length:Int))=true then
      some false
     else
      if((a.Loans.length:Int) !=(b_.Loans.length:Int))=true then
       some false
      else
       Option.bind (loopF (m_R09_SameState_L1 a b_) 0) fun e=>
       match e with
       | .inl i26=>
        Option.bind (loopF (m_R09_SameState_L2 a b_) 0) fun e=>
        match e with
        | .inl i46=>
         Option.bind (loopF (m_R09_SameState_L3 a b_) 0) fun e=>
         match e with
         | .inl i66=>
          Option.bind (loopF (m_R09_SameState_L4 a b_) 0) fun e=>
          match e with
          | .inl i86=>
           Option.bind (loopF (m_R09_SameState_L5 a b_) 0) fun e=>
           match e with
           | .inl i106=>
            some true
           | .inr rr107=>
            some rr107
          | .inr rr118=>
           some rr118
         | .inr rr160=>
          some rr160
        | .inr rr264=>
         some rr264
       | .inr rr492=>
        some rr492
theorem d_R09_SameState (a:TState) (b_:TState) (r:Bool) (hm:m_R09_SameState a b_=some r):Does Tryz.prog 44 [.agg (TState.c a), .agg (TState.c b_)] (fun x=>x=DB r):=by
 refine zy pl44 [] [] [] Tryz.func44 rfl ?_
 apply vb hm<;>intro _ hm
 exact hm.rr
 apply vb hm<;>intro _ hm
 exact hm.rr
 apply vb hm<;>intro _ hm
 exact hm.rr
 apply vb hm<;>intro _ hm
 exact hm.rr
 apply vb hm<;>intro _ hm
 exact hm.rr
 apply vb hm<;>intro _ hm
 exact hm.rr
 obtain⟨ev493,he,hk494⟩:=bd_some hm
 refine LoopY.ofL (m_R09_SameState_L1 a b_) (fun i13=>⟨[(0, .agg (TState.c a)),(1, .agg (TState.c b_)),(2, .own 0 0),(3, .own 1 0),(4,DB false),(5,DI i13),(59,DB ((a.Loans.length:Int) !=(b_.Loans.length:Int)))], [(0, .blk (TState.c a) 28),(1, .blk (TState.c b_) 28)],2⟩) 0 (SubY.of 2 rfl (tA rfl) ⟨hR rfl,hR rfl,trivial⟩) he ?_
 rintro fu495 i13 b hm hi496
 apply vb hm<;>intro _ hm
 refine⟨rfl, ?_⟩
 obtain⟨e498,hx499,hm⟩:=bd_some hm
 refine⟨_,el_idx (fun _=>rfl) hx499, ?_⟩
 obtain⟨e500,hx501,hm⟩:=bd_some hm
 refine⟨_,el_idx (fun _=>rfl) hx501, ?_⟩
 apply vb hm<;>intro _ hm
 cases hm
 cases hi496
 have hm:=hk494
 exact hm.rr
 cases hm
 exact⟨(_,(W (i13+1))),SubY.of 2 rfl (tA rfl) ⟨hR rfl,hR rfl,trivial⟩,hi496,Nat.lt_succ_self _⟩
 cases hm
 cases hi496
 have hm:=hk494
 obtain⟨ev741,he,hk742⟩:=bd_some hm
 refine LoopY.ofL (m_R09_SameState_L2 a b_) (fun i509=>⟨[(0, .agg (TState.c a)),(1, .agg (TState.c b_)),(2, .own 0 0),(3, .own 1 0),(4,DB false),(5,DI i13),(6,DI i509),(59,DB ((a.Loans.length:Int) !=(b_.Loans.length:Int))),(64,DB (decide (i13<(a.Slots.length:Int))))], [(0, .blk (TState.c a) 28),(1, .blk (TState.c b_) 28)],2⟩) 0 (SubY.of 2 rfl (tA rfl) ⟨hR rfl,hR rfl,trivial⟩) he ?_
 rintro fu743 i509 b hm hi744
 apply vb hm<;>intro _ hm
 refine⟨rfl, ?_⟩
 obtain⟨e746,hx747,hm⟩:=bd_some hm
 refine⟨_,el_idx (fun _=>rfl) hx747, ?_⟩
 obtain⟨e748,hx749,hm⟩:=bd_some hm
 refine⟨_,el_idx (fun _=>rfl) hx749, ?_⟩
 apply vb hm<;>intro _ hm
 cases hm
 cases hi744
 have hm:=hk742
 exact hm.rr
 cases hm
 exact⟨(_,(W (i509+1))),SubY.of 2 rfl (tA rfl) ⟨hR rfl,hR rfl,trivial⟩,hi744,Nat.lt_succ_self _⟩
 cases hm
 cases hi744
 have hm:=hk742
 obtain⟨ev865,he,hk866⟩:=bd_some hm
 refine LoopY.ofL (m_R09_SameState_L3 a b_) (fun i757=>⟨[(0, .agg (TState.c a)),(1, .agg (TState.c b_)),(2, .own 0 0),(3, .own 1 0),(4,DB false),(5,DI i13),(6,DI i509),(7,DI i757),(59,DB ((a.Loans.length:Int) !=(b_.Loans.length:Int))),(64,DB (decide (i13<(a.Slots.length:Int)))),(82,DB (decide (i509<(a.Bids.length:Int))))], [(0, .blk (TState.c a) 28),(1, .blk (TState.c b_) 28)],2⟩) 0 (SubY.of 2 rfl (tA rfl) ⟨hR rfl,hR rfl,trivial⟩) he ?_
 rintro fu867 i757 b hm hi868
 apply vb hm<;>intro _ hm
 refine⟨rfl, ?_⟩
 obtain⟨e870,hx871,hm⟩:=bd_some hm
 refine⟨_,el_idx (fun _=>rfl) hx871, ?_⟩
 obtain⟨e872,hx873,hm⟩:=bd_some hm
 refine⟨_,el_idx (fun _=>rfl) hx873, ?_⟩
 apply vb hm<;>intro _ hm
 cases hm
 cases hi868
 have hm:=hk866
 exact hm.rr
 cases hm
 exact⟨(_,(W (i757+1))),SubY.of 2 rfl (tA rfl) ⟨hR rfl,hR rfl,trivial⟩,hi868,Nat.lt_succ_self _⟩
 cases hm
 cases hi868
 have hm:=hk866
 obtain⟨ev927,he,hk928⟩:=bd_some hm
 refine LoopY.ofL (m_R09_SameState_L4 a b_) (fun i881=>⟨[(0, .agg (TState.c a)),(1, .agg (TState.c b_)),(2, .own 0 0),(3, .own 1 0),(4,DB false),(5,DI i13),(6,DI i509),(7,DI i757),(8,DI i881),(59,DB ((a.Loans.length:Int) !=(b_.Loans.length:Int))),(64,DB (decide (i13<(a.Slots.length:Int)))),(82,DB (decide (i509<(a.Bids.length:Int)))),(100,DB (decide (i757<(a.Heard.length:Int))))], [(0, .blk (TState.c a) 28),(1, .blk (TState.c b_) 28)],2⟩) 0 (SubY.of 2 rfl (tA rfl) ⟨hR rfl,hR rfl,trivial⟩) he ?_
 rintro fu929 i881 b hm hi930
 apply vb hm<;>intro _ hm
 refine⟨rfl, ?_⟩
 obtain⟨e932,hx933,hm⟩:=bd_some hm
 refine⟨_,el_idx (fun _=>rfl) hx933, ?_⟩
 obtain⟨e934,hx935,hm⟩:=bd_some hm
 refine⟨_,el_idx (fun _=>rfl) hx935, ?_⟩
 apply vb hm<;>intro _ hm
 cases hm
 cases hi930
 have hm:=hk928
 exact hm.rr
 cases hm
 exact⟨(_,(W (i881+1))),SubY.of 2 rfl (tA rfl) ⟨hR rfl,hR rfl,trivial⟩,hi930,Nat.lt_succ_self _⟩
 cases hm
 cases hi930
 have hm:=hk928
 obtain⟨ev958,he,hk959⟩:=bd_some hm
 refine LoopY.ofL (m_R09_SameState_L5 a b_) (fun i943=>⟨[(0, .agg (TState.c a)),(1, .agg (TState.c b_)),(2, .own 0 0),(3, .own 1 0),(4,DB false),(5,DI i13),(6,DI i509),(7,DI i757),(8,DI i881),(9,DI i943),(59,DB ((a.Loans.length:Int) !=(b_.Loans.length:Int))),(64,DB (decide (i13<(a.Slots.length:Int)))),(82,DB (decide (i509<(a.Bids.length:Int)))),(100,DB (decide (i757<(a.Heard.length:Int)))),(118,DB (decide (i881<(a.Leases.length:Int))))], [(0, .blk (TState.c a) 28),(1, .blk (TState.c b_) 28)],2⟩) 0 (SubY.of 2 rfl (tA rfl) ⟨hR rfl,hR rfl,trivial⟩) he ?_
 rintro fu960 i943 b hm hi961
 apply vb hm<;>intro _ hm
 refine⟨rfl, ?_⟩
 obtain⟨e963,hx964,hm⟩:=bd_some hm
 refine⟨_,el_idx (fun _=>rfl) hx964, ?_⟩
 obtain⟨e965,hx966,hm⟩:=bd_some hm
 refine⟨_,el_idx (fun _=>rfl) hx966, ?_⟩
 apply vb hm<;>intro _ hm
 cases hm
 cases hi961
 have hm:=hk959
 exact hm.rr
 cases hm
 exact⟨(_,(W (i943+1))),SubY.of 2 rfl (tA rfl) ⟨hR rfl,hR rfl,trivial⟩,hi961,Nat.lt_succ_self _⟩
 cases hm
 cases hi961
 have hm:=hk959
 exact hm.rr
def m_R09_Same (a:TStation) (b_:TStation):Option Bool:=
 if(a.Me==b_.Me)=true then
  Option.bind (m_R09_SameState a.Now b_.Now) fun x2=>
  if x2=true then
   Option.bind (m_R09_SameState a.Safe b_.Safe) fun x5=>
   some x5
  else
   some false
 else
  some false
theorem d_R09_Same (a:TStation) (b_:TStation) (r:Bool) (hm:m_R09_Same a b_=some r):Does Tryz.prog 18 [.agg (TStation.c a), .agg (TStation.c b_)] (fun x=>x=DB r):=by
 refine zn Tryz.func18 rfl ?_
 apply vb hm<;>intro _ hm
 refine cy hm (d_R09_SameState a.Now b_.Now) fun x2 hm=> ?_
 apply vb hm<;>intro _ hm
 refine cy hm (d_R09_SameState a.Safe b_.Safe) fun x5 hm=> ?_
 exact hm.rr
 exact hm.rr
 exact hm.rr
def m_R09_SameCalls_L1 (a:(List TCall)) (b_:(List TCall)):Int→Option (Sum Int (Sum Int Bool)):=fun i8=>
 if(decide (i8<(a.length:Int)))=true then
  Option.bind (idx a i8) fun e16=>
  Option.bind (idx b_ i8) fun e18=>
  if(!((e16.Kind==e18.Kind)&&((e16.From==e18.From)&&((e16.To==e18.To)&&((e16.Night==e18.Night)&&((e16.Ballot==e18.Ballot)&&((e16.Best==e18.Best)&&((e16.Value==e18.Value)&&((e16.No==e18.No)&&((e16.Thing==e18.Thing)&&((e16.Start==e18.Start)&&(e16.Until==e18.Until))))))))))))=true then
   some (.inr (.inr false))
  else
   some (.inl (W (i8+1)))
 else
  some (.inr (.inl i8))
def m_R09_SameCalls (a:(List TCall)) (b_:(List TCall)):Option Bool:=
 if((a.length:Int) !=(b_.length:Int))=true then
  some false
 else
  Option.bind (loopF (m_R09_SameCalls_L1 a b_) 0) fun e=>
  match e with
  | .inl i21=>
   some true
  | .inr rr22=>
   some rr22
theorem d_R09_SameCalls (a:(List TCall)) (b_:(List TCall)) (r:Bool) (hm:m_R09_SameCalls a b_=some r):Does Tryz.prog 19 [lD 11 a TCall.c,lD 11 b_ TCall.c] (fun x=>x=DB r):=by
 refine zy pl19 [] [] [] Tryz.func19 rfl ?_
 apply vb hm<;>intro _ hm
 exact hm.rr
 obtain⟨ev23,he,hk24⟩:=bd_some hm
 refine LoopY.ofL (m_R09_SameCalls_L1 a b_) (fun i8=>⟨[(0,lD 11 a TCall.c),(1,lD 11 b_ TCall.c),(4,DB false),(5,DI i8),(10,DB ((a.length:Int) !=(b_.length:Int)))], [],0⟩) 0 (SubY.of 0 rfl (tA rfl) trivial) he ?_
 rintro fu25 i8 b hm hi26
 apply vb hm<;>intro _ hm
 refine⟨rfl, ?_⟩
 obtain⟨e28,hx29,hm⟩:=bd_some hm
 refine⟨_,el_idx (fun _=>rfl) hx29, ?_⟩
 obtain⟨e30,hx31,hm⟩:=bd_some hm
 refine⟨_,el_idx (fun _=>rfl) hx31, ?_⟩
 apply vb hm<;>intro _ hm
 cases hm
 cases hi26
 have hm:=hk24
 exact hm.rr
 cases hm
 exact⟨(_,(W (i8+1))),SubY.of 0 rfl (tA rfl) trivial,hi26,Nat.lt_succ_self _⟩
 cases hm
 cases hi26
 have hm:=hk24
 exact hm.rr
def m_muster_New (me:Int):Option (TStation×Int):=
 Option.bind (m_muster_isDepot me) fun x1=>
 if(!x1)=true then
  some ((⟨0,(⟨0, [], [], [], [], []⟩:TState),(⟨0, [], [], [], [], []⟩:TState)⟩:TStation),1)
 else
  some ((⟨me,(⟨0, [], [], [], [], []⟩:TState),(⟨0, [], [], [], [], []⟩:TState)⟩:TStation),0)
theorem d_muster_New (me:Int) (r:(TStation×Int)) (hm:m_muster_New me=some r):Does Tryz.prog 21 [DI me] (fun x=>x= .tup [.agg (TStation.c r.1),DI r.2]):=by
 refine zn Tryz.func21 rfl ?_
 refine cy hm (d_muster_isDepot me) fun x1 hm=> ?_
 apply vb hm<;>intro _ hm
 cases hm
 exact RetY.le (⟨_,rfl,⟨⟨_,rfl,⟨leD.refl _,leD.refl _,leD.nil,leD.nil,leD.nil,leD.nil,leD.nil,leD.refl _,leD.nil,leD.nil,leD.nil,leD.nil,leD.nil,trivial⟩⟩,leD.refl _,trivial⟩⟩)
 cases hm
 exact RetY.le (⟨_,rfl,⟨⟨_,rfl,⟨leD.refl _,leD.refl _,leD.nil,leD.nil,leD.nil,leD.nil,leD.nil,leD.refl _,leD.nil,leD.nil,leD.nil,leD.nil,leD.nil,trivial⟩⟩,leD.refl _,trivial⟩⟩)
def m_muster_post_lent_1 (o:TLease) (c_0:TLease):Option Bool:=
 if(o.Thing==c_0.Thing)=true then
  Option.bind (m_muster_meet o c_0) fun x2=>
  some x2
 else
  some false
theorem d_muster_post_lent_1 (o:TLease) (c_0:TLease) (r:Bool) (hm:m_muster_post_lent_1 o c_0=some r):Does Tryz.prog 151 [.agg (TLease.c o), .ptr (TLease.c c_0) 0] (fun x=>x=DB r):=by
 refine zn Tryz.func151 rfl ?_
 apply vb hm<;>intro _ hm
 refine cy hm (d_muster_meet o c_0) fun x2 hm=> ?_
 exact hm.rr
 exact hm.rr
def m_slices_IndexFunc_api_Lease_api_Lease__muster_post_lent_1_L1 (s:(List TLease)) (c1_0:TLease):Int→Option (Sum Int (Sum Int Int)):=fun v7=>
 if(decide (v7<(s.length:Int)))=true then
  Option.bind (idx s v7) fun e15=>
  Option.bind (m_muster_post_lent_1 e15 c1_0) fun x17=>
  if x17=true then
   some (.inr (.inr v7))
  else
   some (.inl (W (v7+1)))
 else
  some (.inr (.inl v7))
def m_slices_IndexFunc_api_Lease_api_Lease__muster_post_lent_1 (s:(List TLease)) (c1_0:TLease):Option Int:=
 Option.bind (loopF (m_slices_IndexFunc_api_Lease_api_Lease__muster_post_lent_1_L1 s c1_0) 0) fun e=>
 match e with
 | .inl v20=>
  some (-1)
 | .inr rr21=>
  some rr21
theorem d_slices_IndexFunc_api_Lease_api_Lease__muster_post_lent_1 (s:(List TLease)) (c1_0:TLease) (r:Int) (hm:m_slices_IndexFunc_api_Lease_api_Lease__muster_post_lent_1 s c1_0=some r):Does Tryz.prog 179 [lD 5 s TLease.c, .fn 151 [] [.ptr (TLease.c c1_0) 0]] (fun x=>x=DI r):=by
 refine zn Tryz.func179 rfl ?_
 obtain⟨ev22,he,hk23⟩:=bd_some hm
 refine LoopY.ofL (m_slices_IndexFunc_api_Lease_api_Lease__muster_post_lent_1_L1 s c1_0) (fun v7=>⟨[(0,lD 5 s TLease.c),(1, .fn 151 [] [.ptr (TLease.c c1_0) 0]),(4,DI 0),(7,DI (s.length:Int)),(8,DI v7)], [],0⟩) 0 (SubY.of 0 rfl (tA rfl) trivial) he ?_
 rintro fu24 v7 b hm hi25
 apply vb hm<;>intro _ hm
 obtain⟨e27,hx28,hm⟩:=bd_some hm
 refine⟨_,el_idx (fun _=>rfl) hx28, ?_⟩
 refine cy hm (d_muster_post_lent_1 e27 c1_0) fun x29 hm=> ?_
 apply vb hm<;>intro _ hm
 cases hm
 cases hi25
 have hm:=hk23
 exact hm.rr
 cases hm
 exact⟨(_,(W (v7+1))),SubY.of 0 rfl (tA rfl) trivial,hi25,Nat.lt_succ_self _⟩
 cases hm
 cases hi25
 have hm:=hk23
 exact hm.rr
def m_slices_ContainsFunc_api_Lease_api_Lease__muster_post_lent_1 (s:(List TLease)) (c1_0:TLease):Option Bool:=
 Option.bind (m_slices_IndexFunc_api_Lease_api_Lease__muster_post_lent_1 s c1_0) fun x1=>
 some (decide (x1≥0))
theorem d_slices_ContainsFunc_api_Lease_api_Lease__muster_post_lent_1 (s:(List TLease)) (c1_0:TLease) (r:Bool) (hm:m_slices_ContainsFunc_api_Lease_api_Lease__muster_post_lent_1 s c1_0=some r):Does Tryz.prog 143 [lD 5 s TLease.c, .fn 151 [] [.ptr (TLease.c c1_0) 0]] (fun x=>x=DB r):=by
 refine zn Tryz.func143 rfl ?_
 refine cy hm (d_slices_IndexFunc_api_Lease_api_Lease__muster_post_lent_1 s c1_0) fun x1 hm=> ?_
 exact hm.rr
def m_muster_post_lent (p:Tpost) (l:TLease):Option Bool:=
 Option.bind (m_slices_ContainsFunc_api_Lease_api_Lease__muster_post_lent_1 p.Station.Now.Leases l) fun x1=>
 some x1
theorem d_muster_post_lent (p:Tpost) (l:TLease) (r:Bool) (hm:m_muster_post_lent p l=some r):Does Tryz.prog 92 [.ptr (Tpost.c p) 0, .agg (TLease.c l)] (fun x=>x=DB r):=by
 refine zn Tryz.func92 rfl ?_
 refine co hm (d_slices_ContainsFunc_api_Lease_api_Lease__muster_post_lent_1 p.Station.Now.Leases l) fun x1 hm=> ?_
 exact hm.rr
def m_muster_Lend (x:TStation) (thing:Int) (to_:Int) (from_:Int) (until_:Int):Option (TStation×Int):=
 Option.bind (m_IN_muster_open x) fun e=>
 match e with
 | .inl x8=>
  if(x8 !=0)=true then
   some ((⟨0,(⟨0, [], [], [], [], []⟩:TState),(⟨0, [], [], [], [], []⟩:TState)⟩:TStation),x8)
  else
   Option.bind (m_muster_isThing thing) fun x32=>
   if(!x32)=true then
    some ((⟨0,(⟨0, [], [], [], [], []⟩:TState),(⟨0, [], [], [], [], []⟩:TState)⟩:TStation),1)
   else
    Option.bind (m_muster_isDepot to_) fun x35=>
    if(!x35)=true then
     some ((⟨0,(⟨0, [], [], [], [], []⟩:TState),(⟨0, [], [], [], [], []⟩:TState)⟩:TStation),1)
    else
     Option.bind (m_muster_isMoment from_) fun x38=>
     if(!x38)=true then
      some ((⟨0,(⟨0, [], [], [], [], []⟩:TState),(⟨0, [], [], [], [], []⟩:TState)⟩:TStation),95)
     else
      Option.bind (m_muster_isMoment until_) fun x41=>
      if(!x41)=true then
       some ((⟨0,(⟨0, [], [], [], [], []⟩:TState),(⟨0, [], [], [], [], []⟩:TState)⟩:TStation),95)
      else
       none
 | .inr (v9,v10,v11,v12,v13,v14,v15,v16,v17,v18,x19,x20,x21)=>
  Option.bind (m_muster_isThing thing) fun x44=>
  if(!x44)=true then
   some ((⟨0,(⟨0, [], [], [], [], []⟩:TState),(⟨0, [], [], [], [], []⟩:TState)⟩:TStation),1)
  else
   Option.bind (m_muster_isDepot to_) fun x47=>
   if(!x47)=true then
    some ((⟨0,(⟨0, [], [], [], [], []⟩:TState),(⟨0, [], [], [], [], []⟩:TState)⟩:TStation),1)
   else
    Option.bind (m_muster_isMoment from_) fun x50=>
    if(!x50)=true then
     some ((⟨0,(⟨0, [], [], [], [], []⟩:TState),(⟨0, [], [], [], [], []⟩:TState)⟩:TStation),95)
    else
     Option.bind (m_muster_isMoment until_) fun x53=>
     if(!x53)=true then
      some ((⟨0,(⟨0, [], [], [], [], []⟩:TState),(⟨0, [], [], [], [], []⟩:TState)⟩:TStation),95)
     else
      Option.bind (m_muster_depotOf thing) fun x56=>
      if(x56 !=x19)=true then
       some ((⟨0,(⟨0, [], [], [], [], []⟩:TState),(⟨0, [], [], [], [], []⟩:TState)⟩:TStation),92)
      else
       if(to_==x19)=true then
        some ((⟨0,(⟨0, [], [], [], [], []⟩:TState),(⟨0, [], [], [], [], []⟩:TState)⟩:TStation),1)
       else
        if(decide (from_>until_))=true then
         some ((⟨0,(⟨0, [], [], [], [], []⟩:TState),(⟨0, [], [], [], [], []⟩:TState)⟩:TStation),95)
        else
         Option.bind (m_muster_post_lent (⟨(⟨x19,(⟨x20,v9,v10,v11,v12,v13⟩:TState),(⟨x21,v14,v15,v16,v17,v18⟩:TState)⟩:TStation)⟩:Tpost) (⟨(W ((v12.length:Int)+1)),thing,to_,from_,until_⟩:TLease)) fun x61=>
         if x61=true then
          some ((⟨0,(⟨0, [], [], [], [], []⟩:TState),(⟨0, [], [], [], [], []⟩:TState)⟩:TStation),93)
         else
          if((v12.length:Int)==40)=true then
           some ((⟨0,(⟨0, [], [], [], [], []⟩:TState),(⟨0, [], [], [], [], []⟩:TState)⟩:TStation),2)
          else
           gd ((v12.length+([(⟨(W ((v12.length:Int)+1)),thing,to_,from_,until_⟩:TLease)]:List TLease).length)*40≤140737488355328∧v12.length+([(⟨(W ((v12.length:Int)+1)),thing,to_,from_,until_⟩:TLease)]:List TLease).length≤9223372036854775807)<|
           some ((⟨x19,(⟨x20,v9,v10,v11,(v12++([(⟨(W ((v12.length:Int)+1)),thing,to_,from_,until_⟩:TLease)]:List TLease)),v13⟩:TState),(⟨x21,v14,v15,v16,v17,v18⟩:TState)⟩:TStation),0)
theorem d_muster_Lend (x:TStation) (thing:Int) (to_:Int) (from_:Int) (until_:Int) (r:(TStation×Int)) (hm:m_muster_Lend x thing to_ from_ until_=some r):Does Tryz.prog 33 [.agg (TStation.c x),DI thing,DI to_,DI from_,DI until_] (fun x=>x= .tup [.agg (TStation.c r.1),DI r.2]):=by
 refine zy pl33 [99,106,149,210,211,220] [62] [61] Tryz.func33 rfl ?_
 obtain⟨ev29,he30,hm⟩:=bd_some hm
 refine CallIn.ofZ pok ⟨[(0, .agg (TStation.c x)),(1000000, .agg (TStation.c x)),(1000001,DI thing),(1000002,DI to_),(1000003,DI from_),(1000004,DI until_),(1000005, .own 0 0),(1000010, .own 1 0),(1000011,DI 0)], [(0, .blk (TStation.c x) 30),(1, .blk [DI 0,DI 0, .v (.slice none 0 0), .v (.slice none 0 0), .v (.slice none 0 0), .v (.slice none 0 0), .v (.slice none 0 0),DI 0, .v (.slice none 0 0), .v (.slice none 0 0), .v (.slice none 0 0), .v (.slice none 0 0), .v (.slice none 0 0)] 30)],2⟩ (match ev29 with| .inl x8=>(⟨[(0, .agg (TStation.c x)),(1,DI thing),(2,DI to_),(3,DI from_),(4,DI until_),(5, .own 0 0),(10, .own 1 0),(11,DI 0),(17, .tup [.v (.pointer none),DI x8])], [(0, .blk (TStation.c x) 30),(1, .blk [DI 0,DI 0, .v (.slice none 0 0), .v (.slice none 0 0), .v (.slice none 0 0), .v (.slice none 0 0), .v (.slice none 0 0),DI 0, .v (.slice none 0 0), .v (.slice none 0 0), .v (.slice none 0 0), .v (.slice none 0 0), .v (.slice none 0 0)] 30)],2⟩:Sy)| .inr (v9,v10,v11,v12,v13,v14,v15,v16,v17,v18,x19,x20,x21)=>(⟨[(0, .agg (TStation.c x)),(1,DI thing),(2,DI to_),(3,DI from_),(4,DI until_),(5, .own 0 0),(10, .own 1 0),(11,DI 0),(17, .tup [.own 13 0,DI 0])], [(0, .blk (TStation.c x) 30),(1, .blk [DI 0,DI 0, .v (.slice none 0 0), .v (.slice none 0 0), .v (.slice none 0 0), .v (.slice none 0 0), .v (.slice none 0 0),DI 0, .v (.slice none 0 0), .v (.slice none 0 0), .v (.slice none 0 0), .v (.slice none 0 0), .v (.slice none 0 0)] 30),(3,rE 4 v9 TSlot.c 110),(4,rE 6 v10 TBid.c 108),(5,rE 4 v11 THeard.c 149),(6,rE 5 v12 TLease.c 112),(7,rE 6 v13 TLoan.c 114),(8,rE 4 v14 TSlot.c 110),(9,rE 6 v15 TBid.c 108),(10,rE 4 v16 THeard.c 149),(11,rE 5 v17 TLease.c 112),(12,rE 6 v18 TLoan.c 114),(13, .blk [DI x19,DI x20, .row 3 4, .row 4 6, .row 5 4, .row 6 5, .row 7 6,DI x21, .row 8 4, .row 9 6, .row 10 4, .row 11 5, .row 12 6] 102)],14⟩:Sy):Sy) pl61 [99,106,149,210,211,220] [62] [61] Tryz.func61 rfl rfl rfl (SubY.of 2 rfl (tA rfl) ⟨hR rfl,hR rfl,trivial⟩) (fun sv=> ?_) ?_
 have hm:=he30
 refine cy hm (d_muster_Check x) fun x65 hm=> ?_
 apply vb hm<;>intro _ hm
 cases hm
 exact SubY.of 2 rfl (tA rfl) ⟨hR rfl,hR rfl,trivial⟩
 refine⟨rfl, ?_⟩
 obtain⟨x68,hx69,hm⟩:=bd_some hm
 refine .inr (CallM.mk ⟨_,_,dm_muster_copied x.Now _ hx69, ?_⟩)
 obtain⟨x70,hx71,hm⟩:=bd_some hm
 refine .inr (CallM.mk ⟨_,_,dm_muster_copied x.Safe _ hx71, ?_⟩)
 cases hm
 exact SubY.of 14 rfl (tA rfl) ⟨hR rfl,hR rfl,hW rfl,hW rfl,hW rfl,hW rfl,hW rfl,hW rfl,hW rfl,hW rfl,hW rfl,hW rfl,hR rfl,trivial⟩
 rcases ev29 with x8|⟨v9,v10,v11,v12,v13,v14,v15,v16,v17,v18,x19,x20,x21⟩
 apply vb hm<;>intro _ hm
 cases hm
 exact RetY.le (⟨_,rfl,⟨⟨_,rfl,⟨leD.refl _,leD.refl _,leD.nil,leD.nil,leD.nil,leD.nil,leD.nil,leD.refl _,leD.nil,leD.nil,leD.nil,leD.nil,leD.nil,trivial⟩⟩,leD.refl _,trivial⟩⟩)
 refine cy hm (d_muster_isThing thing) fun x32 hm=> ?_
 apply vb hm<;>intro _ hm
 cases hm
 exact RetY.le (⟨_,rfl,⟨⟨_,rfl,⟨leD.refl _,leD.refl _,leD.nil,leD.nil,leD.nil,leD.nil,leD.nil,leD.refl _,leD.nil,leD.nil,leD.nil,leD.nil,leD.nil,trivial⟩⟩,leD.refl _,trivial⟩⟩)
 refine cy hm (d_muster_isDepot to_) fun x35 hm=> ?_
 apply vb hm<;>intro _ hm
 cases hm
 exact RetY.le (⟨_,rfl,⟨⟨_,rfl,⟨leD.refl _,leD.refl _,leD.nil,leD.nil,leD.nil,leD.nil,leD.nil,leD.refl _,leD.nil,leD.nil,leD.nil,leD.nil,leD.nil,trivial⟩⟩,leD.refl _,trivial⟩⟩)
 refine cy hm (d_muster_isMoment from_) fun x38 hm=> ?_
 apply vb hm<;>intro _ hm
 cases hm
 exact RetY.le (⟨_,rfl,⟨⟨_,rfl,⟨leD.refl _,leD.refl _,leD.nil,leD.nil,leD.nil,leD.nil,leD.nil,leD.refl _,leD.nil,leD.nil,leD.nil,leD.nil,leD.nil,trivial⟩⟩,leD.refl _,trivial⟩⟩)
 refine cy hm (d_muster_isMoment until_) fun x41 hm=> ?_
 apply vb hm<;>intro _ hm
 cases hm
 exact RetY.le (⟨_,rfl,⟨⟨_,rfl,⟨leD.refl _,leD.refl _,leD.nil,leD.nil,leD.nil,leD.nil,leD.nil,leD.refl _,leD.nil,leD.nil,leD.nil,leD.nil,leD.nil,trivial⟩⟩,leD.refl _,trivial⟩⟩)
 refine⟨rfl, ?_⟩
 cases hm
 refine cy hm (d_muster_isThing thing) fun x44 hm=> ?_
 apply vb hm<;>intro _ hm
 cases hm
 exact RetY.le (⟨_,rfl,⟨⟨_,rfl,⟨leD.refl _,leD.refl _,leD.nil,leD.nil,leD.nil,leD.nil,leD.nil,leD.refl _,leD.nil,leD.nil,leD.nil,leD.nil,leD.nil,trivial⟩⟩,leD.refl _,trivial⟩⟩)
 refine cy hm (d_muster_isDepot to_) fun x47 hm=> ?_
 apply vb hm<;>intro _ hm
 cases hm
 exact RetY.le (⟨_,rfl,⟨⟨_,rfl,⟨leD.refl _,leD.refl _,leD.nil,leD.nil,leD.nil,leD.nil,leD.nil,leD.refl _,leD.nil,leD.nil,leD.nil,leD.nil,leD.nil,trivial⟩⟩,leD.refl _,trivial⟩⟩)
 refine cy hm (d_muster_isMoment from_) fun x50 hm=> ?_
 apply vb hm<;>intro _ hm
 cases hm
 exact RetY.le (⟨_,rfl,⟨⟨_,rfl,⟨leD.refl _,leD.refl _,leD.nil,leD.nil,leD.nil,leD.nil,leD.nil,leD.refl _,leD.nil,leD.nil,leD.nil,leD.nil,leD.nil,trivial⟩⟩,leD.refl _,trivial⟩⟩)
 refine cy hm (d_muster_isMoment until_) fun x53 hm=> ?_
 apply vb hm<;>intro _ hm
 cases hm
 exact RetY.le (⟨_,rfl,⟨⟨_,rfl,⟨leD.refl _,leD.refl _,leD.nil,leD.nil,leD.nil,leD.nil,leD.nil,leD.refl _,leD.nil,leD.nil,leD.nil,leD.nil,leD.nil,trivial⟩⟩,leD.refl _,trivial⟩⟩)
 refine⟨rfl, ?_⟩
 refine cy hm (d_muster_depotOf thing) fun x56 hm=> ?_
 apply vb hm<;>intro _ hm
 cases hm
 exact RetY.le (⟨_,rfl,⟨⟨_,rfl,⟨leD.refl _,leD.refl _,leD.nil,leD.nil,leD.nil,leD.nil,leD.nil,leD.refl _,leD.nil,leD.nil,leD.nil,leD.nil,leD.nil,trivial⟩⟩,leD.refl _,trivial⟩⟩)
 apply vb hm<;>intro _ hm
 cases hm
 exact RetY.le (⟨_,rfl,⟨⟨_,rfl,⟨leD.refl _,leD.refl _,leD.nil,leD.nil,leD.nil,leD.nil,leD.nil,leD.refl _,leD.nil,leD.nil,leD.nil,leD.nil,leD.nil,trivial⟩⟩,leD.refl _,trivial⟩⟩)
 apply vb hm<;>intro _ hm
 cases hm
 exact RetY.le (⟨_,rfl,⟨⟨_,rfl,⟨leD.refl _,leD.refl _,leD.nil,leD.nil,leD.nil,leD.nil,leD.nil,leD.refl _,leD.nil,leD.nil,leD.nil,leD.nil,leD.nil,trivial⟩⟩,leD.refl _,trivial⟩⟩)
 refine co hm (d_muster_post_lent ((⟨(⟨x19,(⟨x20,v9,v10,v11,v12,v13⟩:TState),(⟨x21,v14,v15,v16,v17,v18⟩:TState)⟩:TStation)⟩:Tpost)) ((⟨(W ((v12.length:Int)+1)),thing,to_,from_,until_⟩:TLease))) fun x61 hm=> ?_
 apply vb hm<;>intro _ hm
 cases hm
 exact RetY.le (⟨_,rfl,⟨⟨_,rfl,⟨leD.refl _,leD.refl _,leD.nil,leD.nil,leD.nil,leD.nil,leD.nil,leD.refl _,leD.nil,leD.nil,leD.nil,leD.nil,leD.nil,trivial⟩⟩,leD.refl _,trivial⟩⟩)
 apply vb hm<;>intro _ hm
 cases hm
 exact RetY.le (⟨_,rfl,⟨⟨_,rfl,⟨leD.refl _,leD.refl _,leD.nil,leD.nil,leD.nil,leD.nil,leD.nil,leD.refl _,leD.nil,leD.nil,leD.nil,leD.nil,leD.nil,trivial⟩⟩,leD.refl _,trivial⟩⟩)
 refine⟨rfl, ?_⟩
 refine⟨([(⟨(W ((v12.length:Int)+1)),thing,to_,from_,until_⟩:TLease)]:List TLease).flatMap TLease.c,([(⟨(W ((v12.length:Int)+1)),thing,to_,from_,until_⟩:TLease)]:List TLease).length,⟨rfl,rfl⟩, ?_⟩
 obtain⟨hg,hm⟩:=gd_some hm
 refine⟨hg,_,_,flat_app (c:=TLease.c) (l:=(v12:List TLease)) (r:=(([(⟨(W ((v12.length:Int)+1)),thing,to_,from_,until_⟩:TLease)]:List TLease):List TLease)), ?_⟩
 cases hm
 exact RetY.le (leD.refl _)
def m_muster_bare (c:TCall):Option (TCall×Bool):=
 if(c.Kind==1)=true then
  if(c.Kind==2)=true then
   if(c.Kind !=1)=true then
    some ((⟨c.Kind,c.From,c.To,c.Night,c.Ballot,c.Best,c.Value,0,0,0,0⟩:TCall),true)
   else
    some ((⟨c.Kind,c.From,c.To,c.Night,c.Ballot,c.Best,0,0,0,0,0⟩:TCall),true)
  else
   if(c.Kind !=1)=true then
    some ((⟨c.Kind,c.From,c.To,c.Night,c.Ballot,0,c.Value,0,0,0,0⟩:TCall),true)
   else
    some ((⟨c.Kind,c.From,c.To,c.Night,c.Ballot,0,0,0,0,0,0⟩:TCall),true)
 else
  if(c.Kind==2)=true then
   if(c.Kind !=1)=true then
    some ((⟨c.Kind,c.From,c.To,c.Night,c.Ballot,c.Best,c.Value,0,0,0,0⟩:TCall),true)
   else
    some ((⟨c.Kind,c.From,c.To,c.Night,c.Ballot,c.Best,0,0,0,0,0⟩:TCall),true)
  else
   if(c.Kind==3)=true then
    if(c.Kind !=1)=true then
     some ((⟨c.Kind,c.From,c.To,c.Night,c.Ballot,0,c.Value,0,0,0,0⟩:TCall),true)
    else
     some ((⟨c.Kind,c.From,c.To,c.Night,c.Ballot,0,0,0,0,0,0⟩:TCall),true)
   else
    if(c.Kind==4)=true then
     if(c.Kind !=1)=true then
      some ((⟨c.Kind,c.From,c.To,c.Night,c.Ballot,0,c.Value,0,0,0,0⟩:TCall),true)
     else
      some ((⟨c.Kind,c.From,c.To,c.Night,c.Ballot,0,0,0,0,0,0⟩:TCall),true)
    else
     if(c.Kind==5)=true then
      some ((⟨c.Kind,c.From,c.To,0,0,0,0,c.No,c.Thing,c.Start,c.Until⟩:TCall),true)
     else
      if(c.Kind==6)=true then
       some ((⟨c.Kind,c.From,c.To,0,0,0,0,c.No,c.Thing,0,c.Until⟩:TCall),true)
      else
       some ((⟨c.Kind,c.From,c.To,0,0,0,0,0,0,0,0⟩:TCall),false)
theorem d_muster_bare (c:TCall) (r:(TCall×Bool)) (hm:m_muster_bare c=some r):Does Tryz.prog 147 [.agg (TCall.c c)] (fun x=>x= .tup [.agg (TCall.c r.1),DB r.2]):=by
 refine zy pl147 [] [] [] Tryz.func147 rfl ?_
 apply vb hm<;>intro h1 hm
 refine VIf.t h1 ?_
 refine⟨rfl, ?_⟩
 apply vb hm<;>intro _ hm
 apply vb hm<;>intro _ hm
 cases hm
 exact RetY.le (leD.refl _)
 cases hm
 exact RetY.le (leD.refl _)
 apply vb hm<;>intro _ hm
 cases hm
 exact RetY.le (leD.refl _)
 cases hm
 exact RetY.le (leD.refl _)
 apply vb hm<;>intro h5 hm
 refine VIf.t h5 ?_
 refine⟨rfl, ?_⟩
 refine VIf.t h5 ?_
 apply vb hm<;>intro _ hm
 cases hm
 exact RetY.le (leD.refl _)
 cases hm
 exact RetY.le (leD.refl _)
 apply vb hm<;>intro h7 hm
 refine VIf.t h7 ?_
 refine⟨rfl, ?_⟩
 refine VIf.f h5 ?_
 apply vb hm<;>intro _ hm
 cases hm
 exact RetY.le (leD.refl _)
 cases hm
 exact RetY.le (leD.refl _)
 apply vb hm<;>intro _ hm
 refine⟨rfl, ?_⟩
 refine VIf.f h5 ?_
 apply vb hm<;>intro _ hm
 cases hm
 exact RetY.le (leD.refl _)
 cases hm
 exact RetY.le (leD.refl _)
 apply vb hm<;>intro _ hm
 refine⟨rfl, ?_⟩
 cases hm
 exact RetY.le (leD.refl _)
 apply vb hm<;>intro _ hm
 refine⟨rfl, ?_⟩
 cases hm
 exact RetY.le (leD.refl _)
 cases hm
 exact RetY.le (leD.refl _)
def m_muster_isCall (c:TCall):Option Bool:=
 Option.bind (m_muster_bare c) fun⟨x1,x2⟩=>
 if(!x2)=true then
  some false
 else
  if(!((c.Kind==x1.Kind)&&((c.From==x1.From)&&((c.To==x1.To)&&((c.Night==x1.Night)&&((c.Ballot==x1.Ballot)&&((c.Best==x1.Best)&&((c.Value==x1.Value)&&((c.No==x1.No)&&((c.Thing==x1.Thing)&&((c.Start==x1.Start)&&(c.Until==x1.Until))))))))))))=true then
   some false
  else
   Option.bind (m_muster_isDepot c.From) fun x6=>
   if(!x6)=true then
    some false
   else
    Option.bind (m_muster_isDepot c.To) fun x9=>
    if(!x9)=true then
     some false
    else
     if(c.From !=c.To)=true then
      Option.bind (m_muster_within c.No 1 40) fun x13=>
      if x13=true then
       Option.bind (m_muster_isThing c.Thing) fun x16=>
       Option.bind (m_muster_isNight c.Night) fun x18=>
       if x18=true then
        Option.bind (m_muster_isBallot c.Ballot) fun x21=>
        if(c.Kind==1)=true then
         if x21=true then
          Option.bind (m_muster_depotOf c.Ballot) fun x25=>
          some (x25==c.From)
         else
          some false
        else
         if(c.Kind==2)=true then
          if x21=true then
           Option.bind (m_muster_depotOf c.Ballot) fun x29=>
           if(x29==c.To)=true then
            if(c.Best==0)=true then
             if(c.Value==0)=true then
              some true
             else
              Option.bind (m_muster_within c.Best 6 (W (c.Ballot-1))) fun x34=>
              if x34=true then
               Option.bind (m_muster_isValue c.Value) fun x37=>
               some x37
              else
               some false
            else
             Option.bind (m_muster_within c.Best 6 (W (c.Ballot-1))) fun x39=>
             if x39=true then
              Option.bind (m_muster_isValue c.Value) fun x42=>
              some x42
             else
              some false
           else
            some false
          else
           some false
         else
          if(c.Kind==3)=true then
           if x21=true then
            Option.bind (m_muster_depotOf c.Ballot) fun x46=>
            if(x46==c.From)=true then
             Option.bind (m_muster_isValue c.Value) fun x49=>
             some x49
            else
             some false
           else
            some false
          else
           if(c.Kind==4)=true then
            if x21=true then
             Option.bind (m_muster_isValue c.Value) fun x53=>
             some x53
            else
             some false
           else
            if(c.Kind==5)=true then
             if x16=true then
              Option.bind (m_muster_depotOf c.Thing) fun x57=>
              if(x57==c.From)=true then
               Option.bind (m_muster_isTime c.Start c.Until) fun x60=>
               some x60
              else
               some false
             else
              some false
            else
             if x16=true then
              Option.bind (m_muster_depotOf c.Thing) fun x63=>
              if(x63==c.To)=true then
               Option.bind (m_muster_isMoment c.Until) fun x66=>
               some x66
              else
               some false
             else
              some false
       else
        if(c.Kind==1)=true then
         some false
        else
         if(c.Kind==2)=true then
          some false
         else
          if(c.Kind==3)=true then
           some false
          else
           if(c.Kind==4)=true then
            some false
           else
            if(c.Kind==5)=true then
             if x16=true then
              Option.bind (m_muster_depotOf c.Thing) fun x74=>
              if(x74==c.From)=true then
               Option.bind (m_muster_isTime c.Start c.Until) fun x77=>
               some x77
              else
               some false
             else
              some false
            else
             if x16=true then
              Option.bind (m_muster_depotOf c.Thing) fun x80=>
              if(x80==c.To)=true then
               Option.bind (m_muster_isMoment c.Until) fun x83=>
               some x83
              else
               some false
             else
              some false
      else
       Option.bind (m_muster_isNight c.Night) fun x85=>
       if x85=true then
        Option.bind (m_muster_isBallot c.Ballot) fun x88=>
        if(c.Kind==1)=true then
         if x88=true then
          Option.bind (m_muster_depotOf c.Ballot) fun x92=>
          some (x92==c.From)
         else
          some false
        else
         if(c.Kind==2)=true then
          if x88=true then
           Option.bind (m_muster_depotOf c.Ballot) fun x96=>
           if(x96==c.To)=true then
            if(c.Best==0)=true then
             if(c.Value==0)=true then
              some true
             else
              Option.bind (m_muster_within c.Best 6 (W (c.Ballot-1))) fun x101=>
              if x101=true then
               Option.bind (m_muster_isValue c.Value) fun x104=>
               some x104
              else
               some false
            else
             Option.bind (m_muster_within c.Best 6 (W (c.Ballot-1))) fun x106=>
             if x106=true then
              Option.bind (m_muster_isValue c.Value) fun x109=>
              some x109
             else
              some false
           else
            some false
          else
           some false
         else
          if(c.Kind==3)=true then
           if x88=true then
            Option.bind (m_muster_depotOf c.Ballot) fun x113=>
            if(x113==c.From)=true then
             Option.bind (m_muster_isValue c.Value) fun x116=>
             some x116
            else
             some false
           else
            some false
          else
           if(c.Kind==4)=true then
            if x88=true then
             Option.bind (m_muster_isValue c.Value) fun x120=>
             some x120
            else
             some false
           else
            if(c.Kind==5)=true then
             some false
            else
             some false
       else
        if(c.Kind==1)=true then
         some false
        else
         if(c.Kind==2)=true then
          some false
         else
          if(c.Kind==3)=true then
           some false
          else
           if(c.Kind==4)=true then
            some false
           else
            if(c.Kind==5)=true then
             some false
            else
             some false
     else
      Option.bind (m_muster_isNight c.Night) fun x128=>
      if x128=true then
       Option.bind (m_muster_isBallot c.Ballot) fun x131=>
       if(c.Kind==1)=true then
        if x131=true then
         Option.bind (m_muster_depotOf c.Ballot) fun x135=>
         some (x135==c.From)
        else
         some false
       else
        if(c.Kind==2)=true then
         if x131=true then
          Option.bind (m_muster_depotOf c.Ballot) fun x139=>
          if(x139==c.To)=true then
           if(c.Best==0)=true then
            if(c.Value==0)=true then
             some true
            else
             Option.bind (m_muster_within c.Best 6 (W (c.Ballot-1))) fun x144=>
             if x144=true then
              Option.bind (m_muster_isValue c.Value) fun x147=>
              some x147
             else
              some false
           else
            Option.bind (m_muster_within c.Best 6 (W (c.Ballot-1))) fun x149=>
            if x149=true then
             Option.bind (m_muster_isValue c.Value) fun x152=>
             some x152
            else
             some false
          else
           some false
         else
          some false
        else
         if(c.Kind==3)=true then
          if x131=true then
           Option.bind (m_muster_depotOf c.Ballot) fun x156=>
           if(x156==c.From)=true then
            Option.bind (m_muster_isValue c.Value) fun x159=>
            some x159
           else
            some false
          else
           some false
         else
          if(c.Kind==4)=true then
           if x131=true then
            Option.bind (m_muster_isValue c.Value) fun x163=>
            some x163
           else
            some false
          else
           if(c.Kind==5)=true then
            some false
           else
            some false
      else
       if(c.Kind==1)=true then
        some false
       else
        if(c.Kind==2)=true then
         some false
        else
         if(c.Kind==3)=true then
          some false
         else
          if(c.Kind==4)=true then
           some false
          else
           if(c.Kind==5)=true then
            some false
           else
            some false
theorem d_muster_isCall (c:TCall) (r:Bool) (hm:m_muster_isCall c=some r):Does Tryz.prog 80 [.agg (TCall.c c)] (fun x=>x=DB r):=by
 refine zy pl80 [] [] [] Tryz.func80 rfl ?_
 refine cy hm (d_muster_bare c) ?_
 rintro⟨x1,x2⟩ hm
 apply vb hm<;>intro _ hm
 exact hm.rr
 apply vb hm<;>intro _ hm
 exact hm.rr
 refine cy hm (d_muster_isDepot c.From) fun x6 hm=> ?_
 apply vb hm<;>intro _ hm
 exact hm.rr
 refine cy hm (d_muster_isDepot c.To) fun x9 hm=> ?_
 apply vb hm<;>intro _ hm
 exact hm.rr
 apply vb hm<;>intro _ hm
 refine cy hm (d_muster_within c.No 1 40) fun x13 hm=> ?_
 apply vb hm<;>intro _ hm
 refine cy hm (d_muster_isThing c.Thing) fun x16 hm=> ?_
 refine cy hm (d_muster_isNight c.Night) fun x18 hm=> ?_
 apply vb hm<;>intro _ hm
 refine cy hm (d_muster_isBallot c.Ballot) fun x21 hm=> ?_
 apply vb hm<;>intro _ hm
 refine⟨rfl, ?_⟩
 apply vb hm<;>intro _ hm
 refine cy hm (d_muster_depotOf c.Ballot) fun x25 hm=> ?_
 exact hm.rr
 exact hm.rr
 apply vb hm<;>intro _ hm
 refine⟨rfl, ?_⟩
 apply vb hm<;>intro _ hm
 refine cy hm (d_muster_depotOf c.Ballot) fun x29 hm=> ?_
 apply vb hm<;>intro _ hm
 apply vb hm<;>intro _ hm
 apply vb hm<;>intro _ hm
 exact hm.rr
 refine cy hm (d_muster_within c.Best 6 (W (c.Ballot-1))) fun x34 hm=> ?_
 apply vb hm<;>intro _ hm
 refine cy hm (d_muster_isValue c.Value) fun x37 hm=> ?_
 exact hm.rr
 exact hm.rr
 refine cy hm (d_muster_within c.Best 6 (W (c.Ballot-1))) fun x39 hm=> ?_
 apply vb hm<;>intro _ hm
 refine cy hm (d_muster_isValue c.Value) fun x42 hm=> ?_
 exact hm.rr
 exact hm.rr
 exact hm.rr
 exact hm.rr
 apply vb hm<;>intro _ hm
 refine⟨rfl, ?_⟩
 apply vb hm<;>intro _ hm
 refine cy hm (d_muster_depotOf c.Ballot) fun x46 hm=> ?_
 apply vb hm<;>intro _ hm
 refine cy hm (d_muster_isValue c.Value) fun x49 hm=> ?_
 exact hm.rr
 exact hm.rr
 exact hm.rr
 apply vb hm<;>intro _ hm
 apply vb hm<;>intro _ hm
 refine cy hm (d_muster_isValue c.Value) fun x53 hm=> ?_
 exact hm.rr
 exact hm.rr
 apply vb hm<;>intro _ hm
 refine⟨rfl, ?_⟩
 apply vb hm<;>intro _ hm
 refine cy hm (d_muster_depotOf c.Thing) fun x57 hm=> ?_
 apply vb hm<;>intro _ hm
 refine cy hm (d_muster_isTime c.Start c.Until) fun x60 hm=> ?_
 exact hm.rr
 exact hm.rr
 exact hm.rr
 refine⟨rfl, ?_⟩
 apply vb hm<;>intro _ hm
 refine cy hm (d_muster_depotOf c.Thing) fun x63 hm=> ?_
 apply vb hm<;>intro _ hm
 refine cy hm (d_muster_isMoment c.Until) fun x66 hm=> ?_
 exact hm.rr
 exact hm.rr
 exact hm.rr
 apply vb hm<;>intro _ hm
 refine⟨rfl, ?_⟩
 exact hm.rr
 apply vb hm<;>intro _ hm
 refine⟨rfl, ?_⟩
 exact hm.rr
 apply vb hm<;>intro _ hm
 refine⟨rfl, ?_⟩
 exact hm.rr
 apply vb hm<;>intro _ hm
 exact hm.rr
 apply vb hm<;>intro _ hm
 refine⟨rfl, ?_⟩
 apply vb hm<;>intro _ hm
 refine cy hm (d_muster_depotOf c.Thing) fun x74 hm=> ?_
 apply vb hm<;>intro _ hm
 refine cy hm (d_muster_isTime c.Start c.Until) fun x77 hm=> ?_
 exact hm.rr
 exact hm.rr
 exact hm.rr
 refine⟨rfl, ?_⟩
 apply vb hm<;>intro _ hm
 refine cy hm (d_muster_depotOf c.Thing) fun x80 hm=> ?_
 apply vb hm<;>intro _ hm
 refine cy hm (d_muster_isMoment c.Until) fun x83 hm=> ?_
 exact hm.rr
 exact hm.rr
 exact hm.rr
 refine cy hm (d_muster_isNight c.Night) fun x85 hm=> ?_
 apply vb hm<;>intro _ hm
 refine cy hm (d_muster_isBallot c.Ballot) fun x88 hm=> ?_
 apply vb hm<;>intro _ hm
 refine⟨rfl, ?_⟩
 apply vb hm<;>intro _ hm
 refine cy hm (d_muster_depotOf c.Ballot) fun x92 hm=> ?_
 exact hm.rr
 exact hm.rr
 apply vb hm<;>intro _ hm
 refine⟨rfl, ?_⟩
 apply vb hm<;>intro _ hm
 refine cy hm (d_muster_depotOf c.Ballot) fun x96 hm=> ?_
 apply vb hm<;>intro _ hm
 apply vb hm<;>intro _ hm
 apply vb hm<;>intro _ hm
 exact hm.rr
 refine cy hm (d_muster_within c.Best 6 (W (c.Ballot-1))) fun x101 hm=> ?_
 apply vb hm<;>intro _ hm
 refine cy hm (d_muster_isValue c.Value) fun x104 hm=> ?_
 exact hm.rr
 exact hm.rr
 refine cy hm (d_muster_within c.Best 6 (W (c.Ballot-1))) fun x106 hm=> ?_
 apply vb hm<;>intro _ hm
 refine cy hm (d_muster_isValue c.Value) fun x109 hm=> ?_
 exact hm.rr
 exact hm.rr
 exact hm.rr
 exact hm.rr
 apply vb hm<;>intro _ hm
 refine⟨rfl, ?_⟩
 apply vb hm<;>intro _ hm
 refine cy hm (d_muster_depotOf c.Ballot) fun x113 hm=> ?_
 apply vb hm<;>intro _ hm
 refine cy hm (d_muster_isValue c.Value) fun x116 hm=> ?_
 exact hm.rr
 exact hm.rr
 exact hm.rr
 apply vb hm<;>intro _ hm
 apply vb hm<;>intro _ hm
 refine cy hm (d_muster_isValue c.Value) fun x120 hm=> ?_
 exact hm.rr
 exact hm.rr
 apply vb hm<;>intro _ hm
 refine⟨rfl, ?_⟩
 exact hm.rr
 refine⟨rfl, ?_⟩
 exact hm.rr
 apply vb hm<;>intro _ hm
 refine⟨rfl, ?_⟩
 exact hm.rr
 apply vb hm<;>intro _ hm
 refine⟨rfl, ?_⟩
 exact hm.rr
 apply vb hm<;>intro _ hm
 refine⟨rfl, ?_⟩
 exact hm.rr
 apply vb hm<;>intro _ hm
 exact hm.rr
 apply vb hm<;>intro _ hm
 refine⟨rfl, ?_⟩
 exact hm.rr
 refine⟨rfl, ?_⟩
 exact hm.rr
 refine cy hm (d_muster_isNight c.Night) fun x128 hm=> ?_
 apply vb hm<;>intro _ hm
 refine cy hm (d_muster_isBallot c.Ballot) fun x131 hm=> ?_
 apply vb hm<;>intro _ hm
 refine⟨rfl, ?_⟩
 apply vb hm<;>intro _ hm
 refine cy hm (d_muster_depotOf c.Ballot) fun x135 hm=> ?_
 exact hm.rr
 exact hm.rr
 apply vb hm<;>intro _ hm
 refine⟨rfl, ?_⟩
 apply vb hm<;>intro _ hm
 refine cy hm (d_muster_depotOf c.Ballot) fun x139 hm=> ?_
 apply vb hm<;>intro _ hm
 apply vb hm<;>intro _ hm
 apply vb hm<;>intro _ hm
 exact hm.rr
 refine cy hm (d_muster_within c.Best 6 (W (c.Ballot-1))) fun x144 hm=> ?_
 apply vb hm<;>intro _ hm
 refine cy hm (d_muster_isValue c.Value) fun x147 hm=> ?_
 exact hm.rr
 exact hm.rr
 refine cy hm (d_muster_within c.Best 6 (W (c.Ballot-1))) fun x149 hm=> ?_
 apply vb hm<;>intro _ hm
 refine cy hm (d_muster_isValue c.Value) fun x152 hm=> ?_
 exact hm.rr
 exact hm.rr
 exact hm.rr
 exact hm.rr
 apply vb hm<;>intro _ hm
 refine⟨rfl, ?_⟩
 apply vb hm<;>intro _ hm
 refine cy hm (d_muster_depotOf c.Ballot) fun x156 hm=> ?_
 apply vb hm<;>intro _ hm
 refine cy hm (d_muster_isValue c.Value) fun x159 hm=> ?_
 exact hm.rr
 exact hm.rr
 exact hm.rr
 apply vb hm<;>intro _ hm
 apply vb hm<;>intro _ hm
 refine cy hm (d_muster_isValue c.Value) fun x163 hm=> ?_
 exact hm.rr
 exact hm.rr
 apply vb hm<;>intro _ hm
 refine⟨rfl, ?_⟩
 exact hm.rr
 refine⟨rfl, ?_⟩
 exact hm.rr
 apply vb hm<;>intro _ hm
 refine⟨rfl, ?_⟩
 exact hm.rr
 apply vb hm<;>intro _ hm
 refine⟨rfl, ?_⟩
 exact hm.rr
 apply vb hm<;>intro _ hm
 refine⟨rfl, ?_⟩
 exact hm.rr
 apply vb hm<;>intro _ hm
 exact hm.rr
 apply vb hm<;>intro _ hm
 refine⟨rfl, ?_⟩
 exact hm.rr
 refine⟨rfl, ?_⟩
 exact hm.rr
def m_slices_Insert_api_Slot_api_Slot (s:(List TSlot)) (i:Int) (v:(List TSlot)):Option (List TSlot):=
 gd (0≤i∧i.toNat≤s.length)<|
 if((v.length:Int)==0)=true then
  some s
 else
  if(i==(s.length:Int))=true then
   gd ((s.length+v.length)*32≤140737488355328∧s.length+v.length≤9223372036854775807)<|
   some (s++v)
  else
   gd (0≤i∧i.toNat<s.length∧0<v.length∧(s.length+v.length)*32≤140737488355328∧s.length+v.length≤9223372036854775807) (some (s.take i.toNat++v++s.drop i.toNat))
theorem d_slices_Insert_api_Slot_api_Slot (s:(List TSlot)) (i:Int) (v:(List TSlot)) (r:(List TSlot)) (hm:m_slices_Insert_api_Slot_api_Slot s i v=some r):DoesL Tryz.prog 220 4 s.length (s.flatMap TSlot.c) 110 [DI i,lD 4 v TSlot.c] 4 r.length (r.flatMap TSlot.c):=by
 obtain⟨hg0,hm⟩:=gd_some hm
 refine does_zins (X:=⟨Tryz.prog,tt,Tryz.f220.ntmps, [], [], [], [], [], []⟩) (t:=22) (tI:=3) (tB:=4) (ov:=232) (ty:=110) (args:= [lD 4 v TSlot.c]) pok Tryz.func220 rfl rfl .mk .mk (Nat.le_of_ble_eq_true rfl) hg0 rfl rfl rfl rfl rfl rfl (by kernel_rfl) ⟨⟨_,4,Tryz.func232,by kernel_rfl,by kernel_rfl,by kernel_rfl,by kernel_rfl⟩⟩ (by decide) ?_
 apply vb hm<;>intro _ hm
 cases hm
 exact⟨rfl,rfl⟩
 apply vb hm<;>intro _ hm
 obtain⟨hg,hm⟩:=gd_some hm
 refine⟨hg,_,_,flat_app (c:=TSlot.c) (l:=(s:List TSlot)) (r:=(v:List TSlot)), ?_⟩
 cases hm
 exact⟨rfl,rfl⟩
 obtain⟨hg,hm⟩:=gd_some hm
 cases hm
 exact ins_k (fun _=>rfl) hg
def m_slices_BinarySearchFunc_api_Slot_api_Slot_api_Slot__muster_compareSlots_L1 (x:(List TSlot)) (target:TSlot):(Int×Int)→Option (Sum (Int×Int) (Int×Int)):=fun(i7,j8)=>
 if(decide (i7<j8))=true then
  Option.bind (idx x (W ((IntKind.u64.wrap (W (i7+j8))).fdiv (2^(min (1:Int).toNat IntKind.u64.bits))))) fun e16=>
  Option.bind (m_muster_compareSlots e16 target) fun x18=>
  if(decide (x18<0))=true then
   some (.inl ((W ((W ((IntKind.u64.wrap (W (i7+j8))).fdiv (2^(min (1:Int).toNat IntKind.u64.bits))))+1)),j8))
  else
   some (.inl (i7,(W ((IntKind.u64.wrap (W (i7+j8))).fdiv (2^(min (1:Int).toNat IntKind.u64.bits))))))
 else
  some (.inr (i7,j8))
def m_slices_BinarySearchFunc_api_Slot_api_Slot_api_Slot__muster_compareSlots (x:(List TSlot)) (target:TSlot):Option (Int×Bool):=
 Option.bind (loopF (m_slices_BinarySearchFunc_api_Slot_api_Slot_api_Slot__muster_compareSlots_L1 x target) (0,(x.length:Int))) fun(i21,j22)=>
 if(decide (i21<(x.length:Int)))=true then
  Option.bind (idx x i21) fun e24=>
  Option.bind (m_muster_compareSlots e24 target) fun x26=>
  some (i21,(x26==0))
 else
  some (i21,false)
theorem d_slices_BinarySearchFunc_api_Slot_api_Slot_api_Slot__muster_compareSlots (x:(List TSlot)) (target:TSlot) (r:(Int×Bool)) (hm:m_slices_BinarySearchFunc_api_Slot_api_Slot_api_Slot__muster_compareSlots x target=some r):Does Tryz.prog 231 [lD 4 x TSlot.c, .agg (TSlot.c target), .fn 136 [] []] (fun x=>x= .tup [DI r.1,DB r.2]):=by
 refine zy pl231 [] [] [] Tryz.func231 rfl ?_
 obtain⟨ev28,he,hk29⟩:=bd_some hm
 refine LoopY.ofL (m_slices_BinarySearchFunc_api_Slot_api_Slot_api_Slot__muster_compareSlots_L1 x target) (fun(i7,j8)=>⟨[(0,lD 4 x TSlot.c),(1, .agg (TSlot.c target)),(2, .fn 136 [] []),(4, .own 0 0),(6,DI 0),(7,DB false),(8,DI (x.length:Int)),(9,DI i7),(10,DI j8)], [(0, .blk (TSlot.c target) 110)],1⟩) (0,(x.length:Int)) (SubY.of 1 rfl (tA rfl) ⟨hR rfl,trivial⟩) he ?_
 rintro fu30 ⟨i7,j8⟩ b hm hi31
 apply vb hm<;>intro _ hm
 refine⟨by decide, ?_⟩
 refine⟨rfl, ?_⟩
 obtain⟨e33,hx34,hm⟩:=bd_some hm
 refine⟨_,el_idx (fun _=>rfl) hx34, ?_⟩
 refine cy hm (d_muster_compareSlots e33 target) fun x35 hm=> ?_
 apply vb hm<;>intro _ hm
 cases hm
 exact⟨(_,((W ((W ((IntKind.u64.wrap (W (i7+j8))).fdiv (2^(min (1:Int).toNat IntKind.u64.bits))))+1)),j8)),SubY.of 1 rfl (tA rfl) ⟨hR rfl,trivial⟩,hi31,Nat.lt_succ_self _⟩
 cases hm
 exact⟨(_,(i7,(W ((IntKind.u64.wrap (W (i7+j8))).fdiv (2^(min (1:Int).toNat IntKind.u64.bits)))))),SubY.of 1 rfl (tA rfl) ⟨hR rfl,trivial⟩,hi31,Nat.lt_succ_self _⟩
 cases hm
 cases hi31
 have hm:=hk29
 refine⟨rfl, ?_⟩
 apply vb hm<;>intro _ hm
 obtain⟨e39,hx40,hm⟩:=bd_some hm
 refine⟨_,el_idx (fun _=>rfl) hx40, ?_⟩
 refine cy hm (d_muster_compareSlots e39 target) fun x41 hm=> ?_
 cases hm
 exact RetY.le (leD.refl _)
 cases hm
 exact RetY.le (leD.refl _)
def m_muster_place_api_Slot__muster_compareSlots (l:(List TSlot)) (x:TSlot):Option (Int×Bool):=
 Option.bind (m_slices_BinarySearchFunc_api_Slot_api_Slot_api_Slot__muster_compareSlots l x) fun⟨x1,x2⟩=>
 some (x1,x2)
theorem d_muster_place_api_Slot__muster_compareSlots (l:(List TSlot)) (x:TSlot) (r:(Int×Bool)) (hm:m_muster_place_api_Slot__muster_compareSlots l x=some r):Does Tryz.prog 219 [lD 4 l TSlot.c, .agg (TSlot.c x), .fn 136 [] []] (fun x=>x= .tup [DI r.1,DB r.2]):=by
 refine zn Tryz.func219 rfl ?_
 refine cy hm (d_slices_BinarySearchFunc_api_Slot_api_Slot_api_Slot__muster_compareSlots l x) ?_
 rintro⟨x1,x2⟩ hm
 cases hm
 exact RetY.le (leD.refl _)
def m_muster_mask_has (m:Int) (depot:Int):Option Bool:=
 gd (0≤depot)<|
 some ((W ((BitVec.ofInt IntKind.i64.bits (m.fdiv (2^(min depot.toNat IntKind.i64.bits)))&&&BitVec.ofInt IntKind.i64.bits 1).toNat:Int))==1)
theorem d_muster_mask_has (m:Int) (depot:Int) (r:Bool) (hm:m_muster_mask_has m depot=some r):Does Tryz.prog 186 [DI m,DI depot] (fun x=>x=DB r):=by
 refine zn Tryz.func186 rfl ?_
 obtain⟨hg,hm⟩:=gd_some hm
 refine⟨hg, ?_⟩
 exact hm.rr
def m_muster_mask_with (m:Int) (depot:Int):Option Int:=
 gd (0≤depot)<|
 some (W ((BitVec.ofInt IntKind.i64.bits m|||BitVec.ofInt IntKind.i64.bits (W (1*(2^(min depot.toNat IntKind.i64.bits))))).toNat:Int))
theorem d_muster_mask_with (m:Int) (depot:Int) (r:Int) (hm:m_muster_mask_with m depot=some r):Does Tryz.prog 187 [DI m,DI depot] (fun x=>x=DI r):=by
 refine zn Tryz.func187 rfl ?_
 obtain⟨hg,hm⟩:=gd_some hm
 refine⟨hg, ?_⟩
 exact hm.rr
def m_muster_post_promise_1 (b_:TBid) (c_0:TCall):Option Bool:=
 if(b_.Night==c_0.Night)=true then
  some (b_.Ballot==c_0.Ballot)
 else
  some false
theorem d_muster_post_promise_1 (b_:TBid) (c_0:TCall) (r:Bool) (hm:m_muster_post_promise_1 b_ c_0=some r):Does Tryz.prog 185 [.agg (TBid.c b_), .ptr (TCall.c c_0) 0] (fun x=>x=DB r):=by
 refine zn Tryz.func185 rfl ?_
 apply vb hm<;>intro _ hm
 exact hm.rr
 exact hm.rr
def m_slices_IndexFunc_api_Bid_api_Bid__muster_post_promise_1_L1 (s:(List TBid)) (c1_0:TCall):Int→Option (Sum Int (Sum Int Int)):=fun v7=>
 if(decide (v7<(s.length:Int)))=true then
  Option.bind (idx s v7) fun e15=>
  Option.bind (m_muster_post_promise_1 e15 c1_0) fun x17=>
  if x17=true then
   some (.inr (.inr v7))
  else
   some (.inl (W (v7+1)))
 else
  some (.inr (.inl v7))
def m_slices_IndexFunc_api_Bid_api_Bid__muster_post_promise_1 (s:(List TBid)) (c1_0:TCall):Option Int:=
 Option.bind (loopF (m_slices_IndexFunc_api_Bid_api_Bid__muster_post_promise_1_L1 s c1_0) 0) fun e=>
 match e with
 | .inl v20=>
  some (-1)
 | .inr rr21=>
  some rr21
theorem d_slices_IndexFunc_api_Bid_api_Bid__muster_post_promise_1 (s:(List TBid)) (c1_0:TCall) (r:Int) (hm:m_slices_IndexFunc_api_Bid_api_Bid__muster_post_promise_1 s c1_0=some r):Does Tryz.prog 178 [lD 6 s TBid.c, .fn 185 [] [.ptr (TCall.c c1_0) 0]] (fun x=>x=DI r):=by
 refine zn Tryz.func178 rfl ?_
 obtain⟨ev22,he,hk23⟩:=bd_some hm
 refine LoopY.ofL (m_slices_IndexFunc_api_Bid_api_Bid__muster_post_promise_1_L1 s c1_0) (fun v7=>⟨[(0,lD 6 s TBid.c),(1, .fn 185 [] [.ptr (TCall.c c1_0) 0]),(4,DI 0),(7,DI (s.length:Int)),(8,DI v7)], [],0⟩) 0 (SubY.of 0 rfl (tA rfl) trivial) he ?_
 rintro fu24 v7 b hm hi25
 apply vb hm<;>intro _ hm
 obtain⟨e27,hx28,hm⟩:=bd_some hm
 refine⟨_,el_idx (fun _=>rfl) hx28, ?_⟩
 refine cy hm (d_muster_post_promise_1 e27 c1_0) fun x29 hm=> ?_
 apply vb hm<;>intro _ hm
 cases hm
 cases hi25
 have hm:=hk23
 exact hm.rr
 cases hm
 exact⟨(_,(W (v7+1))),SubY.of 0 rfl (tA rfl) trivial,hi25,Nat.lt_succ_self _⟩
 cases hm
 cases hi25
 have hm:=hk23
 exact hm.rr
def m_slices_Insert_api_Heard_api_Heard (s:(List THeard)) (i:Int) (v:(List THeard)):Option (List THeard):=
 gd (0≤i∧i.toNat≤s.length)<|
 if((v.length:Int)==0)=true then
  some s
 else
  if(i==(s.length:Int))=true then
   gd ((s.length+v.length)*32≤140737488355328∧s.length+v.length≤9223372036854775807)<|
   some (s++v)
  else
   gd (0≤i∧i.toNat<s.length∧0<v.length∧(s.length+v.length)*32≤140737488355328∧s.length+v.length≤9223372036854775807) (some (s.take i.toNat++v++s.drop i.toNat))
theorem d_slices_Insert_api_Heard_api_Heard (s:(List THeard)) (i:Int) (v:(List THeard)) (r:(List THeard)) (hm:m_slices_Insert_api_Heard_api_Heard s i v=some r):DoesL Tryz.prog 210 4 s.length (s.flatMap THeard.c) 149 [DI i,lD 4 v THeard.c] 4 r.length (r.flatMap THeard.c):=by
 obtain⟨hg0,hm⟩:=gd_some hm
 refine does_zins (X:=⟨Tryz.prog,tt,Tryz.f210.ntmps, [], [], [], [], [], []⟩) (t:=24) (tI:=3) (tB:=4) (ov:=222) (ty:=149) (args:= [lD 4 v THeard.c]) pok Tryz.func210 rfl rfl .mk .mk (Nat.le_of_ble_eq_true rfl) hg0 rfl rfl rfl rfl rfl rfl (by kernel_rfl) ⟨⟨_,4,Tryz.func222,by kernel_rfl,by kernel_rfl,by kernel_rfl,by kernel_rfl⟩⟩ (by decide) ?_
 apply vb hm<;>intro _ hm
 cases hm
 exact⟨rfl,rfl⟩
 apply vb hm<;>intro _ hm
 obtain⟨hg,hm⟩:=gd_some hm
 refine⟨hg,_,_,flat_app (c:=THeard.c) (l:=(s:List THeard)) (r:=(v:List THeard)), ?_⟩
 cases hm
 exact⟨rfl,rfl⟩
 obtain⟨hg,hm⟩:=gd_some hm
 cases hm
 exact ins_k (fun _=>rfl) hg
def m_slices_BinarySearchFunc_api_Heard_api_Heard_api_Heard__muster_compareHeard_L1 (x:(List THeard)) (target:THeard):(Int×Int)→Option (Sum (Int×Int) (Int×Int)):=fun(i7,j8)=>
 if(decide (i7<j8))=true then
  Option.bind (idx x (W ((IntKind.u64.wrap (W (i7+j8))).fdiv (2^(min (1:Int).toNat IntKind.u64.bits))))) fun e16=>
  Option.bind (m_muster_compareHeard e16 target) fun x18=>
  if(decide (x18<0))=true then
   some (.inl ((W ((W ((IntKind.u64.wrap (W (i7+j8))).fdiv (2^(min (1:Int).toNat IntKind.u64.bits))))+1)),j8))
  else
   some (.inl (i7,(W ((IntKind.u64.wrap (W (i7+j8))).fdiv (2^(min (1:Int).toNat IntKind.u64.bits))))))
 else
  some (.inr (i7,j8))
def m_slices_BinarySearchFunc_api_Heard_api_Heard_api_Heard__muster_compareHeard (x:(List THeard)) (target:THeard):Option (Int×Bool):=
 Option.bind (loopF (m_slices_BinarySearchFunc_api_Heard_api_Heard_api_Heard__muster_compareHeard_L1 x target) (0,(x.length:Int))) fun(i21,j22)=>
 if(decide (i21<(x.length:Int)))=true then
  Option.bind (idx x i21) fun e24=>
  Option.bind (m_muster_compareHeard e24 target) fun x26=>
  some (i21,(x26==0))
 else
  some (i21,false)
theorem d_slices_BinarySearchFunc_api_Heard_api_Heard_api_Heard__muster_compareHeard (x:(List THeard)) (target:THeard) (r:(Int×Bool)) (hm:m_slices_BinarySearchFunc_api_Heard_api_Heard_api_Heard__muster_compareHeard x target=some r):Does Tryz.prog 221 [lD 4 x THeard.c, .agg (THeard.c target), .fn 139 [] []] (fun x=>x= .tup [DI r.1,DB r.2]):=by
 refine zy pl221 [] [] [] Tryz.func221 rfl ?_
 obtain⟨ev28,he,hk29⟩:=bd_some hm
 refine LoopY.ofL (m_slices_BinarySearchFunc_api_Heard_api_Heard_api_Heard__muster_compareHeard_L1 x target) (fun(i7,j8)=>⟨[(0,lD 4 x THeard.c),(1, .agg (THeard.c target)),(2, .fn 139 [] []),(4, .own 0 0),(6,DI 0),(7,DB false),(8,DI (x.length:Int)),(9,DI i7),(10,DI j8)], [(0, .blk (THeard.c target) 149)],1⟩) (0,(x.length:Int)) (SubY.of 1 rfl (tA rfl) ⟨hR rfl,trivial⟩) he ?_
 rintro fu30 ⟨i7,j8⟩ b hm hi31
 apply vb hm<;>intro _ hm
 refine⟨by decide, ?_⟩
 refine⟨rfl, ?_⟩
 obtain⟨e33,hx34,hm⟩:=bd_some hm
 refine⟨_,el_idx (fun _=>rfl) hx34, ?_⟩
 refine cy hm (d_muster_compareHeard e33 target) fun x35 hm=> ?_
 apply vb hm<;>intro _ hm
 cases hm
 exact⟨(_,((W ((W ((IntKind.u64.wrap (W (i7+j8))).fdiv (2^(min (1:Int).toNat IntKind.u64.bits))))+1)),j8)),SubY.of 1 rfl (tA rfl) ⟨hR rfl,trivial⟩,hi31,Nat.lt_succ_self _⟩
 cases hm
 exact⟨(_,(i7,(W ((IntKind.u64.wrap (W (i7+j8))).fdiv (2^(min (1:Int).toNat IntKind.u64.bits)))))),SubY.of 1 rfl (tA rfl) ⟨hR rfl,trivial⟩,hi31,Nat.lt_succ_self _⟩
 cases hm
 cases hi31
 have hm:=hk29
 refine⟨rfl, ?_⟩
 apply vb hm<;>intro _ hm
 obtain⟨e39,hx40,hm⟩:=bd_some hm
 refine⟨_,el_idx (fun _=>rfl) hx40, ?_⟩
 refine cy hm (d_muster_compareHeard e39 target) fun x41 hm=> ?_
 cases hm
 exact RetY.le (leD.refl _)
 cases hm
 exact RetY.le (leD.refl _)
def m_muster_place_api_Heard__muster_compareHeard (l:(List THeard)) (x:THeard):Option (Int×Bool):=
 Option.bind (m_slices_BinarySearchFunc_api_Heard_api_Heard_api_Heard__muster_compareHeard l x) fun⟨x1,x2⟩=>
 some (x1,x2)
theorem d_muster_place_api_Heard__muster_compareHeard (l:(List THeard)) (x:THeard) (r:(Int×Bool)) (hm:m_muster_place_api_Heard__muster_compareHeard l x=some r):Does Tryz.prog 209 [lD 4 l THeard.c, .agg (THeard.c x), .fn 139 [] []] (fun x=>x= .tup [DI r.1,DB r.2]):=by
 refine zn Tryz.func209 rfl ?_
 refine cy hm (d_slices_BinarySearchFunc_api_Heard_api_Heard_api_Heard__muster_compareHeard l x) ?_
 rintro⟨x1,x2⟩ hm
 cases hm
 exact RetY.le (leD.refl _)
def m_slices_Insert_api_Loan_api_Loan (s:(List TLoan)) (i:Int) (v:(List TLoan)):Option (List TLoan):=
 gd (0≤i∧i.toNat≤s.length)<|
 if((v.length:Int)==0)=true then
  some s
 else
  if(i==(s.length:Int))=true then
   gd ((s.length+v.length)*48≤140737488355328∧s.length+v.length≤9223372036854775807)<|
   some (s++v)
  else
   gd (0≤i∧i.toNat<s.length∧0<v.length∧(s.length+v.length)*48≤140737488355328∧s.length+v.length≤9223372036854775807) (some (s.take i.toNat++v++s.drop i.toNat))
theorem d_slices_Insert_api_Loan_api_Loan (s:(List TLoan)) (i:Int) (v:(List TLoan)) (r:(List TLoan)) (hm:m_slices_Insert_api_Loan_api_Loan s i v=some r):DoesL Tryz.prog 211 6 s.length (s.flatMap TLoan.c) 114 [DI i,lD 6 v TLoan.c] 6 r.length (r.flatMap TLoan.c):=by
 obtain⟨hg0,hm⟩:=gd_some hm
 refine does_zins (X:=⟨Tryz.prog,tt,Tryz.f211.ntmps, [], [], [], [], [], []⟩) (t:=26) (tI:=3) (tB:=4) (ov:=224) (ty:=114) (args:= [lD 6 v TLoan.c]) pok Tryz.func211 rfl rfl .mk .mk (Nat.le_of_ble_eq_true rfl) hg0 rfl rfl rfl rfl rfl rfl (by kernel_rfl) ⟨⟨_,4,Tryz.func224,by kernel_rfl,by kernel_rfl,by kernel_rfl,by kernel_rfl⟩⟩ (by decide) ?_
 apply vb hm<;>intro _ hm
 cases hm
 exact⟨rfl,rfl⟩
 apply vb hm<;>intro _ hm
 obtain⟨hg,hm⟩:=gd_some hm
 refine⟨hg,_,_,flat_app (c:=TLoan.c) (l:=(s:List TLoan)) (r:=(v:List TLoan)), ?_⟩
 cases hm
 exact⟨rfl,rfl⟩
 obtain⟨hg,hm⟩:=gd_some hm
 cases hm
 exact ins_k (fun _=>rfl) hg
def m_slices_BinarySearchFunc_api_Loan_api_Loan_api_Loan__muster_compareLoans_L1 (x:(List TLoan)) (target:TLoan):(Int×Int)→Option (Sum (Int×Int) (Int×Int)):=fun(i7,j8)=>
 if(decide (i7<j8))=true then
  Option.bind (idx x (W ((IntKind.u64.wrap (W (i7+j8))).fdiv (2^(min (1:Int).toNat IntKind.u64.bits))))) fun e16=>
  Option.bind (m_muster_compareLoans e16 target) fun x18=>
  if(decide (x18<0))=true then
   some (.inl ((W ((W ((IntKind.u64.wrap (W (i7+j8))).fdiv (2^(min (1:Int).toNat IntKind.u64.bits))))+1)),j8))
  else
   some (.inl (i7,(W ((IntKind.u64.wrap (W (i7+j8))).fdiv (2^(min (1:Int).toNat IntKind.u64.bits))))))
 else
  some (.inr (i7,j8))
def m_slices_BinarySearchFunc_api_Loan_api_Loan_api_Loan__muster_compareLoans (x:(List TLoan)) (target:TLoan):Option (Int×Bool):=
 Option.bind (loopF (m_slices_BinarySearchFunc_api_Loan_api_Loan_api_Loan__muster_compareLoans_L1 x target) (0,(x.length:Int))) fun(i21,j22)=>
 if(decide (i21<(x.length:Int)))=true then
  Option.bind (idx x i21) fun e24=>
  Option.bind (m_muster_compareLoans e24 target) fun x26=>
  some (i21,(x26==0))
 else
  some (i21,false)
theorem d_slices_BinarySearchFunc_api_Loan_api_Loan_api_Loan__muster_compareLoans (x:(List TLoan)) (target:TLoan) (r:(Int×Bool)) (hm:m_slices_BinarySearchFunc_api_Loan_api_Loan_api_Loan__muster_compareLoans x target=some r):Does Tryz.prog 152 [lD 6 x TLoan.c, .agg (TLoan.c target), .fn 95 [] []] (fun x=>x= .tup [DI r.1,DB r.2]):=by
 refine zy pl152 [] [] [] Tryz.func152 rfl ?_
 obtain⟨ev28,he,hk29⟩:=bd_some hm
 refine LoopY.ofL (m_slices_BinarySearchFunc_api_Loan_api_Loan_api_Loan__muster_compareLoans_L1 x target) (fun(i7,j8)=>⟨[(0,lD 6 x TLoan.c),(1, .agg (TLoan.c target)),(2, .fn 95 [] []),(4, .own 0 0),(6,DI 0),(7,DB false),(8,DI (x.length:Int)),(9,DI i7),(10,DI j8)], [(0, .blk (TLoan.c target) 114)],1⟩) (0,(x.length:Int)) (SubY.of 1 rfl (tA rfl) ⟨hR rfl,trivial⟩) he ?_
 rintro fu30 ⟨i7,j8⟩ b hm hi31
 apply vb hm<;>intro _ hm
 refine⟨by decide, ?_⟩
 refine⟨rfl, ?_⟩
 obtain⟨e33,hx34,hm⟩:=bd_some hm
 refine⟨_,el_idx (fun _=>rfl) hx34, ?_⟩
 refine cy hm (d_muster_compareLoans e33 target) fun x35 hm=> ?_
 apply vb hm<;>intro _ hm
 cases hm
 exact⟨(_,((W ((W ((IntKind.u64.wrap (W (i7+j8))).fdiv (2^(min (1:Int).toNat IntKind.u64.bits))))+1)),j8)),SubY.of 1 rfl (tA rfl) ⟨hR rfl,trivial⟩,hi31,Nat.lt_succ_self _⟩
 cases hm
 exact⟨(_,(i7,(W ((IntKind.u64.wrap (W (i7+j8))).fdiv (2^(min (1:Int).toNat IntKind.u64.bits)))))),SubY.of 1 rfl (tA rfl) ⟨hR rfl,trivial⟩,hi31,Nat.lt_succ_self _⟩
 cases hm
 cases hi31
 have hm:=hk29
 refine⟨rfl, ?_⟩
 apply vb hm<;>intro _ hm
 obtain⟨e39,hx40,hm⟩:=bd_some hm
 refine⟨_,el_idx (fun _=>rfl) hx40, ?_⟩
 refine cy hm (d_muster_compareLoans e39 target) fun x41 hm=> ?_
 cases hm
 exact RetY.le (leD.refl _)
 cases hm
 exact RetY.le (leD.refl _)
def m_muster_place_api_Loan__muster_compareLoans (l:(List TLoan)) (x:TLoan):Option (Int×Bool):=
 Option.bind (m_slices_BinarySearchFunc_api_Loan_api_Loan_api_Loan__muster_compareLoans l x) fun⟨x1,x2⟩=>
 some (x1,x2)
theorem d_muster_place_api_Loan__muster_compareLoans (l:(List TLoan)) (x:TLoan) (r:(Int×Bool)) (hm:m_muster_place_api_Loan__muster_compareLoans l x=some r):Does Tryz.prog 94 [lD 6 l TLoan.c, .agg (TLoan.c x), .fn 95 [] []] (fun x=>x= .tup [DI r.1,DB r.2]):=by
 refine zn Tryz.func94 rfl ?_
 refine cy hm (d_slices_BinarySearchFunc_api_Loan_api_Loan_api_Loan__muster_compareLoans l x) ?_
 rintro⟨x1,x2⟩ hm
 cases hm
 exact RetY.le (leD.refl _)
theorem d_muster_does:Does Tryz.prog 96 [] (fun x=>x= .mp [(1,154),(2,155),(3,156),(4,157),(5,158),(6,159)]):=
 does_map (t:=140) (kt:=3) (et:=139) Tryz.func96 rfl (.mk (.cons (.cons (.cons (.cons (.cons (.cons .nil))))))) (by decide) rfl rfl (by kernel_rfl) (by kernel_rfl)
def m_IN_muster_put_api_Slot (c:TCall) (v9:(List TSlot)):Option (Sum ((List TSlot)×Int) Unit):=
 Option.bind (m_muster_place_api_Slot__muster_compareSlots v9 (⟨c.Night,0,0,0⟩:TSlot)) fun⟨x122,x123⟩=>
 if x123=true then
  some (.inl (v9,x122))
 else
  if((v9.length:Int)==12)=true then
   some (.inr ())
  else
   Option.bind (m_slices_Insert_api_Slot_api_Slot v9 x122 ([(⟨c.Night,0,0,0⟩:TSlot)]:List TSlot)) fun x127=>
   some (.inl (x127,x122))
def m_IN_muster_post_slot (c:TCall) (v9:(List TSlot)):Option (Sum ((List TSlot)×Int) Unit):=
 Option.bind (m_IN_muster_put_api_Slot c v9) fun e=>
 match e with
 | .inl (v120,x121)=>
  Option.bind (idx v120 x121) fun e131=>
  some (.inl (v120,x121))
 | .inr _=>
  some (.inr ())
def m_IN_muster_post_prepare (c:TCall) (v9:(List TSlot)):Option ((List TSlot)×Bool):=
 Option.bind (m_IN_muster_post_slot c v9) fun e=>
 match e with
 | .inl (v111,x112)=>
  Option.bind (idx v111 x112) fun e142=>
  if(decide (c.Ballot>e142.Promised))=true then
   Option.bind (idx v111 x112) fun e145=>
   some ((v111.set x112.toNat (⟨e145.Night,c.Ballot,e145.Ballot,e145.Value⟩:TSlot)),true)
  else
   some (v111,true)
 | .inr _=>
  some (v9,false)
def m_IN_muster_post_promise (c:TCall) (v10:(List TBid)):Option (List TBid):=
 Option.bind (m_slices_IndexFunc_api_Bid_api_Bid__muster_post_promise_1 v10 c) fun x292=>
 if(decide (x292<0))=true then
  some v10
 else
  Option.bind (idx v10 x292) fun e295=>
  Option.bind (idx v10 x292) fun e297=>
  if e297.Asked=true then
   some v10
  else
   Option.bind (idx v10 x292) fun e300=>
   Option.bind (m_muster_mask_has e300.Mask c.From) fun x302=>
   if x302=true then
    some v10
   else
    Option.bind (idx v10 x292) fun e305=>
    Option.bind (m_muster_mask_with e305.Mask c.From) fun x307=>
    Option.bind (m_muster_mask_quorum x307) fun x309=>
    Option.bind (idx v10 x292) fun e311=>
    Option.bind (idx (v10.set x292.toNat (⟨e311.Night,e311.Ballot,e311.Value,e311.Best,x307,e311.Asked⟩:TBid)) x292) fun e313=>
    Option.bind (idx ((v10.set x292.toNat (⟨e311.Night,e311.Ballot,e311.Value,e311.Best,x307,e311.Asked⟩:TBid)).set x292.toNat (⟨e313.Night,e313.Ballot,e313.Value,e313.Best,e313.Mask,x309⟩:TBid)) x292) fun e315=>
    if(decide (c.Best>e315.Best))=true then
     Option.bind (idx ((v10.set x292.toNat (⟨e311.Night,e311.Ballot,e311.Value,e311.Best,x307,e311.Asked⟩:TBid)).set x292.toNat (⟨e313.Night,e313.Ballot,e313.Value,e313.Best,e313.Mask,x309⟩:TBid)) x292) fun e318=>
     Option.bind (idx (((v10.set x292.toNat (⟨e311.Night,e311.Ballot,e311.Value,e311.Best,x307,e311.Asked⟩:TBid)).set x292.toNat (⟨e313.Night,e313.Ballot,e313.Value,e313.Best,e313.Mask,x309⟩:TBid)).set x292.toNat (⟨e318.Night,e318.Ballot,e318.Value,c.Best,e318.Mask,e318.Asked⟩:TBid)) x292) fun e320=>
     some ((((v10.set x292.toNat (⟨e311.Night,e311.Ballot,e311.Value,e311.Best,x307,e311.Asked⟩:TBid)).set x292.toNat (⟨e313.Night,e313.Ballot,e313.Value,e313.Best,e313.Mask,x309⟩:TBid)).set x292.toNat (⟨e318.Night,e318.Ballot,e318.Value,c.Best,e318.Mask,e318.Asked⟩:TBid)).set x292.toNat (⟨e320.Night,e320.Ballot,c.Value,e320.Best,e320.Mask,e320.Asked⟩:TBid))
    else
     some ((v10.set x292.toNat (⟨e311.Night,e311.Ballot,e311.Value,e311.Best,x307,e311.Asked⟩:TBid)).set x292.toNat (⟨e313.Night,e313.Ballot,e313.Value,e313.Best,e313.Mask,x309⟩:TBid))
def m_IN_muster_post_accept (c:TCall) (v9:(List TSlot)):Option ((List TSlot)×Bool):=
 Option.bind (m_IN_muster_post_slot c v9) fun e=>
 match e with
 | .inl (v430,x431)=>
  Option.bind (idx v430 x431) fun e461=>
  if(decide (c.Ballot≥e461.Promised))=true then
   Option.bind (idx v430 x431) fun e464=>
   Option.bind (idx (v430.set x431.toNat (⟨e464.Night,c.Ballot,e464.Ballot,e464.Value⟩:TSlot)) x431) fun e466=>
   Option.bind (idx ((v430.set x431.toNat (⟨e464.Night,c.Ballot,e464.Ballot,e464.Value⟩:TSlot)).set x431.toNat (⟨e466.Night,e466.Promised,c.Ballot,e466.Value⟩:TSlot)) x431) fun e468=>
   some ((((v430.set x431.toNat (⟨e464.Night,c.Ballot,e464.Ballot,e464.Value⟩:TSlot)).set x431.toNat (⟨e466.Night,e466.Promised,c.Ballot,e466.Value⟩:TSlot)).set x431.toNat (⟨e468.Night,e468.Promised,e468.Ballot,c.Value⟩:TSlot)),true)
  else
   some (v430,true)
 | .inr _=>
  some (v9,false)
def m_IN_muster_put_api_Heard (c:TCall) (v11:(List THeard)):Option (Sum ((List THeard)×Int) Unit):=
 Option.bind (m_muster_place_api_Heard__muster_compareHeard v11 (⟨c.Night,c.Ballot,c.Value,0⟩:THeard)) fun⟨x632,x633⟩=>
 if x633=true then
  some (.inl (v11,x632))
 else
  if((v11.length:Int)==60)=true then
   some (.inr ())
  else
   Option.bind (m_slices_Insert_api_Heard_api_Heard v11 x632 ([(⟨c.Night,c.Ballot,c.Value,0⟩:THeard)]:List THeard)) fun x637=>
   some (.inl (x637,x632))
def m_IN_muster_post_accepted (c:TCall) (v11:(List THeard)):Option ((List THeard)×Bool):=
 Option.bind (m_IN_muster_put_api_Heard c v11) fun e=>
 match e with
 | .inl (v630,x631)=>
  Option.bind (idx v630 x631) fun e641=>
  Option.bind (idx v630 x631) fun e643=>
  if(e643.Value==c.Value)=true then
   Option.bind (idx v630 x631) fun e646=>
   Option.bind (idx v630 x631) fun e648=>
   Option.bind (m_muster_mask_with e648.Mask c.From) fun x650=>
   Option.bind (idx v630 x631) fun e652=>
   Option.bind (idx v630 x631) fun e654=>
   some ((v630.set x631.toNat (⟨e654.Night,e654.Ballot,e654.Value,x650⟩:THeard)),true)
  else
   some (v630,true)
 | .inr _=>
  some (v11,false)
def m_IN_muster_put_api_Loan (c:TCall) (v13:(List TLoan)):Option (Sum ((List TLoan)×Int) Unit):=
 Option.bind (m_muster_place_api_Loan__muster_compareLoans v13 (⟨c.From,c.No,c.Thing,c.Start,c.Until,false⟩:TLoan)) fun⟨x736,x737⟩=>
 if x737=true then
  some (.inl (v13,x736))
 else
  if((v13.length:Int)==60)=true then
   some (.inr ())
  else
   Option.bind (m_slices_Insert_api_Loan_api_Loan v13 x736 ([(⟨c.From,c.No,c.Thing,c.Start,c.Until,false⟩:TLoan)]:List TLoan)) fun x741=>
   some (.inl (x741,x736))
def m_IN_muster_post_grant (c:TCall) (v13:(List TLoan)):Option ((List TLoan)×Bool):=
 Option.bind (m_IN_muster_put_api_Loan c v13) fun e=>
 match e with
 | .inl (v734,x735)=>
  some (v734,true)
 | .inr _=>
  some (v13,false)
def m_IN_muster_post_back_L1 (c:TCall) (v12:(List TLease)):(Int×(List TLease))→Option (Sum (Int×(List TLease)) (Int×(List TLease))):=fun(v858,v859)=>
 if(decide (v858<(v12.length:Int)))=true then
  Option.bind (idx v859 v858) fun e879=>
  Option.bind (idx v859 v858) fun e881=>
  if(e881.No==c.No)=true then
   Option.bind (idx v859 v858) fun e884=>
   if(e884.Thing==c.Thing)=true then
    Option.bind (idx v859 v858) fun e887=>
    if(e887.To==c.From)=true then
     Option.bind (idx v859 v858) fun e890=>
     Option.bind (idx v859 v858) fun e892=>
     Option.bind (idx v859 v858) fun e894=>
     some (.inl ((W (v858+1)),(v859.set v858.toNat (⟨e894.No,e894.Thing,e894.To,e894.From,(if(if e892.From>c.Until then e892.From else c.Until)<e890.Until then(if e892.From>c.Until then e892.From else c.Until)else e890.Until)⟩:TLease))))
    else
     some (.inl ((W (v858+1)),v859))
   else
    some (.inl ((W (v858+1)),v859))
  else
   some (.inl ((W (v858+1)),v859))
 else
  some (.inr (v858,v859))
def m_IN_muster_post_back (c:TCall) (v12:(List TLease)):Option (List TLease):=
 Option.bind (loopF (m_IN_muster_post_back_L1 c v12) (0,v12)) fun(v896,v897)=>
 some v897
end Go.Proofs.YtcedmbakcchkiaaGreatDoor
