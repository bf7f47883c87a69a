/- Functions of the program as pure Lean functions, and that calls do what these say. Printed by a program out of the given form. -/
import Derived.Test.YtcedmbakcchkiaaGreatDoorL0
set_option linter.unusedVariables false
set_option linter.unusedSimpArgs false
namespace Go.Proofs.YtcedmbakcchkiaaGreatDoor
open Go Go.RowKit Go.Sx
set_option maxRecDepth 100000
set_option maxHeartbeats 20000000
def l9 (n:Int) (lo:Int) (hi:Int):Option Bool:=
 if(decide (lo≤n))=true then
  some (decide (n≤hi))
 else
  some false
theorem o7 (n:Int) (lo:Int) (hi:Int) (r:Bool) (hm:l9 n lo hi=some r):k9 Tryz.prog 117 [DI n,DI lo,DI hi] (fun x=>x=DB r):=by
 refine zn Tryz.func117 rfl ?_
 apply vb hm<;>intro _ hm
 exact hm.rr
 exact hm.rr
def A9 (n:Int):Option Bool:=
 Option.bind (l9 n 0 5) fun x1=>
 some x1
theorem B6 (n:Int) (r:Bool) (hm:A9 n=some r):k9 Tryz.prog 64 [DI n] (fun x=>x=DB r):=by
 refine zn Tryz.func64 rfl ?_
 refine cy hm (o7 n 0 5) fun x1 hm=> ?_
 exact hm.rr
def a1o (x:Int):Option Bool:=
 some (x !=x)
theorem a5Q (x:Int) (r:Bool) (hm:a1o x=some r):k9 Tryz.prog 183 [DI x] (fun x=>x=DB r):=by
 refine zn Tryz.func183 rfl ?_
 exact hm.rr
def I2 (x:Int) (y:Int):Option Int:=
 Option.bind (a1o x) fun x1=>
 Option.bind (a1o y) fun x3=>
 if x1=true then
  if x3=true then
   some 0
  else
   some (-1)
 else
  if x3=true then
   some 1
  else
   if(decide (x<y))=true then
    some (-1)
   else
    if(decide (x>y))=true then
     some 1
    else
     some 0
theorem P6 (x:Int) (y:Int) (r:Int) (hm:I2 x y=some r):k9 Tryz.prog 150 [DI x,DI y] (fun x=>x=DI r):=by
 refine zn Tryz.func150 rfl ?_
 refine cy hm (a5Q x) fun x1 hm=> ?_
 refine cy hm (a5Q y) fun x3 hm=> ?_
 apply vb hm<;>intro _ hm
 apply vb hm<;>intro _ hm
 exact hm.rr
 exact hm.rr
 apply vb hm<;>intro _ hm
 exact hm.rr
 apply vb hm<;>intro _ hm
 exact hm.rr
 apply vb hm<;>intro _ hm
 exact hm.rr
 exact hm.rr
def J2 (a:i0) (b_:i0):Option Int:=
 Option.bind (I2 a.Night b_.Night) fun x1=>
 some x1
theorem a0A (a:i0) (b_:i0) (r:Int) (hm:J2 a b_=some r):k9 Tryz.prog 89 [.agg (i0.c a), .agg (i0.c b_)] (fun x=>x=DI r):=by
 refine zn Tryz.func89 rfl ?_
 refine cy hm (P6 a.Night b_.Night) fun x1 hm=> ?_
 exact hm.rr
def a0j (vals:(List Int)):Int→Option (Sum Int (Sum Int Int)):=fun v5=>
 if(decide (v5<(vals.length:Int)))=true then
  Option.bind (idx vals v5) fun e11=>
  if(e11 !=0)=true then
   some (.inr (.inr e11))
  else
   some (.inl (W (v5+1)))
 else
  some (.inr (.inl v5))
def a2i (vals:(List Int)):Option Int:=
 Option.bind (A5 (a0j vals) 0) fun e=>
 match e with
 | .inl v14=>
  some 0
 | .inr rr15=>
  some rr15
theorem a8P (vals:(List Int)) (r:Int) (hm:a2i vals=some r):k9 Tryz.prog 153 [lD 1 vals cI] (fun x=>x=DI r):=by
 refine zn Tryz.func153 rfl ?_
 obtain⟨ev16,he,hk17⟩:=b8 hm
 refine D5.ofL (a0j vals) (fun v5=>⟨[(0,lD 1 vals cI),(2,DI 0),(3,DI 0),(6,lD 1 vals cI),(7,DI (vals.length:Int)),(8,DI v5)], [],0⟩) 0 (i6.of 0 rfl (tA rfl) trivial) he ?_
 rintro fu18 v5 b hm hi19
 apply vb hm<;>intro _ hm
 obtain⟨e21,hx22,hm⟩:=b8 hm
 refine⟨_,u4 (fun _=>rfl) hx22, ?_⟩
 apply vb hm<;>intro _ hm
 cases hm
 cases hi19
 have hm:=hk17
 exact hm.rr
 cases hm
 exact⟨(_,(W (v5+1))),i6.of 0 rfl (tA rfl) trivial,hi19,Nat.lt_succ_self _⟩
 cases hm
 cases hi19
 have hm:=hk17
 exact hm.rr
def H7 (a:d7) (b_:d7):Option Int:=
 Option.bind (I2 a.Owner b_.Owner) fun x1=>
 Option.bind (I2 a.No b_.No) fun x3=>
 Option.bind (a2i ([x1,x3]:List Int)) fun x5=>
 some x5
theorem a0v (a:d7) (b_:d7) (r:Int) (hm:H7 a b_=some r):k9 Tryz.prog 95 [.agg (d7.c a), .agg (d7.c b_)] (fun x=>x=DI r):=by
 refine zy c6L [] [] [] Tryz.func95 rfl ?_
 refine⟨rfl, ?_⟩
 refine cy hm (P6 a.Owner b_.Owner) fun x1 hm=> ?_
 refine cy hm (P6 a.No b_.No) fun x3 hm=> ?_
 refine⟨([x1,x3]:List Int).flatMap cI,([x1,x3]:List Int).length,⟨rfl,rfl⟩, ?_⟩
 refine co hm (a8P (([x1,x3]:List Int))) fun x5 hm=> ?_
 exact hm.rr
def j4 (n:Int):Option Int:=
 some (n.tmod 6)
theorem n6 (n:Int) (r:Int) (hm:j4 n=some r):k9 Tryz.prog 71 [DI n] (fun x=>x=DI r):=by
 refine zn Tryz.func71 rfl ?_
 refine⟨by decide, ?_⟩
 exact hm.rr
def z6 (n:Int):Option Bool:=
 Option.bind (l9 n 0 100000) fun x1=>
 some x1
theorem B3 (n:Int) (r:Bool) (hm:z6 n=some r):k9 Tryz.prog 86 [DI n] (fun x=>x=DB r):=by
 refine zn Tryz.func86 rfl ?_
 refine cy hm (o7 n 0 100000) fun x1 hm=> ?_
 exact hm.rr
def m9 (n:Int):Option Bool:=
 Option.bind (l9 n 1 1000000) fun x1=>
 some x1
theorem q0 (n:Int) (r:Bool) (hm:m9 n=some r):k9 Tryz.prog 87 [DI n] (fun x=>x=DB r):=by
 refine zn Tryz.func87 rfl ?_
 refine cy hm (o7 n 1 1000000) fun x1 hm=> ?_
 exact hm.rr
def a1P (x:Int):Option Int:=
 some (W ((BitVec.ofInt IntKind.i64.bits (W (IntKind.u64.wrap ((IntKind.u64.wrap ((IntKind.u64.wrap ((IntKind.u64.wrap ((BitVec.ofInt IntKind.u64.bits (IntKind.u64.wrap (((IntKind.u64.wrap ((IntKind.u64.wrap ((BitVec.ofInt IntKind.u64.bits ((IntKind.u64.wrap ((IntKind.u64.wrap ((BitVec.ofInt IntKind.u64.bits (x.fdiv (2^(min (1:Int).toNat IntKind.u64.bits)))&&&BitVec.ofInt IntKind.u64.bits 6148914691236517205).toNat:Int))+(IntKind.u64.wrap ((BitVec.ofInt IntKind.u64.bits x&&&BitVec.ofInt IntKind.u64.bits 6148914691236517205).toNat:Int)))).fdiv (2^(min (2:Int).toNat IntKind.u64.bits)))&&&BitVec.ofInt IntKind.u64.bits 3689348814741910323).toNat:Int))+(IntKind.u64.wrap ((BitVec.ofInt IntKind.u64.bits (IntKind.u64.wrap ((IntKind.u64.wrap ((BitVec.ofInt IntKind.u64.bits (x.fdiv (2^(min (1:Int).toNat IntKind.u64.bits)))&&&BitVec.ofInt IntKind.u64.bits 6148914691236517205).toNat:Int))+(IntKind.u64.wrap ((BitVec.ofInt IntKind.u64.bits x&&&BitVec.ofInt IntKind.u64.bits 6148914691236517205).toNat:Int))))&&&BitVec.ofInt IntKind.u64.bits 3689348814741910323).toNat:Int)))).fdiv (2^(min (4:Int).toNat IntKind.u64.bits)))+(IntKind.u64.wrap ((IntKind.u64.wrap ((BitVec.ofInt IntKind.u64.bits ((IntKind.u64.wrap ((IntKind.u64.wrap ((BitVec.ofInt IntKind.u64.bits (x.fdiv (2^(min (1:Int).toNat IntKind.u64.bits)))&&&BitVec.ofInt IntKind.u64.bits 6148914691236517205).toNat:Int))+(IntKind.u64.wrap ((BitVec.ofInt IntKind.u64.bits x&&&BitVec.ofInt IntKind.u64.bits 6148914691236517205).toNat:Int)))).fdiv (2^(min (2:Int).toNat IntKind.u64.bits)))&&&BitVec.ofInt IntKind.u64.bits 3689348814741910323).toNat:Int))+(IntKind.u64.wrap ((BitVec.ofInt IntKind.u64.bits (IntKind.u64.wrap ((IntKind.u64.wrap ((BitVec.ofInt IntKind.u64.bits (x.fdiv (2^(min (1:Int).toNat IntKind.u64.bits)))&&&BitVec.ofInt IntKind.u64.bits 6148914691236517205).toNat:Int))+(IntKind.u64.wrap ((BitVec.ofInt IntKind.u64.bits x&&&BitVec.ofInt IntKind.u64.bits 6148914691236517205).toNat:Int))))&&&BitVec.ofInt IntKind.u64.bits 3689348814741910323).toNat:Int))))))&&&BitVec.ofInt IntKind.u64.bits 1085102592571150095).toNat:Int))+((IntKind.u64.wrap ((BitVec.ofInt IntKind.u64.bits (IntKind.u64.wrap (((IntKind.u64.wrap ((IntKind.u64.wrap ((BitVec.ofInt IntKind.u64.bits ((IntKind.u64.wrap ((IntKind.u64.wrap ((BitVec.ofInt IntKind.u64.bits (x.fdiv (2^(min (1:Int).toNat IntKind.u64.bits)))&&&BitVec.ofInt IntKind.u64.bits 6148914691236517205).toNat:Int))+(IntKind.u64.wrap ((BitVec.ofInt IntKind.u64.bits x&&&BitVec.ofInt IntKind.u64.bits 6148914691236517205).toNat:Int)))).fdiv (2^(min (2:Int).toNat IntKind.u64.bits)))&&&BitVec.ofInt IntKind.u64.bits 3689348814741910323).toNat:Int))+(IntKind.u64.wrap ((BitVec.ofInt IntKind.u64.bits (IntKind.u64.wrap ((IntKind.u64.wrap ((BitVec.ofInt IntKind.u64.bits (x.fdiv (2^(min (1:Int).toNat IntKind.u64.bits)))&&&BitVec.ofInt IntKind.u64.bits 6148914691236517205).toNat:Int))+(IntKind.u64.wrap ((BitVec.ofInt IntKind.u64.bits x&&&BitVec.ofInt IntKind.u64.bits 6148914691236517205).toNat:Int))))&&&BitVec.ofInt IntKind.u64.bits 3689348814741910323).toNat:Int)))).fdiv (2^(min (4:Int).toNat IntKind.u64.bits)))+(IntKind.u64.wrap ((IntKind.u64.wrap ((BitVec.ofInt IntKind.u64.bits ((IntKind.u64.wrap ((IntKind.u64.wrap ((BitVec.ofInt IntKind.u64.bits (x.fdiv (2^(min (1:Int).toNat IntKind.u64.bits)))&&&BitVec.ofInt IntKind.u64.bits 6148914691236517205).toNat:Int))+(IntKind.u64.wrap ((BitVec.ofInt IntKind.u64.bits x&&&BitVec.ofInt IntKind.u64.bits 6148914691236517205).toNat:Int)))).fdiv (2^(min (2:Int).toNat IntKind.u64.bits)))&&&BitVec.ofInt IntKind.u64.bits 3689348814741910323).toNat:Int))+(IntKind.u64.wrap ((BitVec.ofInt IntKind.u64.bits (IntKind.u64.wrap ((IntKind.u64.wrap ((BitVec.ofInt IntKind.u64.bits (x.fdiv (2^(min (1:Int).toNat IntKind.u64.bits)))&&&BitVec.ofInt IntKind.u64.bits 6148914691236517205).toNat:Int))+(IntKind.u64.wrap ((BitVec.ofInt IntKind.u64.bits x&&&BitVec.ofInt IntKind.u64.bits 6148914691236517205).toNat:Int))))&&&BitVec.ofInt IntKind.u64.bits 3689348814741910323).toNat:Int))))))&&&BitVec.ofInt IntKind.u64.bits 1085102592571150095).toNat:Int)).fdiv (2^(min (8:Int).toNat IntKind.u64.bits)))))+((IntKind.u64.wrap ((IntKind.u64.wrap ((BitVec.ofInt IntKind.u64.bits (IntKind.u64.wrap (((IntKind.u64.wrap ((IntKind.u64.wrap ((BitVec.ofInt IntKind.u64.bits ((IntKind.u64.wrap ((IntKind.u64.wrap ((BitVec.ofInt IntKind.u64.bits (x.fdiv (2^(min (1:Int).toNat IntKind.u64.bits)))&&&BitVec.ofInt IntKind.u64.bits 6148914691236517205).toNat:Int))+(IntKind.u64.wrap ((BitVec.ofInt IntKind.u64.bits x&&&BitVec.ofInt IntKind.u64.bits 6148914691236517205).toNat:Int)))).fdiv (2^(min (2:Int).toNat IntKind.u64.bits)))&&&BitVec.ofInt IntKind.u64.bits 3689348814741910323).toNat:Int))+(IntKind.u64.wrap ((BitVec.ofInt IntKind.u64.bits (IntKind.u64.wrap ((IntKind.u64.wrap ((BitVec.ofInt IntKind.u64.bits (x.fdiv (2^(min (1:Int).toNat IntKind.u64.bits)))&&&BitVec.ofInt IntKind.u64.bits 6148914691236517205).toNat:Int))+(IntKind.u64.wrap ((BitVec.ofInt IntKind.u64.bits x&&&BitVec.ofInt IntKind.u64.bits 6148914691236517205).toNat:Int))))&&&BitVec.ofInt IntKind.u64.bits 3689348814741910323).toNat:Int)))).fdiv (2^(min (4:Int).toNat IntKind.u64.bits)))+(IntKind.u64.wrap ((IntKind.u64.wrap ((BitVec.ofInt IntKind.u64.bits ((IntKind.u64.wrap ((IntKind.u64.wrap ((BitVec.ofInt IntKind.u64.bits (x.fdiv (2^(min (1:Int).toNat IntKind.u64.bits)))&&&BitVec.ofInt IntKind.u64.bits 6148914691236517205).toNat:Int))+(IntKind.u64.wrap ((BitVec.ofInt IntKind.u64.bits x&&&BitVec.ofInt IntKind.u64.bits 6148914691236517205).toNat:Int)))).fdiv (2^(min (2:Int).toNat IntKind.u64.bits)))&&&BitVec.ofInt IntKind.u64.bits 3689348814741910323).toNat:Int))+(IntKind.u64.wrap ((BitVec.ofInt IntKind.u64.bits (IntKind.u64.wrap ((IntKind.u64.wrap ((BitVec.ofInt IntKind.u64.bits (x.fdiv (2^(min (1:Int).toNat IntKind.u64.bits)))&&&BitVec.ofInt IntKind.u64.bits 6148914691236517205).toNat:Int))+(IntKind.u64.wrap ((BitVec.ofInt IntKind.u64.bits x&&&BitVec.ofInt IntKind.u64.bits 6148914691236517205).toNat:Int))))&&&BitVec.ofInt IntKind.u64.bits 3689348814741910323).toNat:Int))))))&&&BitVec.ofInt IntKind.u64.bits 1085102592571150095).toNat:Int))+((IntKind.u64.wrap ((BitVec.ofInt IntKind.u64.bits (IntKind.u64.wrap (((IntKind.u64.wrap ((IntKind.u64.wrap ((BitVec.ofInt IntKind.u64.bits ((IntKind.u64.wrap ((IntKind.u64.wrap ((BitVec.ofInt IntKind.u64.bits (x.fdiv (2^(min (1:Int).toNat IntKind.u64.bits)))&&&BitVec.ofInt IntKind.u64.bits 6148914691236517205).toNat:Int))+(IntKind.u64.wrap ((BitVec.ofInt IntKind.u64.bits x&&&BitVec.ofInt IntKind.u64.bits 6148914691236517205).toNat:Int)))).fdiv (2^(min (2:Int).toNat IntKind.u64.bits)))&&&BitVec.ofInt IntKind.u64.bits 3689348814741910323).toNat:Int))+(IntKind.u64.wrap ((BitVec.ofInt IntKind.u64.bits (IntKind.u64.wrap ((IntKind.u64.wrap ((BitVec.ofInt IntKind.u64.bits (x.fdiv (2^(min (1:Int).toNat IntKind.u64.bits)))&&&BitVec.ofInt IntKind.u64.bits 6148914691236517205).toNat:Int))+(IntKind.u64.wrap ((BitVec.ofInt IntKind.u64.bits x&&&BitVec.ofInt IntKind.u64.bits 6148914691236517205).toNat:Int))))&&&BitVec.ofInt IntKind.u64.bits 3689348814741910323).toNat:Int)))).fdiv (2^(min (4:Int).toNat IntKind.u64.bits)))+(IntKind.u64.wrap ((IntKind.u64.wrap ((BitVec.ofInt IntKind.u64.bits ((IntKind.u64.wrap ((IntKind.u64.wrap ((BitVec.ofInt IntKind.u64.bits (x.fdiv (2^(min (1:Int).toNat IntKind.u64.bits)))&&&BitVec.ofInt IntKind.u64.bits 6148914691236517205).toNat:Int))+(IntKind.u64.wrap ((BitVec.ofInt IntKind.u64.bits x&&&BitVec.ofInt IntKind.u64.bits 6148914691236517205).toNat:Int)))).fdiv (2^(min (2:Int).toNat IntKind.u64.bits)))&&&BitVec.ofInt IntKind.u64.bits 3689348814741910323).toNat:Int))+(IntKind.u64.wrap ((BitVec.ofInt IntKind.u64.bits (IntKind.u64.wrap ((IntKind.u64.wrap ((BitVec.ofInt IntKind.u64.bits (x.fdiv (2^(min (1:Int).toNat IntKind.u64.bits)))&&&BitVec.ofInt IntKind.u64.bits 6148914691236517205).toNat:Int))+(IntKind.u64.wrap ((BitVec.ofInt IntKind.u64.bits x&&&BitVec.ofInt IntKind.u64.bits 6148914691236517205).toNat:Int))))&&&BitVec.ofInt IntKind.u64.bits 3689348814741910323).toNat:Int))))))&&&BitVec.ofInt IntKind.u64.bits 1085102592571150095).toNat:Int)).fdiv (2^(min (8:Int).toNat IntKind.u64.bits))))).fdiv (2^(min (16:Int).toNat IntKind.u64.bits)))))+((IntKind.u64.wrap ((IntKind.u64.wrap ((IntKind.u64.wrap ((BitVec.ofInt IntKind.u64.bits (IntKind.u64.wrap (((IntKind.u64.wrap ((IntKind.u64.wrap ((BitVec.ofInt IntKind.u64.bits ((IntKind.u64.wrap ((IntKind.u64.wrap ((BitVec.ofInt IntKind.u64.bits (x.fdiv (2^(min (1:Int).toNat IntKind.u64.bits)))&&&BitVec.ofInt IntKind.u64.bits 6148914691236517205).toNat:Int))+(IntKind.u64.wrap ((BitVec.ofInt IntKind.u64.bits x&&&BitVec.ofInt IntKind.u64.bits 6148914691236517205).toNat:Int)))).fdiv (2^(min (2:Int).toNat IntKind.u64.bits)))&&&BitVec.ofInt IntKind.u64.bits 3689348814741910323).toNat:Int))+(IntKind.u64.wrap ((BitVec.ofInt IntKind.u64.bits (IntKind.u64.wrap ((IntKind.u64.wrap ((BitVec.ofInt IntKind.u64.bits (x.fdiv (2^(min (1:Int).toNat IntKind.u64.bits)))&&&BitVec.ofInt IntKind.u64.bits 6148914691236517205).toNat:Int))+(IntKind.u64.wrap ((BitVec.ofInt IntKind.u64.bits x&&&BitVec.ofInt IntKind.u64.bits 6148914691236517205).toNat:Int))))&&&BitVec.ofInt IntKind.u64.bits 3689348814741910323).toNat:Int)))).fdiv (2^(min (4:Int).toNat IntKind.u64.bits)))+(IntKind.u64.wrap ((IntKind.u64.wrap ((BitVec.ofInt IntKind.u64.bits ((IntKind.u64.wrap ((IntKind.u64.wrap ((BitVec.ofInt IntKind.u64.bits (x.fdiv (2^(min (1:Int).toNat IntKind.u64.bits)))&&&BitVec.ofInt IntKind.u64.bits 6148914691236517205).toNat:Int))+(IntKind.u64.wrap ((BitVec.ofInt IntKind.u64.bits x&&&BitVec.ofInt IntKind.u64.bits 6148914691236517205).toNat:Int)))).fdiv (2^(min (2:Int).toNat IntKind.u64.bits)))&&&BitVec.ofInt IntKind.u64.bits 3689348814741910323).toNat:Int))+(IntKind.u64.wrap ((BitVec.ofInt IntKind.u64.bits (IntKind.u64.wrap ((IntKind.u64.wrap ((BitVec.ofInt IntKind.u64.bits (x.fdiv (2^(min (1:Int).toNat IntKind.u64.bits)))&&&BitVec.ofInt IntKind.u64.bits 6148914691236517205).toNat:Int))+(IntKind.u64.wrap ((BitVec.ofInt IntKind.u64.bits x&&&BitVec.ofInt IntKind.u64.bits 6148914691236517205).toNat:Int))))&&&BitVec.ofInt IntKind.u64.bits 3689348814741910323).toNat:Int))))))&&&BitVec.ofInt IntKind.u64.bits 1085102592571150095).toNat:Int))+((IntKind.u64.wrap ((BitVec.ofInt IntKind.u64.bits (IntKind.u64.wrap (((IntKind.u64.wrap ((IntKind.u64.wrap ((BitVec.ofInt IntKind.u64.bits ((IntKind.u64.wrap ((IntKind.u64.wrap ((BitVec.ofInt IntKind.u64.bits (x.fdiv (2^(min (1:Int).toNat IntKind.u64.bits)))&&&BitVec.ofInt IntKind.u64.bits 6148914691236517205).toNat:Int))+(IntKind.u64.wrap ((BitVec.ofInt IntKind.u64.bits x&&&BitVec.ofInt IntKind.u64.bits 6148914691236517205).toNat:Int)))).fdiv (2^(min (2:Int).toNat IntKind.u64.bits)))&&&BitVec.ofInt IntKind.u64.bits 3689348814741910323).toNat:Int))+(IntKind.u64.wrap ((BitVec.ofInt IntKind.u64.bits (IntKind.u64.wrap ((IntKind.u64.wrap ((BitVec.ofInt IntKind.u64.bits (x.fdiv (2^(min (1:Int).toNat IntKind.u64.bits)))&&&BitVec.ofInt IntKind.u64.bits 6148914691236517205).toNat:Int))+(IntKind.u64.wrap ((BitVec.ofInt IntKind.u64.bits x&&&BitVec.ofInt IntKind.u64.bits 6148914691236517205).toNat:Int))))&&&BitVec.ofInt IntKind.u64.bits 3689348814741910323).toNat:Int)))).fdiv (2^(min (4:Int).toNat IntKind.u64.bits)))+(IntKind.u64.wrap ((IntKind.u64.wrap ((BitVec.ofInt IntKind.u64.bits ((IntKind.u64.wrap ((IntKind.u64.wrap ((BitVec.ofInt IntKind.u64.bits (x.fdiv (2^(min (1:Int).toNat IntKind.u64.bits)))&&&BitVec.ofInt IntKind.u64.bits 6148914691236517205).toNat:Int))+(IntKind.u64.wrap ((BitVec.ofInt IntKind.u64.bits x&&&BitVec.ofInt IntKind.u64.bits 6148914691236517205).toNat:Int)))).fdiv (2^(min (2:Int).toNat IntKind.u64.bits)))&&&BitVec.ofInt IntKind.u64.bits 3689348814741910323).toNat:Int))+(IntKind.u64.wrap ((BitVec.ofInt IntKind.u64.bits (IntKind.u64.wrap ((IntKind.u64.wrap ((BitVec.ofInt IntKind.u64.bits (x.fdiv (2^(min (1:Int).toNat IntKind.u64.bits)))&&&BitVec.ofInt IntKind.u64.bits 6148914691236517205).toNat:Int))+(IntKind.u64.wrap ((BitVec.ofInt IntKind.u64.bits x&&&BitVec.ofInt IntKind.u64.bits 6148914691236517205).toNat:Int))))&&&BitVec.ofInt IntKind.u64.bits 3689348814741910323).toNat:Int))))))&&&BitVec.ofInt IntKind.u64.bits 1085102592571150095).toNat:Int)).fdiv (2^(min (8:Int).toNat IntKind.u64.bits)))))+((IntKind.u64.wrap ((IntKind.u64.wrap ((BitVec.ofInt IntKind.u64.bits (IntKind.u64.wrap (((IntKind.u64.wrap ((IntKind.u64.wrap ((BitVec.ofInt IntKind.u64.bits ((IntKind.u64.wrap ((IntKind.u64.wrap ((BitVec.ofInt IntKind.u64.bits (x.fdiv (2^(min (1:Int).toNat IntKind.u64.bits)))&&&BitVec.ofInt IntKind.u64.bits 6148914691236517205).toNat:Int))+(IntKind.u64.wrap ((BitVec.ofInt IntKind.u64.bits x&&&BitVec.ofInt IntKind.u64.bits 6148914691236517205).toNat:Int)))).fdiv (2^(min (2:Int).toNat IntKind.u64.bits)))&&&BitVec.ofInt IntKind.u64.bits 3689348814741910323).toNat:Int))+(IntKind.u64.wrap ((BitVec.ofInt IntKind.u64.bits (IntKind.u64.wrap ((IntKind.u64.wrap ((BitVec.ofInt IntKind.u64.bits (x.fdiv (2^(min (1:Int).toNat IntKind.u64.bits)))&&&BitVec.ofInt IntKind.u64.bits 6148914691236517205).toNat:Int))+(IntKind.u64.wrap ((BitVec.ofInt IntKind.u64.bits x&&&BitVec.ofInt IntKind.u64.bits 6148914691236517205).toNat:Int))))&&&BitVec.ofInt IntKind.u64.bits 3689348814741910323).toNat:Int)))).fdiv (2^(min (4:Int).toNat IntKind.u64.bits)))+(IntKind.u64.wrap ((IntKind.u64.wrap ((BitVec.ofInt IntKind.u64.bits ((IntKind.u64.wrap ((IntKind.u64.wrap ((BitVec.ofInt IntKind.u64.bits (x.fdiv (2^(min (1:Int).toNat IntKind.u64.bits)))&&&BitVec.ofInt IntKind.u64.bits 6148914691236517205).toNat:Int))+(IntKind.u64.wrap ((BitVec.ofInt IntKind.u64.bits x&&&BitVec.ofInt IntKind.u64.bits 6148914691236517205).toNat:Int)))).fdiv (2^(min (2:Int).toNat IntKind.u64.bits)))&&&BitVec.ofInt IntKind.u64.bits 3689348814741910323).toNat:Int))+(IntKind.u64.wrap ((BitVec.ofInt IntKind.u64.bits (IntKind.u64.wrap ((IntKind.u64.wrap ((BitVec.ofInt IntKind.u64.bits (x.fdiv (2^(min (1:Int).toNat IntKind.u64.bits)))&&&BitVec.ofInt IntKind.u64.bits 6148914691236517205).toNat:Int))+(IntKind.u64.wrap ((BitVec.ofInt IntKind.u64.bits x&&&BitVec.ofInt IntKind.u64.bits 6148914691236517205).toNat:Int))))&&&BitVec.ofInt IntKind.u64.bits 3689348814741910323).toNat:Int))))))&&&BitVec.ofInt IntKind.u64.bits 1085102592571150095).toNat:Int))+((IntKind.u64.wrap ((BitVec.ofInt IntKind.u64.bits (IntKind.u64.wrap (((IntKind.u64.wrap ((IntKind.u64.wrap ((BitVec.ofInt IntKind.u64.bits ((IntKind.u64.wrap ((IntKind.u64.wrap ((BitVec.ofInt IntKind.u64.bits (x.fdiv (2^(min (1:Int).toNat IntKind.u64.bits)))&&&BitVec.ofInt IntKind.u64.bits 6148914691236517205).toNat:Int))+(IntKind.u64.wrap ((BitVec.ofInt IntKind.u64.bits x&&&BitVec.ofInt IntKind.u64.bits 6148914691236517205).toNat:Int)))).fdiv (2^(min (2:Int).toNat IntKind.u64.bits)))&&&BitVec.ofInt IntKind.u64.bits 3689348814741910323).toNat:Int))+(IntKind.u64.wrap ((BitVec.ofInt IntKind.u64.bits (IntKind.u64.wrap ((IntKind.u64.wrap ((BitVec.ofInt IntKind.u64.bits (x.fdiv (2^(min (1:Int).toNat IntKind.u64.bits)))&&&BitVec.ofInt IntKind.u64.bits 6148914691236517205).toNat:Int))+(IntKind.u64.wrap ((BitVec.ofInt IntKind.u64.bits x&&&BitVec.ofInt IntKind.u64.bits 6148914691236517205).toNat:Int))))&&&BitVec.ofInt IntKind.u64.bits 3689348814741910323).toNat:Int)))).fdiv (2^(min (4:Int).toNat IntKind.u64.bits)))+(IntKind.u64.wrap ((IntKind.u64.wrap ((BitVec.ofInt IntKind.u64.bits ((IntKind.u64.wrap ((IntKind.u64.wrap ((BitVec.ofInt IntKind.u64.bits (x.fdiv (2^(min (1:Int).toNat IntKind.u64.bits)))&&&BitVec.ofInt IntKind.u64.bits 6148914691236517205).toNat:Int))+(IntKind.u64.wrap ((BitVec.ofInt IntKind.u64.bits x&&&BitVec.ofInt IntKind.u64.bits 6148914691236517205).toNat:Int)))).fdiv (2^(min (2:Int).toNat IntKind.u64.bits)))&&&BitVec.ofInt IntKind.u64.bits 3689348814741910323).toNat:Int))+(IntKind.u64.wrap ((BitVec.ofInt IntKind.u64.bits (IntKind.u64.wrap ((IntKind.u64.wrap ((BitVec.ofInt IntKind.u64.bits (x.fdiv (2^(min (1:Int).toNat IntKind.u64.bits)))&&&BitVec.ofInt IntKind.u64.bits 6148914691236517205).toNat:Int))+(IntKind.u64.wrap ((BitVec.ofInt IntKind.u64.bits x&&&BitVec.ofInt IntKind.u64.bits 6148914691236517205).toNat:Int))))&&&BitVec.ofInt IntKind.u64.bits 3689348814741910323).toNat:Int))))))&&&BitVec.ofInt IntKind.u64.bits 1085102592571150095).toNat:Int)).fdiv (2^(min (8:Int).toNat IntKind.u64.bits))))).fdiv (2^(min (16:Int).toNat IntKind.u64.bits))))).fdiv (2^(min (32:Int).toNat IntKind.u64.bits))))))&&&BitVec.ofInt IntKind.i64.bits 127).toNat:Int))
theorem a5g (x:Int) (r:Int) (hm:a1P x=some r):k9 Tryz.prog 203 [.v (.int .u64 x)] (fun x=>x=DI r):=by
 refine zn Tryz.func203 rfl ?_
 refine⟨by decide, ?_⟩
 refine⟨by decide, ?_⟩
 refine⟨by decide, ?_⟩
 refine⟨by decide, ?_⟩
 refine⟨by decide, ?_⟩
 refine⟨by decide, ?_⟩
 exact hm.rr
def a2y (x:Int):Option Int:=
 Option.bind (a1P x) fun x1=>
 some x1
theorem a5Z (x:Int) (r:Int) (hm:a2y x=some r):k9 Tryz.prog 169 [.v (.int .u64 x)] (fun x=>x=DI r):=by
 refine zn Tryz.func169 rfl ?_
 refine cy hm (a5g x) fun x1 hm=> ?_
 exact hm.rr
def L3 (m:Int):Option Bool:=
 Option.bind (a2y (IntKind.u64.wrap m)) fun x1=>
 some (decide (x1≥4))
theorem a0B (m:Int) (r:Bool) (hm:L3 m=some r):k9 Tryz.prog 105 [DI m] (fun x=>x=DB r):=by
 refine zn Tryz.func105 rfl ?_
 refine cy hm (a5Z (IntKind.u64.wrap m)) fun x1 hm=> ?_
 exact hm.rr
def W8 (m:Int):Option Bool:=
 Option.bind (l9 m 0 63) fun x1=>
 some x1
theorem a3n (m:Int) (r:Bool) (hm:W8 m=some r):k9 Tryz.prog 123 [DI m] (fun x=>x=DB r):=by
 refine zn Tryz.func123 rfl ?_
 refine cy hm (o7 m 0 63) fun x1 hm=> ?_
 exact hm.rr
def B8 (n:Int):Option Bool:=
 Option.bind (l9 n 6 59999) fun x1=>
 some x1
theorem I6 (n:Int) (r:Bool) (hm:B8 n=some r):k9 Tryz.prog 125 [DI n] (fun x=>x=DB r):=by
 refine zn Tryz.func125 rfl ?_
 refine cy hm (o7 n 6 59999) fun x1 hm=> ?_
 exact hm.rr
def a1v (h:c9):Option Bool:=
 Option.bind (B8 h.Ballot) fun x1=>
 if x1=true then
  Option.bind (z6 h.Night) fun x4=>
  if x4=true then
   Option.bind (m9 h.Value) fun x7=>
   if x7=true then
    if(h.Mask !=0)=true then
     Option.bind (W8 h.Mask) fun x11=>
     some x11
    else
     some false
   else
    some false
  else
   some false
 else
  some false
theorem a7y (h:c9) (r:Bool) (hm:a1v h=some r):k9 Tryz.prog 124 [.agg (c9.c h)] (fun x=>x=DB r):=by
 refine zn Tryz.func124 rfl ?_
 refine cy hm (I6 h.Ballot) fun x1 hm=> ?_
 apply vb hm<;>intro _ hm
 refine cy hm (B3 h.Night) fun x4 hm=> ?_
 apply vb hm<;>intro _ hm
 refine cy hm (q0 h.Value) fun x7 hm=> ?_
 apply vb hm<;>intro _ hm
 apply vb hm<;>intro _ hm
 refine cy hm (a3n h.Mask) fun x11 hm=> ?_
 exact hm.rr
 exact hm.rr
 exact hm.rr
 exact hm.rr
 exact hm.rr
def B2 (n:Int):Option Bool:=
 Option.bind (l9 n 1 99) fun x1=>
 some x1
theorem G9 (n:Int) (r:Bool) (hm:B2 n=some r):k9 Tryz.prog 70 [DI n] (fun x=>x=DB r):=by
 refine zn Tryz.func70 rfl ?_
 refine cy hm (o7 n 1 99) fun x1 hm=> ?_
 exact hm.rr
def j5 (n:Int):Option Bool:=
 Option.bind (l9 n 0 144001439) fun x1=>
 some x1
theorem n7 (n:Int) (r:Bool) (hm:j5 n=some r):k9 Tryz.prog 91 [DI n] (fun x=>x=DB r):=by
 refine zn Tryz.func91 rfl ?_
 refine cy hm (o7 n 0 144001439) fun x1 hm=> ?_
 exact hm.rr
def T0 (from_:Int) (until_:Int):Option Bool:=
 Option.bind (j5 from_) fun x1=>
 if x1=true then
  Option.bind (j5 until_) fun x4=>
  if x4=true then
   some (decide (from_≤until_))
  else
   some false
 else
  some false
theorem a1r (from_:Int) (until_:Int) (r:Bool) (hm:T0 from_ until_=some r):k9 Tryz.prog 127 [DI from_,DI until_] (fun x=>x=DB r):=by
 refine zn Tryz.func127 rfl ?_
 refine cy hm (n7 from_) fun x1 hm=> ?_
 apply vb hm<;>intro _ hm
 refine cy hm (n7 until_) fun x4 hm=> ?_
 apply vb hm<;>intro _ hm
 exact hm.rr
 exact hm.rr
 exact hm.rr
def a1p (s:d0):Option Bool:=
 if(s.Ballot==0)=true then
  if(s.Value==0)=true then
   Option.bind (z6 s.Night) fun x3=>
   if x3=true then
    Option.bind (B8 s.Promised) fun x6=>
    if x6=true then
     some true
    else
     some false
   else
    some false
  else
   Option.bind (l9 s.Ballot 6 s.Promised) fun x9=>
   if x9=true then
    Option.bind (m9 s.Value) fun x12=>
    Option.bind (z6 s.Night) fun x14=>
    if x14=true then
     Option.bind (B8 s.Promised) fun x17=>
     if x17=true then
      some x12
     else
      some false
    else
     some false
   else
    Option.bind (z6 s.Night) fun x20=>
    if x20=true then
     Option.bind (B8 s.Promised) fun x23=>
     if x23=true then
      some false
     else
      some false
    else
     some false
 else
  Option.bind (l9 s.Ballot 6 s.Promised) fun x26=>
  if x26=true then
   Option.bind (m9 s.Value) fun x29=>
   Option.bind (z6 s.Night) fun x31=>
   if x31=true then
    Option.bind (B8 s.Promised) fun x34=>
    if x34=true then
     some x29
    else
     some false
   else
    some false
  else
   Option.bind (z6 s.Night) fun x37=>
   if x37=true then
    Option.bind (B8 s.Promised) fun x40=>
    if x40=true then
     some false
    else
     some false
   else
    some false
theorem b0x (s:d0) (r:Bool) (hm:a1p s=some r):k9 Tryz.prog 130 [.agg (d0.c s)] (fun x=>x=DB r):=by
 refine zn Tryz.func130 rfl ?_
 apply vb hm<;>intro _ hm
 apply vb hm<;>intro _ hm
 refine cy hm (B3 s.Night) fun x3 hm=> ?_
 apply vb hm<;>intro _ hm
 refine cy hm (I6 s.Promised) fun x6 hm=> ?_
 apply vb hm<;>intro _ hm
 exact hm.rr
 exact hm.rr
 exact hm.rr
 refine cy hm (o7 s.Ballot 6 s.Promised) fun x9 hm=> ?_
 apply vb hm<;>intro _ hm
 refine cy hm (q0 s.Value) fun x12 hm=> ?_
 refine cy hm (B3 s.Night) fun x14 hm=> ?_
 apply vb hm<;>intro _ hm
 refine cy hm (I6 s.Promised) fun x17 hm=> ?_
 apply vb hm<;>intro _ hm
 exact hm.rr
 exact hm.rr
 exact hm.rr
 refine cy hm (B3 s.Night) fun x20 hm=> ?_
 apply vb hm<;>intro _ hm
 refine cy hm (I6 s.Promised) fun x23 hm=> ?_
 apply vb hm<;>intro _ hm
 exact hm.rr
 exact hm.rr
 exact hm.rr
 refine cy hm (o7 s.Ballot 6 s.Promised) fun x26 hm=> ?_
 apply vb hm<;>intro _ hm
 refine cy hm (q0 s.Value) fun x29 hm=> ?_
 refine cy hm (B3 s.Night) fun x31 hm=> ?_
 apply vb hm<;>intro _ hm
 refine cy hm (I6 s.Promised) fun x34 hm=> ?_
 apply vb hm<;>intro _ hm
 exact hm.rr
 exact hm.rr
 exact hm.rr
 refine cy hm (B3 s.Night) fun x37 hm=> ?_
 apply vb hm<;>intro _ hm
 refine cy hm (I6 s.Promised) fun x40 hm=> ?_
 apply vb hm<;>intro _ hm
 exact hm.rr
 exact hm.rr
 exact hm.rr
def H4 (a:d0) (b_:d0):Option Int:=
 Option.bind (I2 a.Night b_.Night) fun x1=>
 some x1
theorem a0r (a:d0) (b_:d0) (r:Int) (hm:H4 a b_=some r):k9 Tryz.prog 136 [.agg (d0.c a), .agg (d0.c b_)] (fun x=>x=DI r):=by
 refine zn Tryz.func136 rfl ?_
 refine cy hm (P6 a.Night b_.Night) fun x1 hm=> ?_
 exact hm.rr
def H5 (a:c9) (b_:c9):Option Int:=
 Option.bind (I2 a.Ballot b_.Ballot) fun x1=>
 Option.bind (I2 a.Night b_.Night) fun x3=>
 Option.bind (a2i ([x1,x3]:List Int)) fun x5=>
 some x5
theorem a0u (a:c9) (b_:c9) (r:Int) (hm:H5 a b_=some r):k9 Tryz.prog 139 [.agg (c9.c a), .agg (c9.c b_)] (fun x=>x=DI r):=by
 refine zy c5v [] [] [] Tryz.func139 rfl ?_
 refine⟨rfl, ?_⟩
 refine cy hm (P6 a.Ballot b_.Ballot) fun x1 hm=> ?_
 refine cy hm (P6 a.Night b_.Night) fun x3 hm=> ?_
 refine⟨([x1,x3]:List Int).flatMap cI,([x1,x3]:List Int).length,⟨rfl,rfl⟩, ?_⟩
 refine co hm (a8P (([x1,x3]:List Int))) fun x5 hm=> ?_
 exact hm.rr
def a1e (a:c0) (b_:c0):Option Bool:=
 some (decide ((if b_.From>a.From then b_.From else a.From)<(if b_.Until<a.Until then b_.Until else a.Until)))
theorem a7t (a:c0) (b_:c0) (r:Bool) (hm:a1e a b_=some r):k9 Tryz.prog 145 [.agg (c0.c a), .agg (c0.c b_)] (fun x=>x=DB r):=by
 refine zn Tryz.func145 rfl ?_
 exact hm.rr
def I8 (x:d0):Option Bool:=
 Option.bind (a1p x) fun x1=>
 some (!x1)
theorem a0y (x:d0) (r:Bool) (hm:I8 x=some r):k9 Tryz.prog 172 [.agg (d0.c x), .ptr [.fn 130 [] []] 0] (fun x=>x=DB r):=by
 refine zn Tryz.func172 rfl ?_
 refine cy hm (b0x x) fun x1 hm=> ?_
 exact hm.rr
def u9 (s:(List d0)):Int→Option (Sum Int (Sum Int Int)):=fun v7=>
 if(decide (v7<(s.length:Int)))=true then
  Option.bind (idx s v7) fun e15=>
  Option.bind (I8 e15) fun x17=>
  if x17=true then
   some (.inr (.inr v7))
  else
   some (.inl (W (v7+1)))
 else
  some (.inr (.inl v7))
def y9 (s:(List d0)):Option Int:=
 Option.bind (A5 (u9 s) 0) fun e=>
 match e with
 | .inl v20=>
  some (-1)
 | .inr rr21=>
  some rr21
theorem I5 (s:(List d0)) (r:Int) (hm:y9 s=some r):k9 Tryz.prog 205 [lD 4 s d0.c, .fn 172 [] [.ptr [.fn 130 [] []] 0]] (fun x=>x=DI r):=by
 refine zn Tryz.func205 rfl ?_
 obtain⟨ev22,he,hk23⟩:=b8 hm
 refine D5.ofL (u9 s) (fun v7=>⟨[(0,lD 4 s d0.c),(1, .fn 172 [] [.ptr [.fn 130 [] []] 0]),(4,DI 0),(7,DI (s.length:Int)),(8,DI v7)], [],0⟩) 0 (i6.of 0 rfl (tA rfl) trivial) he ?_
 rintro fu24 v7 b hm hi25
 apply vb hm<;>intro _ hm
 obtain⟨e27,hx28,hm⟩:=b8 hm
 refine⟨_,u4 (fun _=>rfl) hx28, ?_⟩
 refine cy hm (a0y e27) fun x29 hm=> ?_
 apply vb hm<;>intro _ hm
 cases hm
 cases hi25
 have hm:=hk23
 exact hm.rr
 cases hm
 exact⟨(_,(W (v7+1))),i6.of 0 rfl (tA rfl) trivial,hi25,Nat.lt_succ_self _⟩
 cases hm
 cases hi25
 have hm:=hk23
 exact hm.rr
def u7 (s:(List d0)):Option Bool:=
 Option.bind (y9 s) fun x1=>
 some (decide (x1≥0))
theorem G5 (s:(List d0)) (r:Bool) (hm:u7 s=some r):k9 Tryz.prog 171 [lD 4 s d0.c, .fn 172 [] [.ptr [.fn 130 [] []] 0]] (fun x=>x=DB r):=by
 refine zn Tryz.func171 rfl ?_
 refine cy hm (I5 s) fun x1 hm=> ?_
 exact hm.rr
def J9 (l:(List d0)) (most:Int):Option Bool:=
 if(decide ((l.length:Int)≤most))=true then
  Option.bind (u7 l) fun x2=>
  some (!x2)
 else
  some false
theorem a0Q (l:(List d0)) (most:Int) (r:Bool) (hm:J9 l most=some r):k9 Tryz.prog 129 [lD 4 l d0.c,DI most, .fn 130 [] []] (fun x=>x=DB r):=by
 refine zn Tryz.func129 rfl ?_
 apply vb hm<;>intro _ hm
 refine co hm (G5 l) fun x2 hm=> ?_
 exact hm.rr
 exact hm.rr
def Z7 (b_:i0) (c_0:c8) (c_1:Int):Option Bool:=
 Option.bind (z6 b_.Night) fun x1=>
 if x1=true then
  Option.bind (l9 b_.Ballot 6 (W ((W (6*c_0.Round))+c_1))) fun x4=>
  if x4=true then
   Option.bind (j4 b_.Ballot) fun x7=>
   if(x7==c_1)=true then
    Option.bind (m9 b_.Value) fun x10=>
    if x10=true then
     Option.bind (l9 b_.Best 0 (W (b_.Ballot-1))) fun x13=>
     if x13=true then
      Option.bind (W8 b_.Mask) fun x16=>
      if x16=true then
       Option.bind (L3 b_.Mask) fun x19=>
       some (b_.Asked==x19)
      else
       some false
     else
      some false
    else
     some false
   else
    some false
  else
   some false
 else
  some false
theorem a7N (b_:i0) (c_0:c8) (c_1:Int) (r:Bool) (hm:Z7 b_ c_0 c_1=some r):k9 Tryz.prog 122 [.agg (i0.c b_), .ptr (c8.c c_0) 0, .ptr [DI c_1] 0] (fun x=>x=DB r):=by
 refine zy c5X [] [] [] Tryz.func122 rfl ?_
 refine⟨rfl, ?_⟩
 refine cy hm (B3 b_.Night) fun x1 hm=> ?_
 apply vb hm<;>intro _ hm
 refine cy hm (o7 b_.Ballot 6 (W ((W (6*c_0.Round))+c_1))) fun x4 hm=> ?_
 apply vb hm<;>intro _ hm
 refine cy hm (n6 b_.Ballot) fun x7 hm=> ?_
 apply vb hm<;>intro _ hm
 refine cy hm (q0 b_.Value) fun x10 hm=> ?_
 apply vb hm<;>intro _ hm
 refine cy hm (o7 b_.Best 0 (W (b_.Ballot-1))) fun x13 hm=> ?_
 apply vb hm<;>intro _ hm
 refine cy hm (a3n b_.Mask) fun x16 hm=> ?_
 apply vb hm<;>intro _ hm
 refine cy hm (a0B b_.Mask) fun x19 hm=> ?_
 exact hm.rr
 exact hm.rr
 exact hm.rr
 exact hm.rr
 exact hm.rr
 exact hm.rr
 exact hm.rr
def G4 (x:i0) (c_0:c8) (c_1:Int):Option Bool:=
 Option.bind (Z7 x c_0 c_1) fun x1=>
 some (!x1)
theorem a0l (x:i0) (c_0:c8) (c_1:Int) (r:Bool) (hm:G4 x c_0 c_1=some r):k9 Tryz.prog 173 [.agg (i0.c x), .ptr [.fn 122 [] [.ptr (c8.c c_0) 0, .ptr [DI c_1] 0]] 0] (fun x=>x=DB r):=by
 refine zn Tryz.func173 rfl ?_
 refine cy hm (a7N x c_0 c_1) fun x1 hm=> ?_
 exact hm.rr
def w4 (s:(List i0)) (c1_0:c8) (c1_1:Int):Int→Option (Sum Int (Sum Int Int)):=fun v7=>
 if(decide (v7<(s.length:Int)))=true then
  Option.bind (idx s v7) fun e15=>
  Option.bind (G4 e15 c1_0 c1_1) fun x17=>
  if x17=true then
   some (.inr (.inr v7))
  else
   some (.inl (W (v7+1)))
 else
  some (.inr (.inl v7))
def w9 (s:(List i0)) (c1_0:c8) (c1_1:Int):Option Int:=
 Option.bind (A5 (w4 s c1_0 c1_1) 0) fun e=>
 match e with
 | .inl v20=>
  some (-1)
 | .inr rr21=>
  some rr21
theorem I4 (s:(List i0)) (c1_0:c8) (c1_1:Int) (r:Int) (hm:w9 s c1_0 c1_1=some r):k9 Tryz.prog 178 [lD 6 s i0.c, .fn 173 [] [.ptr [.fn 122 [] [.ptr (c8.c c1_0) 0, .ptr [DI c1_1] 0]] 0]] (fun x=>x=DI r):=by
 refine zn Tryz.func178 rfl ?_
 obtain⟨ev22,he,hk23⟩:=b8 hm
 refine D5.ofL (w4 s c1_0 c1_1) (fun v7=>⟨[(0,lD 6 s i0.c),(1, .fn 173 [] [.ptr [.fn 122 [] [.ptr (c8.c c1_0) 0, .ptr [DI c1_1] 0]] 0]),(4,DI 0),(7,DI (s.length:Int)),(8,DI v7)], [],0⟩) 0 (i6.of 0 rfl (tA rfl) trivial) he ?_
 rintro fu24 v7 b hm hi25
 apply vb hm<;>intro _ hm
 obtain⟨e27,hx28,hm⟩:=b8 hm
 refine⟨_,u4 (fun _=>rfl) hx28, ?_⟩
 refine cy hm (a0l e27 c1_0 c1_1) fun x29 hm=> ?_
 apply vb hm<;>intro _ hm
 cases hm
 cases hi25
 have hm:=hk23
 exact hm.rr
 cases hm
 exact⟨(_,(W (v7+1))),i6.of 0 rfl (tA rfl) trivial,hi25,Nat.lt_succ_self _⟩
 cases hm
 cases hi25
 have hm:=hk23
 exact hm.rr
def u6 (s:(List i0)) (c1_0:c8) (c1_1:Int):Option Bool:=
 Option.bind (w9 s c1_0 c1_1) fun x1=>
 some (decide (x1≥0))
theorem G6 (s:(List i0)) (c1_0:c8) (c1_1:Int) (r:Bool) (hm:u6 s c1_0 c1_1=some r):k9 Tryz.prog 141 [lD 6 s i0.c, .fn 173 [] [.ptr [.fn 122 [] [.ptr (c8.c c1_0) 0, .ptr [DI c1_1] 0]] 0]] (fun x=>x=DB r):=by
 refine zn Tryz.func141 rfl ?_
 refine cy hm (I4 s c1_0 c1_1) fun x1 hm=> ?_
 exact hm.rr
def I7 (l:(List i0)) (most:Int) (c2_0:c8) (c2_1:Int):Option Bool:=
 if(decide ((l.length:Int)≤most))=true then
  Option.bind (u6 l c2_0 c2_1) fun x2=>
  some (!x2)
 else
  some false
theorem a0z (l:(List i0)) (most:Int) (c2_0:c8) (c2_1:Int) (r:Bool) (hm:I7 l most c2_0 c2_1=some r):k9 Tryz.prog 131 [lD 6 l i0.c,DI most, .fn 122 [] [.ptr (c8.c c2_0) 0, .ptr [DI c2_1] 0]] (fun x=>x=DB r):=by
 refine zn Tryz.func131 rfl ?_
 apply vb hm<;>intro _ hm
 refine co hm (G6 l c2_0 c2_1) fun x2 hm=> ?_
 exact hm.rr
 exact hm.rr
def E7 (x:c9):Option Bool:=
 Option.bind (a1v x) fun x1=>
 some (!x1)
theorem Y5 (x:c9) (r:Bool) (hm:E7 x=some r):k9 Tryz.prog 175 [.agg (c9.c x), .ptr [.fn 124 [] []] 0] (fun x=>x=DB r):=by
 refine zn Tryz.func175 rfl ?_
 refine cy hm (a7y x) fun x1 hm=> ?_
 exact hm.rr
def q9 (s:(List c9)):Int→Option (Sum Int (Sum Int Int)):=fun v7=>
 if(decide (v7<(s.length:Int)))=true then
  Option.bind (idx s v7) fun e15=>
  Option.bind (E7 e15) fun x17=>
  if x17=true then
   some (.inr (.inr v7))
  else
   some (.inl (W (v7+1)))
 else
  some (.inr (.inl v7))
def s8 (s:(List c9)):Option Int:=
 Option.bind (A5 (q9 s) 0) fun e=>
 match e with
 | .inl v20=>
  some (-1)
 | .inr rr21=>
  some rr21
theorem E9 (s:(List c9)) (r:Int) (hm:s8 s=some r):k9 Tryz.prog 206 [lD 4 s c9.c, .fn 175 [] [.ptr [.fn 124 [] []] 0]] (fun x=>x=DI r):=by
 refine zn Tryz.func206 rfl ?_
 obtain⟨ev22,he,hk23⟩:=b8 hm
 refine D5.ofL (q9 s) (fun v7=>⟨[(0,lD 4 s c9.c),(1, .fn 175 [] [.ptr [.fn 124 [] []] 0]),(4,DI 0),(7,DI (s.length:Int)),(8,DI v7)], [],0⟩) 0 (i6.of 0 rfl (tA rfl) trivial) he ?_
 rintro fu24 v7 b hm hi25
 apply vb hm<;>intro _ hm
 obtain⟨e27,hx28,hm⟩:=b8 hm
 refine⟨_,u4 (fun _=>rfl) hx28, ?_⟩
 refine cy hm (Y5 e27) fun x29 hm=> ?_
 apply vb hm<;>intro _ hm
 cases hm
 cases hi25
 have hm:=hk23
 exact hm.rr
 cases hm
 exact⟨(_,(W (v7+1))),i6.of 0 rfl (tA rfl) trivial,hi25,Nat.lt_succ_self _⟩
 cases hm
 cases hi25
 have hm:=hk23
 exact hm.rr
def s6 (s:(List c9)):Option Bool:=
 Option.bind (s8 s) fun x1=>
 some (decide (x1≥0))
theorem D9 (s:(List c9)) (r:Bool) (hm:s6 s=some r):k9 Tryz.prog 174 [lD 4 s c9.c, .fn 175 [] [.ptr [.fn 124 [] []] 0]] (fun x=>x=DB r):=by
 refine zn Tryz.func174 rfl ?_
 refine cy hm (E9 s) fun x1 hm=> ?_
 exact hm.rr
def G3 (l:(List c9)) (most:Int):Option Bool:=
 if(decide ((l.length:Int)≤most))=true then
  Option.bind (s6 l) fun x2=>
  some (!x2)
 else
  some false
theorem a0k (l:(List c9)) (most:Int) (r:Bool) (hm:G3 l most=some r):k9 Tryz.prog 132 [lD 4 l c9.c,DI most, .fn 124 [] []] (fun x=>x=DB r):=by
 refine zn Tryz.func132 rfl ?_
 apply vb hm<;>intro _ hm
 refine co hm (D9 l) fun x2 hm=> ?_
 exact hm.rr
 exact hm.rr
def Z5 (l:c0) (c_0:Int):Option Bool:=
 Option.bind (B2 l.Thing) fun x1=>
 if x1=true then
  Option.bind (j4 l.Thing) fun x4=>
  if(x4==c_0)=true then
   Option.bind (A9 l.To) fun x7=>
   if x7=true then
    if(l.To !=c_0)=true then
     Option.bind (T0 l.From l.Until) fun x11=>
     some x11
    else
     some false
   else
    some false
  else
   some false
 else
  some false
theorem a7V (l:c0) (c_0:Int) (r:Bool) (hm:Z5 l c_0=some r):k9 Tryz.prog 126 [.agg (c0.c l), .ptr [DI c_0] 0] (fun x=>x=DB r):=by
 refine zy c4O [] [] [] Tryz.func126 rfl ?_
 refine⟨rfl, ?_⟩
 refine cy hm (G9 l.Thing) fun x1 hm=> ?_
 apply vb hm<;>intro _ hm
 refine cy hm (n6 l.Thing) fun x4 hm=> ?_
 apply vb hm<;>intro _ hm
 refine cy hm (B6 l.To) fun x7 hm=> ?_
 apply vb hm<;>intro _ hm
 apply vb hm<;>intro _ hm
 refine cy hm (a1r l.From l.Until) fun x11 hm=> ?_
 exact hm.rr
 exact hm.rr
 exact hm.rr
 exact hm.rr
 exact hm.rr
def E6 (x:c0) (c_0:Int):Option Bool:=
 Option.bind (Z5 x c_0) fun x1=>
 some (!x1)
theorem Y6 (x:c0) (c_0:Int) (r:Bool) (hm:E6 x c_0=some r):k9 Tryz.prog 176 [.agg (c0.c x), .ptr [.fn 126 [] [.ptr [DI c_0] 0]] 0] (fun x=>x=DB r):=by
 refine zn Tryz.func176 rfl ?_
 refine cy hm (a7V x c_0) fun x1 hm=> ?_
 exact hm.rr
def r6 (s:(List c0)) (c1_0:Int):Int→Option (Sum Int (Sum Int Int)):=fun v7=>
 if(decide (v7<(s.length:Int)))=true then
  Option.bind (idx s v7) fun e15=>
  Option.bind (E6 e15 c1_0) fun x17=>
  if x17=true then
   some (.inr (.inr v7))
  else
   some (.inl (W (v7+1)))
 else
  some (.inr (.inl v7))
def t6 (s:(List c0)) (c1_0:Int):Option Int:=
 Option.bind (A5 (r6 s c1_0) 0) fun e=>
 match e with
 | .inl v20=>
  some (-1)
 | .inr rr21=>
  some rr21
theorem F0 (s:(List c0)) (c1_0:Int) (r:Int) (hm:t6 s c1_0=some r):k9 Tryz.prog 179 [lD 5 s c0.c, .fn 176 [] [.ptr [.fn 126 [] [.ptr [DI c1_0] 0]] 0]] (fun x=>x=DI r):=by
 refine zn Tryz.func179 rfl ?_
 obtain⟨ev22,he,hk23⟩:=b8 hm
 refine D5.ofL (r6 s c1_0) (fun v7=>⟨[(0,lD 5 s c0.c),(1, .fn 176 [] [.ptr [.fn 126 [] [.ptr [DI c1_0] 0]] 0]),(4,DI 0),(7,DI (s.length:Int)),(8,DI v7)], [],0⟩) 0 (i6.of 0 rfl (tA rfl) trivial) he ?_
 rintro fu24 v7 b hm hi25
 apply vb hm<;>intro _ hm
 obtain⟨e27,hx28,hm⟩:=b8 hm
 refine⟨_,u4 (fun _=>rfl) hx28, ?_⟩
 refine cy hm (Y6 e27 c1_0) fun x29 hm=> ?_
 apply vb hm<;>intro _ hm
 cases hm
 cases hi25
 have hm:=hk23
 exact hm.rr
 cases hm
 exact⟨(_,(W (v7+1))),i6.of 0 rfl (tA rfl) trivial,hi25,Nat.lt_succ_self _⟩
 cases hm
 cases hi25
 have hm:=hk23
 exact hm.rr
def s7 (s:(List c0)) (c1_0:Int):Option Bool:=
 Option.bind (t6 s c1_0) fun x1=>
 some (decide (x1≥0))
theorem E1 (s:(List c0)) (c1_0:Int) (r:Bool) (hm:s7 s c1_0=some r):k9 Tryz.prog 143 [lD 5 s c0.c, .fn 176 [] [.ptr [.fn 126 [] [.ptr [DI c1_0] 0]] 0]] (fun x=>x=DB r):=by
 refine zn Tryz.func143 rfl ?_
 refine cy hm (F0 s c1_0) fun x1 hm=> ?_
 exact hm.rr
def G8 (l:(List c0)) (most:Int) (c2_0:Int):Option Bool:=
 if(decide ((l.length:Int)≤most))=true then
  Option.bind (s7 l c2_0) fun x2=>
  some (!x2)
 else
  some false
theorem a0n (l:(List c0)) (most:Int) (c2_0:Int) (r:Bool) (hm:G8 l most c2_0=some r):k9 Tryz.prog 133 [lD 5 l c0.c,DI most, .fn 126 [] [.ptr [DI c2_0] 0]] (fun x=>x=DB r):=by
 refine zn Tryz.func133 rfl ?_
 apply vb hm<;>intro _ hm
 refine co hm (E1 l c2_0) fun x2 hm=> ?_
 exact hm.rr
 exact hm.rr
def Z3 (l:d7) (c_0:Int):Option Bool:=
 Option.bind (A9 l.Owner) fun x1=>
 if x1=true then
  if(l.Owner !=c_0)=true then
   Option.bind (l9 l.No 1 40) fun x5=>
   if x5=true then
    Option.bind (B2 l.Thing) fun x8=>
    if x8=true then
     Option.bind (j4 l.Thing) fun x11=>
     if(x11==l.Owner)=true then
      Option.bind (T0 l.From l.Until) fun x14=>
      some x14
     else
      some false
    else
     some false
   else
    some false
  else
   some false
 else
  some false
theorem a7Y (l:d7) (c_0:Int) (r:Bool) (hm:Z3 l c_0=some r):k9 Tryz.prog 128 [.agg (d7.c l), .ptr [DI c_0] 0] (fun x=>x=DB r):=by
 refine zy c4P [] [] [] Tryz.func128 rfl ?_
 refine⟨rfl, ?_⟩
 refine cy hm (B6 l.Owner) fun x1 hm=> ?_
 apply vb hm<;>intro _ hm
 apply vb hm<;>intro _ hm
 refine cy hm (o7 l.No 1 40) fun x5 hm=> ?_
 apply vb hm<;>intro _ hm
 refine cy hm (G9 l.Thing) fun x8 hm=> ?_
 apply vb hm<;>intro _ hm
 refine cy hm (n6 l.Thing) fun x11 hm=> ?_
 apply vb hm<;>intro _ hm
 refine cy hm (a1r l.From l.Until) fun x14 hm=> ?_
 exact hm.rr
 exact hm.rr
 exact hm.rr
 exact hm.rr
 exact hm.rr
 exact hm.rr
def F3 (x:d7) (c_0:Int):Option Bool:=
 Option.bind (Z3 x c_0) fun x1=>
 some (!x1)
theorem Z6 (x:d7) (c_0:Int) (r:Bool) (hm:F3 x c_0=some r):k9 Tryz.prog 177 [.agg (d7.c x), .ptr [.fn 128 [] [.ptr [DI c_0] 0]] 0] (fun x=>x=DB r):=by
 refine zn Tryz.func177 rfl ?_
 refine cy hm (a7Y x c_0) fun x1 hm=> ?_
 exact hm.rr
def s9 (s:(List d7)) (c1_0:Int):Int→Option (Sum Int (Sum Int Int)):=fun v7=>
 if(decide (v7<(s.length:Int)))=true then
  Option.bind (idx s v7) fun e15=>
  Option.bind (F3 e15 c1_0) fun x17=>
  if x17=true then
   some (.inr (.inr v7))
  else
   some (.inl (W (v7+1)))
 else
  some (.inr (.inl v7))
def u5 (s:(List d7)) (c1_0:Int):Option Int:=
 Option.bind (A5 (s9 s c1_0) 0) fun e=>
 match e with
 | .inl v20=>
  some (-1)
 | .inr rr21=>
  some rr21
theorem G7 (s:(List d7)) (c1_0:Int) (r:Int) (hm:u5 s c1_0=some r):k9 Tryz.prog 190 [lD 6 s d7.c, .fn 177 [] [.ptr [.fn 128 [] [.ptr [DI c1_0] 0]] 0]] (fun x=>x=DI r):=by
 refine zn Tryz.func190 rfl ?_
 obtain⟨ev22,he,hk23⟩:=b8 hm
 refine D5.ofL (s9 s c1_0) (fun v7=>⟨[(0,lD 6 s d7.c),(1, .fn 177 [] [.ptr [.fn 128 [] [.ptr [DI c1_0] 0]] 0]),(4,DI 0),(7,DI (s.length:Int)),(8,DI v7)], [],0⟩) 0 (i6.of 0 rfl (tA rfl) trivial) he ?_
 rintro fu24 v7 b hm hi25
 apply vb hm<;>intro _ hm
 obtain⟨e27,hx28,hm⟩:=b8 hm
 refine⟨_,u4 (fun _=>rfl) hx28, ?_⟩
 refine cy hm (Z6 e27 c1_0) fun x29 hm=> ?_
 apply vb hm<;>intro _ hm
 cases hm
 cases hi25
 have hm:=hk23
 exact hm.rr
 cases hm
 exact⟨(_,(W (v7+1))),i6.of 0 rfl (tA rfl) trivial,hi25,Nat.lt_succ_self _⟩
 cases hm
 cases hi25
 have hm:=hk23
 exact hm.rr
def u0 (s:(List d7)) (c1_0:Int):Option Bool:=
 Option.bind (u5 s c1_0) fun x1=>
 some (decide (x1≥0))
theorem E8 (s:(List d7)) (c1_0:Int) (r:Bool) (hm:u0 s c1_0=some r):k9 Tryz.prog 165 [lD 6 s d7.c, .fn 177 [] [.ptr [.fn 128 [] [.ptr [DI c1_0] 0]] 0]] (fun x=>x=DB r):=by
 refine zn Tryz.func165 rfl ?_
 refine cy hm (G7 s c1_0) fun x1 hm=> ?_
 exact hm.rr
def H6 (l:(List d7)) (most:Int) (c2_0:Int):Option Bool:=
 if(decide ((l.length:Int)≤most))=true then
  Option.bind (u0 l c2_0) fun x2=>
  some (!x2)
 else
  some false
theorem a0w (l:(List d7)) (most:Int) (c2_0:Int) (r:Bool) (hm:H6 l most c2_0=some r):k9 Tryz.prog 134 [lD 6 l d7.c,DI most, .fn 128 [] [.ptr [DI c2_0] 0]] (fun x=>x=DB r):=by
 refine zn Tryz.func134 rfl ?_
 apply vb hm<;>intro _ hm
 refine co hm (E8 l c2_0) fun x2 hm=> ?_
 exact hm.rr
 exact hm.rr
def K3 (l:(List d0)):Int→Option (Sum Int (Sum Int Bool)):=fun i9=>
 if(decide (i9<(l.length:Int)))=true then
  Option.bind (idx l (W (i9-1))) fun e19=>
  Option.bind (idx l i9) fun e21=>
  Option.bind (H4 e19 e21) fun x23=>
  if(decide (x23≥0))=true then
   some (.inr (.inr false))
  else
   some (.inl (W (i9+1)))
 else
  some (.inr (.inl i9))
def D7 (l:(List d0)):Option Bool:=
 Option.bind (A5 (K3 l) 1) fun e=>
 match e with
 | .inl i26=>
  some true
 | .inr rr27=>
  some rr27
theorem X9 (l:(List d0)) (r:Bool) (hm:D7 l=some r):k9 Tryz.prog 135 [lD 4 l d0.c, .fn 136 [] []] (fun x=>x=DB r):=by
 refine zy c4W [] [] [] Tryz.func135 rfl ?_
 obtain⟨ev28,he,hk29⟩:=b8 hm
 refine D5.ofL (K3 l) (fun i9=>⟨[(0,lD 4 l d0.c),(1, .fn 136 [] []),(4,DB false),(5,DI i9)], [],0⟩) 1 (i6.of 0 rfl (tA rfl) trivial) he ?_
 rintro fu30 i9 b hm hi31
 apply vb hm<;>intro _ hm
 refine⟨rfl, ?_⟩
 obtain⟨e33,hx34,hm⟩:=b8 hm
 refine⟨_,u4 (fun _=>rfl) hx34, ?_⟩
 obtain⟨e35,hx36,hm⟩:=b8 hm
 refine⟨_,u4 (fun _=>rfl) hx36, ?_⟩
 refine cy hm (a0r e33 e35) fun x37 hm=> ?_
 apply vb hm<;>intro _ hm
 cases hm
 cases hi31
 have hm:=hk29
 exact hm.rr
 cases hm
 exact⟨(_,(W (i9+1))),i6.of 0 rfl (tA rfl) trivial,hi31,Nat.lt_succ_self _⟩
 cases hm
 cases hi31
 have hm:=hk29
 exact hm.rr
def K9 (l:(List i0)):Int→Option (Sum Int (Sum Int Bool)):=fun i9=>
 if(decide (i9<(l.length:Int)))=true then
  Option.bind (idx l (W (i9-1))) fun e19=>
  Option.bind (idx l i9) fun e21=>
  Option.bind (J2 e19 e21) fun x23=>
  if(decide (x23≥0))=true then
   some (.inr (.inr false))
  else
   some (.inl (W (i9+1)))
 else
  some (.inr (.inl i9))
def F2 (l:(List i0)):Option Bool:=
 Option.bind (A5 (K9 l) 1) fun e=>
 match e with
 | .inl i26=>
  some true
 | .inr rr27=>
  some rr27
theorem Z9 (l:(List i0)) (r:Bool) (hm:F2 l=some r):k9 Tryz.prog 137 [lD 6 l i0.c, .fn 89 [] []] (fun x=>x=DB r):=by
 refine zy c5L [] [] [] Tryz.func137 rfl ?_
 obtain⟨ev28,he,hk29⟩:=b8 hm
 refine D5.ofL (K9 l) (fun i9=>⟨[(0,lD 6 l i0.c),(1, .fn 89 [] []),(4,DB false),(5,DI i9)], [],0⟩) 1 (i6.of 0 rfl (tA rfl) trivial) he ?_
 rintro fu30 i9 b hm hi31
 apply vb hm<;>intro _ hm
 refine⟨rfl, ?_⟩
 obtain⟨e33,hx34,hm⟩:=b8 hm
 refine⟨_,u4 (fun _=>rfl) hx34, ?_⟩
 obtain⟨e35,hx36,hm⟩:=b8 hm
 refine⟨_,u4 (fun _=>rfl) hx36, ?_⟩
 refine cy hm (a0A e33 e35) fun x37 hm=> ?_
 apply vb hm<;>intro _ hm
 cases hm
 cases hi31
 have hm:=hk29
 exact hm.rr
 cases hm
 exact⟨(_,(W (i9+1))),i6.of 0 rfl (tA rfl) trivial,hi31,Nat.lt_succ_self _⟩
 cases hm
 cases hi31
 have hm:=hk29
 exact hm.rr
def K1 (l:(List c9)):Int→Option (Sum Int (Sum Int Bool)):=fun i9=>
 if(decide (i9<(l.length:Int)))=true then
  Option.bind (idx l (W (i9-1))) fun e19=>
  Option.bind (idx l i9) fun e21=>
  Option.bind (H5 e19 e21) fun x23=>
  if(decide (x23≥0))=true then
   some (.inr (.inr false))
  else
   some (.inl (W (i9+1)))
 else
  some (.inr (.inl i9))
def D1 (l:(List c9)):Option Bool:=
 Option.bind (A5 (K1 l) 1) fun e=>
 match e with
 | .inl i26=>
  some true
 | .inr rr27=>
  some rr27
theorem W6 (l:(List c9)) (r:Bool) (hm:D1 l=some r):k9 Tryz.prog 138 [lD 4 l c9.c, .fn 139 [] []] (fun x=>x=DB r):=by
 refine zy c5Z [] [] [] Tryz.func138 rfl ?_
 obtain⟨ev28,he,hk29⟩:=b8 hm
 refine D5.ofL (K1 l) (fun i9=>⟨[(0,lD 4 l c9.c),(1, .fn 139 [] []),(4,DB false),(5,DI i9)], [],0⟩) 1 (i6.of 0 rfl (tA rfl) trivial) he ?_
 rintro fu30 i9 b hm hi31
 apply vb hm<;>intro _ hm
 refine⟨rfl, ?_⟩
 obtain⟨e33,hx34,hm⟩:=b8 hm
 refine⟨_,u4 (fun _=>rfl) hx34, ?_⟩
 obtain⟨e35,hx36,hm⟩:=b8 hm
 refine⟨_,u4 (fun _=>rfl) hx36, ?_⟩
 refine cy hm (a0u e33 e35) fun x37 hm=> ?_
 apply vb hm<;>intro _ hm
 cases hm
 cases hi31
 have hm:=hk29
 exact hm.rr
 cases hm
 exact⟨(_,(W (i9+1))),i6.of 0 rfl (tA rfl) trivial,hi31,Nat.lt_succ_self _⟩
 cases hm
 cases hi31
 have hm:=hk29
 exact hm.rr
def K4 (l:(List d7)):Int→Option (Sum Int (Sum Int Bool)):=fun i9=>
 if(decide (i9<(l.length:Int)))=true then
  Option.bind (idx l (W (i9-1))) fun e19=>
  Option.bind (idx l i9) fun e21=>
  Option.bind (H7 e19 e21) fun x23=>
  if(decide (x23≥0))=true then
   some (.inr (.inr false))
  else
   some (.inl (W (i9+1)))
 else
  some (.inr (.inl i9))
def E0 (l:(List d7)):Option Bool:=
 Option.bind (A5 (K4 l) 1) fun e=>
 match e with
 | .inl i26=>
  some true
 | .inr rr27=>
  some rr27
theorem Y3 (l:(List d7)) (r:Bool) (hm:E0 l=some r):k9 Tryz.prog 140 [lD 6 l d7.c, .fn 95 [] []] (fun x=>x=DB r):=by
 refine zy c4T [] [] [] Tryz.func140 rfl ?_
 obtain⟨ev28,he,hk29⟩:=b8 hm
 refine D5.ofL (K4 l) (fun i9=>⟨[(0,lD 6 l d7.c),(1, .fn 95 [] []),(4,DB false),(5,DI i9)], [],0⟩) 1 (i6.of 0 rfl (tA rfl) trivial) he ?_
 rintro fu30 i9 b hm hi31
 apply vb hm<;>intro _ hm
 refine⟨rfl, ?_⟩
 obtain⟨e33,hx34,hm⟩:=b8 hm
 refine⟨_,u4 (fun _=>rfl) hx34, ?_⟩
 obtain⟨e35,hx36,hm⟩:=b8 hm
 refine⟨_,u4 (fun _=>rfl) hx36, ?_⟩
 refine cy hm (a0v e33 e35) fun x37 hm=> ?_
 apply vb hm<;>intro _ hm
 cases hm
 cases hi31
 have hm:=hk29
 exact hm.rr
 cases hm
 exact⟨(_,(W (i9+1))),i6.of 0 rfl (tA rfl) trivial,hi31,Nat.lt_succ_self _⟩
 cases hm
 cases hi31
 have hm:=hk29
 exact hm.rr
def a1u (c:i0) (c_0:i0):Option Bool:=
 some (c.Ballot==c_0.Ballot)
theorem a7Z (c:i0) (c_0:i0) (r:Bool) (hm:a1u c c_0=some r):k9 Tryz.prog 142 [.agg (i0.c c), .ptr (i0.c c_0) 0] (fun x=>x=DB r):=by
 refine zn Tryz.func142 rfl ?_
 exact hm.rr
def F9 (s:(List i0)) (c1_0:i0):Int→Option (Sum Int (Sum Int Int)):=fun v7=>
 if(decide (v7<(s.length:Int)))=true then
  Option.bind (idx s v7) fun e15=>
  Option.bind (a1u e15 c1_0) fun x17=>
  if x17=true then
   some (.inr (.inr v7))
  else
   some (.inl (W (v7+1)))
 else
  some (.inr (.inl v7))
def I3 (s:(List i0)) (c1_0:i0):Option Int:=
 Option.bind (A5 (F9 s c1_0) 0) fun e=>
 match e with
 | .inl v20=>
  some (-1)
 | .inr rr21=>
  some rr21
theorem Q4 (s:(List i0)) (c1_0:i0) (r:Int) (hm:I3 s c1_0=some r):k9 Tryz.prog 178 [lD 6 s i0.c, .fn 142 [] [.ptr (i0.c c1_0) 0]] (fun x=>x=DI r):=by
 refine zn Tryz.func178 rfl ?_
 obtain⟨ev22,he,hk23⟩:=b8 hm
 refine D5.ofL (F9 s c1_0) (fun v7=>⟨[(0,lD 6 s i0.c),(1, .fn 142 [] [.ptr (i0.c c1_0) 0]),(4,DI 0),(7,DI (s.length:Int)),(8,DI v7)], [],0⟩) 0 (i6.of 0 rfl (tA rfl) trivial) he ?_
 rintro fu24 v7 b hm hi25
 apply vb hm<;>intro _ hm
 obtain⟨e27,hx28,hm⟩:=b8 hm
 refine⟨_,u4 (fun _=>rfl) hx28, ?_⟩
 refine cy hm (a7Z e27 c1_0) fun x29 hm=> ?_
 apply vb hm<;>intro _ hm
 cases hm
 cases hi25
 have hm:=hk23
 exact hm.rr
 cases hm
 exact⟨(_,(W (v7+1))),i6.of 0 rfl (tA rfl) trivial,hi25,Nat.lt_succ_self _⟩
 cases hm
 cases hi25
 have hm:=hk23
 exact hm.rr
def F7 (s:(List i0)) (c1_0:i0):Option Bool:=
 Option.bind (I3 s c1_0) fun x1=>
 some (decide (x1≥0))
theorem P2 (s:(List i0)) (c1_0:i0) (r:Bool) (hm:F7 s c1_0=some r):k9 Tryz.prog 141 [lD 6 s i0.c, .fn 142 [] [.ptr (i0.c c1_0) 0]] (fun x=>x=DB r):=by
 refine zn Tryz.func141 rfl ?_
 refine cy hm (Q4 s c1_0) fun x1 hm=> ?_
 exact hm.rr
def a1D (o:c0) (c_0:c0):Option Bool:=
 if(o.Thing==c_0.Thing)=true then
  Option.bind (a1e o c_0) fun x2=>
  some x2
 else
  some false
theorem a7P (o:c0) (c_0:c0) (r:Bool) (hm:a1D o c_0=some r):k9 Tryz.prog 144 [.agg (c0.c o), .ptr (c0.c c_0) 0] (fun x=>x=DB r):=by
 refine zn Tryz.func144 rfl ?_
 apply vb hm<;>intro _ hm
 refine cy hm (a7t o c_0) fun x2 hm=> ?_
 exact hm.rr
 exact hm.rr
def D4 (s:(List c0)) (c1_0:c0):Int→Option (Sum Int (Sum Int Int)):=fun v7=>
 if(decide (v7<(s.length:Int)))=true then
  Option.bind (idx s v7) fun e15=>
  Option.bind (a1D e15 c1_0) fun x17=>
  if x17=true then
   some (.inr (.inr v7))
  else
   some (.inl (W (v7+1)))
 else
  some (.inr (.inl v7))
def F1 (s:(List c0)) (c1_0:c0):Option Int:=
 Option.bind (A5 (D4 s c1_0) 0) fun e=>
 match e with
 | .inl v20=>
  some (-1)
 | .inr rr21=>
  some rr21
theorem O6 (s:(List c0)) (c1_0:c0) (r:Int) (hm:F1 s c1_0=some r):k9 Tryz.prog 179 [lD 5 s c0.c, .fn 144 [] [.ptr (c0.c c1_0) 0]] (fun x=>x=DI r):=by
 refine zn Tryz.func179 rfl ?_
 obtain⟨ev22,he,hk23⟩:=b8 hm
 refine D5.ofL (D4 s c1_0) (fun v7=>⟨[(0,lD 5 s c0.c),(1, .fn 144 [] [.ptr (c0.c c1_0) 0]),(4,DI 0),(7,DI (s.length:Int)),(8,DI v7)], [],0⟩) 0 (i6.of 0 rfl (tA rfl) trivial) he ?_
 rintro fu24 v7 b hm hi25
 apply vb hm<;>intro _ hm
 obtain⟨e27,hx28,hm⟩:=b8 hm
 refine⟨_,u4 (fun _=>rfl) hx28, ?_⟩
 refine cy hm (a7P e27 c1_0) fun x29 hm=> ?_
 apply vb hm<;>intro _ hm
 cases hm
 cases hi25
 have hm:=hk23
 exact hm.rr
 cases hm
 exact⟨(_,(W (v7+1))),i6.of 0 rfl (tA rfl) trivial,hi25,Nat.lt_succ_self _⟩
 cases hm
 cases hi25
 have hm:=hk23
 exact hm.rr
def D2 (s:(List c0)) (c1_0:c0):Option Bool:=
 Option.bind (F1 s c1_0) fun x1=>
 some (decide (x1≥0))
theorem N4 (s:(List c0)) (c1_0:c0) (r:Bool) (hm:D2 s c1_0=some r):k9 Tryz.prog 143 [lD 5 s c0.c, .fn 144 [] [.ptr (c0.c c1_0) 0]] (fun x=>x=DB r):=by
 refine zn Tryz.func143 rfl ?_
 refine cy hm (O6 s c1_0) fun x1 hm=> ?_
 exact hm.rr
def Q3 (s:c8):Int→Option (Sum Int (Sum Int Bool)):=fun v41=>
 if(decide (v41<(s.Bids.length:Int)))=true then
  Option.bind (idx s.Bids v41) fun e50=>
  gd ((0≤v41∧v41≤(s.Bids.length:Int)))<|
  Option.bind (some (sub s.Bids 0 (v41).toNat)) fun sl52=>
  Option.bind (F7 sl52 e50) fun x53=>
  if x53=true then
   some (.inr (.inr false))
  else
   some (.inl (W (v41+1)))
 else
  some (.inr (.inl v41))
def Q2 (s:c8):Int→Option (Sum Int (Sum Int Bool)):=fun v65=>
 if(decide (v65<(s.Leases.length:Int)))=true then
  Option.bind (idx s.Leases v65) fun e75=>
  if(e75.No !=(W (v65+1)))=true then
   some (.inr (.inr false))
  else
   gd ((0≤v65∧v65≤(s.Leases.length:Int)))<|
   Option.bind (some (sub s.Leases 0 (v65).toNat)) fun sl78=>
   Option.bind (D2 sl78 e75) fun x79=>
   if x79=true then
    some (.inr (.inr false))
   else
    some (.inl (W (v65+1)))
 else
  some (.inr (.inl v65))
def R2 (me:Int) (s:c8):Option Bool:=
 Option.bind (A9 me) fun x1=>
 if(!x1)=true then
  some false
 else
  Option.bind (l9 s.Round 0 9999) fun x4=>
  if(!x4)=true then
   some false
  else
   Option.bind (J9 s.Slots 12) fun x7=>
   if(!x7)=true then
    some false
   else
    Option.bind (I7 s.Bids 12 s me) fun x10=>
    if(!x10)=true then
     some false
    else
     Option.bind (G3 s.Heard 60) fun x13=>
     if(!x13)=true then
      some false
     else
      Option.bind (G8 s.Leases 40 me) fun x16=>
      if(!x16)=true then
       some false
      else
       Option.bind (H6 s.Loans 60 me) fun x19=>
       if(!x19)=true then
        some false
       else
        Option.bind (D7 s.Slots) fun x22=>
        if(!x22)=true then
         some false
        else
         Option.bind (F2 s.Bids) fun x25=>
         if(!x25)=true then
          some false
         else
          Option.bind (D1 s.Heard) fun x28=>
          if(!x28)=true then
           some false
          else
           Option.bind (E0 s.Loans) fun x31=>
           if(!x31)=true then
            some false
           else
            Option.bind (A5 (Q3 s) 0) fun e=>
            match e with
            | .inl v56=>
             Option.bind (A5 (Q2 s) 0) fun e=>
             match e with
             | .inl v82=>
              some true
             | .inr rr83=>
              some rr83
            | .inr rr96=>
             some rr96
theorem a2S (me:Int) (s:c8) (r:Bool) (hm:R2 me s=some r):k9 Tryz.prog 73 [DI me, .agg (c8.c s)] (fun x=>x=DB r):=by
 refine zn Tryz.func73 rfl ?_
 refine cy hm (B6 me) fun x1 hm=> ?_
 apply vb hm<;>intro _ hm
 exact hm.rr
 refine cy hm (o7 s.Round 0 9999) fun x4 hm=> ?_
 apply vb hm<;>intro _ hm
 exact hm.rr
 refine cy hm (a0Q s.Slots 12) fun x7 hm=> ?_
 apply vb hm<;>intro _ hm
 exact hm.rr
 refine co hm (a0z s.Bids 12 s me) fun x10 hm=> ?_
 apply vb hm<;>intro _ hm
 exact hm.rr
 refine cy hm (a0k s.Heard 60) fun x13 hm=> ?_
 apply vb hm<;>intro _ hm
 exact hm.rr
 refine co hm (a0n s.Leases 40 me) fun x16 hm=> ?_
 apply vb hm<;>intro _ hm
 exact hm.rr
 refine co hm (a0w s.Loans 60 me) fun x19 hm=> ?_
 apply vb hm<;>intro _ hm
 exact hm.rr
 refine cy hm (X9 s.Slots) fun x22 hm=> ?_
 apply vb hm<;>intro _ hm
 exact hm.rr
 refine cy hm (Z9 s.Bids) fun x25 hm=> ?_
 apply vb hm<;>intro _ hm
 exact hm.rr
 refine cy hm (W6 s.Heard) fun x28 hm=> ?_
 apply vb hm<;>intro _ hm
 exact hm.rr
 refine cy hm (Y3 s.Loans) fun x31 hm=> ?_
 apply vb hm<;>intro _ hm
 exact hm.rr
 obtain⟨ev97,he,hk98⟩:=b8 hm
 refine D5.ofL (Q3 s) (fun v41=>⟨[(0,DI me),(1, .agg (c8.c s)),(2, .own 0 0),(3, .own 1 0),(4,DB false),(5, .fn 122 [] [.own 1 0, .own 0 0]),(6, .fn 124 [] []),(7, .fn 126 [] [.own 0 0]),(8, .fn 128 [] [.own 0 0]),(58,DB (!x19)),(80,DB (!x31)),(82,lD 6 s.Bids i0.c),(83,DI (s.Bids.length:Int)),(84,DI v41)], [(0, .blk [DI me] 3),(1, .blk (c8.c s) 28)],2⟩) 0 (i6.of 2 rfl (tA rfl) ⟨hR rfl,hR rfl,trivial⟩) he ?_
 rintro fu99 v41 b hm hi100
 apply vb hm<;>intro _ hm
 obtain⟨e102,hx103,hm⟩:=b8 hm
 refine⟨_,u4 (fun _=>rfl) hx103, ?_⟩
 obtain⟨hg,hm⟩:=n8 hm
 obtain⟨sl104,hy,hm⟩:=b8 hm
 refine⟨hg,_,(b6n (c:=i0.c) (z:=6) (fun _=>rfl) _ _ _).trans (congrArg _ (Option.some.inj hy)), ?_⟩
 have hl:sl104.length=(v41).toNat-0:=by rw [←Option.some.inj hy];exact b7Y (by omega)
 rw [←hl]
 refine co hm (P2 sl104 e102) fun x105 hm=> ?_
 apply vb hm<;>intro _ hm
 cases hm
 cases hi100
 have hm:=hk98
 exact hm.rr
 cases hm
 exact⟨(_,(W (v41+1))),i6.of 2 rfl (tA rfl) ⟨hR rfl,hR rfl,trivial⟩,hi100,Nat.lt_succ_self _⟩
 cases hm
 cases hi100
 have hm:=hk98
 obtain⟨ev135,he,hk136⟩:=b8 hm
 refine D5.ofL (Q2 s) (fun v116=>⟨[(0,DI me),(1, .agg (c8.c s)),(2, .own 0 0),(3, .own 1 0),(4,DB false),(5, .fn 122 [] [.own 1 0, .own 0 0]),(6, .fn 124 [] []),(7, .fn 126 [] [.own 0 0]),(8, .fn 128 [] [.own 0 0]),(58,DB (!x19)),(80,DB (!x31)),(82,lD 6 s.Bids i0.c),(83,DI (s.Bids.length:Int)),(84,DI v41),(85,DB (decide (v41<(s.Bids.length:Int)))),(97,lD 5 s.Leases c0.c),(98,DI (s.Leases.length:Int)),(99,DI v116)], [(0, .blk [DI me] 3),(1, .blk (c8.c s) 28)],2⟩) 0 (i6.of 2 rfl (tA rfl) ⟨hR rfl,hR rfl,trivial⟩) he ?_
 rintro fu137 v116 b hm hi138
 apply vb hm<;>intro _ hm
 obtain⟨e140,hx141,hm⟩:=b8 hm
 refine⟨_,u4 (fun _=>rfl) hx141, ?_⟩
 apply vb hm<;>intro _ hm
 cases hm
 cases hi138
 have hm:=hk136
 exact hm.rr
 obtain⟨hg,hm⟩:=n8 hm
 obtain⟨sl143,hy,hm⟩:=b8 hm
 refine⟨hg,_,(b6n (c:=c0.c) (z:=5) (fun _=>rfl) _ _ _).trans (congrArg _ (Option.some.inj hy)), ?_⟩
 have hl:sl143.length=(v116).toNat-0:=by rw [←Option.some.inj hy];exact b7Y (by omega)
 rw [←hl]
 refine co hm (N4 sl143 e140) fun x144 hm=> ?_
 apply vb hm<;>intro _ hm
 cases hm
 cases hi138
 have hm:=hk136
 exact hm.rr
 cases hm
 exact⟨(_,(W (v116+1))),i6.of 2 rfl (tA rfl) ⟨hR rfl,hR rfl,trivial⟩,hi138,Nat.lt_succ_self _⟩
 cases hm
 cases hi138
 have hm:=hk136
 exact hm.rr
def a0F (x:a8):Option Int:=
 Option.bind (R2 x.Me x.Now) fun x1=>
 if(!x1)=true then
  some 90
 else
  Option.bind (R2 x.Me x.Safe) fun x4=>
  if(!x4)=true then
   some 90
  else
   some 0
theorem R8 (x:a8) (r:Int) (hm:a0F x=some r):k9 Tryz.prog 27 [.agg (a8.c x)] (fun x=>x=DI r):=by
 refine zn Tryz.func27 rfl ?_
 refine cy hm (a2S x.Me x.Now) fun x1 hm=> ?_
 apply vb hm<;>intro _ hm
 exact hm.rr
 refine cy hm (a2S x.Me x.Safe) fun x4 hm=> ?_
 apply vb hm<;>intro _ hm
 exact hm.rr
 exact hm.rr
def I0 (s:List d0):Option (List d0):=gd (s.length*32≤140737488355328∧s.length≤9223372036854775807) (some s)
theorem a2o (s:List d0) (r:List d0) (hm:I0 s=some r):k9 Tryz.prog 112 [.lst 4 s.length (s.flatMap d0.c)] (fun x=>x= .lst 4 r.length (r.flatMap d0.c)):=by
 obtain⟨hg,hm⟩:=n8 hm
 cases hm
 refine zn Tryz.func112 rfl ?_
 intro b hb
 refine VIf.mk (fun h=> ?_) (fun h=> ?_)
 · have h0:=hb h
   have h1:s= []:=List.eq_nil_of_length_eq_zero h0
   subst h1
   exact j1.le leD.nil
 · refine⟨[],0,⟨rfl,rfl⟩, ?_⟩
   exact⟨by omega,s.flatMap d0.c,s.length,⟨rfl,Nat.zero_add _⟩,j1.le (leD.refl _)⟩
theorem a2f (s:List d0) (r:List d0) (hm:I0 s=some r):b0c Tryz.prog 112 [.lst 4 s.length (s.flatMap d0.c)] 4 r.length (r.flatMap d0.c) 110:=by
 obtain⟨hg,hm⟩:=n8 hm
 cases hm
 refine a8b (X:=⟨Tryz.prog,tt,Tryz.f112.ntmps, [], [], [], [], [], []⟩) pok _ Tryz.func112 rfl rfl (Nat.le_of_ble_eq_true rfl) ?_
 intro b hb
 refine VIf.mk (fun h=> ?_) (fun h=> ?_)
 · have h0:=hb h
   have h1:s= []:=List.eq_nil_of_length_eq_zero h0
   subst h1
   exact⟨rfl,rfl⟩
 · refine⟨[],0,⟨rfl,rfl⟩, ?_⟩
   exact⟨by omega,s.flatMap d0.c,s.length,⟨rfl,Nat.zero_add _⟩,⟨rfl,rfl⟩⟩
def J7 (s:List i0):Option (List i0):=gd (s.length*48≤140737488355328∧s.length≤9223372036854775807) (some s)
theorem a2H (s:List i0) (r:List i0) (hm:J7 s=some r):k9 Tryz.prog 113 [.lst 6 s.length (s.flatMap i0.c)] (fun x=>x= .lst 6 r.length (r.flatMap i0.c)):=by
 obtain⟨hg,hm⟩:=n8 hm
 cases hm
 refine zn Tryz.func113 rfl ?_
 intro b hb
 refine VIf.mk (fun h=> ?_) (fun h=> ?_)
 · have h0:=hb h
   have h1:s= []:=List.eq_nil_of_length_eq_zero h0
   subst h1
   exact j1.le leD.nil
 · refine⟨[],0,⟨rfl,rfl⟩, ?_⟩
   exact⟨by omega,s.flatMap i0.c,s.length,⟨rfl,Nat.zero_add _⟩,j1.le (leD.refl _)⟩
theorem a2O (s:List i0) (r:List i0) (hm:J7 s=some r):b0c Tryz.prog 113 [.lst 6 s.length (s.flatMap i0.c)] 6 r.length (r.flatMap i0.c) 108:=by
 obtain⟨hg,hm⟩:=n8 hm
 cases hm
 refine a8b (X:=⟨Tryz.prog,tt,Tryz.f113.ntmps, [], [], [], [], [], []⟩) pok _ Tryz.func113 rfl rfl (Nat.le_of_ble_eq_true rfl) ?_
 intro b hb
 refine VIf.mk (fun h=> ?_) (fun h=> ?_)
 · have h0:=hb h
   have h1:s= []:=List.eq_nil_of_length_eq_zero h0
   subst h1
   exact⟨rfl,rfl⟩
 · refine⟨[],0,⟨rfl,rfl⟩, ?_⟩
   exact⟨by omega,s.flatMap i0.c,s.length,⟨rfl,Nat.zero_add _⟩,⟨rfl,rfl⟩⟩
def F6 (s:List c9):Option (List c9):=gd (s.length*32≤140737488355328∧s.length≤9223372036854775807) (some s)
theorem a1x (s:List c9) (r:List c9) (hm:F6 s=some r):k9 Tryz.prog 114 [.lst 4 s.length (s.flatMap c9.c)] (fun x=>x= .lst 4 r.length (r.flatMap c9.c)):=by
 obtain⟨hg,hm⟩:=n8 hm
 cases hm
 refine zn Tryz.func114 rfl ?_
 intro b hb
 refine VIf.mk (fun h=> ?_) (fun h=> ?_)
 · have h0:=hb h
   have h1:s= []:=List.eq_nil_of_length_eq_zero h0
   subst h1
   exact j1.le leD.nil
 · refine⟨[],0,⟨rfl,rfl⟩, ?_⟩
   exact⟨by omega,s.flatMap c9.c,s.length,⟨rfl,Nat.zero_add _⟩,j1.le (leD.refl _)⟩
theorem a1y (s:List c9) (r:List c9) (hm:F6 s=some r):b0c Tryz.prog 114 [.lst 4 s.length (s.flatMap c9.c)] 4 r.length (r.flatMap c9.c) 149:=by
 obtain⟨hg,hm⟩:=n8 hm
 cases hm
 refine a8b (X:=⟨Tryz.prog,tt,Tryz.f114.ntmps, [], [], [], [], [], []⟩) pok _ Tryz.func114 rfl rfl (Nat.le_of_ble_eq_true rfl) ?_
 intro b hb
 refine VIf.mk (fun h=> ?_) (fun h=> ?_)
 · have h0:=hb h
   have h1:s= []:=List.eq_nil_of_length_eq_zero h0
   subst h1
   exact⟨rfl,rfl⟩
 · refine⟨[],0,⟨rfl,rfl⟩, ?_⟩
   exact⟨by omega,s.flatMap c9.c,s.length,⟨rfl,Nat.zero_add _⟩,⟨rfl,rfl⟩⟩
def F5 (s:List c0):Option (List c0):=gd (s.length*40≤140737488355328∧s.length≤9223372036854775807) (some s)
theorem a1z (s:List c0) (r:List c0) (hm:F5 s=some r):k9 Tryz.prog 115 [.lst 5 s.length (s.flatMap c0.c)] (fun x=>x= .lst 5 r.length (r.flatMap c0.c)):=by
 obtain⟨hg,hm⟩:=n8 hm
 cases hm
 refine zn Tryz.func115 rfl ?_
 intro b hb
 refine VIf.mk (fun h=> ?_) (fun h=> ?_)
 · have h0:=hb h
   have h1:s= []:=List.eq_nil_of_length_eq_zero h0
   subst h1
   exact j1.le leD.nil
 · refine⟨[],0,⟨rfl,rfl⟩, ?_⟩
   exact⟨by omega,s.flatMap c0.c,s.length,⟨rfl,Nat.zero_add _⟩,j1.le (leD.refl _)⟩
theorem a1F (s:List c0) (r:List c0) (hm:F5 s=some r):b0c Tryz.prog 115 [.lst 5 s.length (s.flatMap c0.c)] 5 r.length (r.flatMap c0.c) 112:=by
 obtain⟨hg,hm⟩:=n8 hm
 cases hm
 refine a8b (X:=⟨Tryz.prog,tt,Tryz.f115.ntmps, [], [], [], [], [], []⟩) pok _ Tryz.func115 rfl rfl (Nat.le_of_ble_eq_true rfl) ?_
 intro b hb
 refine VIf.mk (fun h=> ?_) (fun h=> ?_)
 · have h0:=hb h
   have h1:s= []:=List.eq_nil_of_length_eq_zero h0
   subst h1
   exact⟨rfl,rfl⟩
 · refine⟨[],0,⟨rfl,rfl⟩, ?_⟩
   exact⟨by omega,s.flatMap c0.c,s.length,⟨rfl,Nat.zero_add _⟩,⟨rfl,rfl⟩⟩
def H8 (s:List d7):Option (List d7):=gd (s.length*48≤140737488355328∧s.length≤9223372036854775807) (some s)
theorem a2r (s:List d7) (r:List d7) (hm:H8 s=some r):k9 Tryz.prog 116 [.lst 6 s.length (s.flatMap d7.c)] (fun x=>x= .lst 6 r.length (r.flatMap d7.c)):=by
 obtain⟨hg,hm⟩:=n8 hm
 cases hm
 refine zn Tryz.func116 rfl ?_
 intro b hb
 refine VIf.mk (fun h=> ?_) (fun h=> ?_)
 · have h0:=hb h
   have h1:s= []:=List.eq_nil_of_length_eq_zero h0
   subst h1
   exact j1.le leD.nil
 · refine⟨[],0,⟨rfl,rfl⟩, ?_⟩
   exact⟨by omega,s.flatMap d7.c,s.length,⟨rfl,Nat.zero_add _⟩,j1.le (leD.refl _)⟩
theorem a2k (s:List d7) (r:List d7) (hm:H8 s=some r):b0c Tryz.prog 116 [.lst 6 s.length (s.flatMap d7.c)] 6 r.length (r.flatMap d7.c) 114:=by
 obtain⟨hg,hm⟩:=n8 hm
 cases hm
 refine a8b (X:=⟨Tryz.prog,tt,Tryz.f116.ntmps, [], [], [], [], [], []⟩) pok _ Tryz.func116 rfl rfl (Nat.le_of_ble_eq_true rfl) ?_
 intro b hb
 refine VIf.mk (fun h=> ?_) (fun h=> ?_)
 · have h0:=hb h
   have h1:s= []:=List.eq_nil_of_length_eq_zero h0
   subst h1
   exact⟨rfl,rfl⟩
 · refine⟨[],0,⟨rfl,rfl⟩, ?_⟩
   exact⟨by omega,s.flatMap d7.c,s.length,⟨rfl,Nat.zero_add _⟩,⟨rfl,rfl⟩⟩
def D6 (s:c8):Option c8:=
 Option.bind (I0 s.Slots) fun x1=>
 Option.bind (J7 s.Bids) fun x3=>
 Option.bind (F6 s.Heard) fun x5=>
 Option.bind (F5 s.Leases) fun x7=>
 Option.bind (H8 s.Loans) fun x9=>
 some (⟨s.Round,x1,x3,x5,x7,x9⟩:c8)
theorem M9 (s:c8) (r:c8) (hm:D6 s=some r):k9 Tryz.prog 62 [.agg (c8.c s)] (fun x=>x= .agg (c8.c r)):=by
 refine zy c5j [] [] [] Tryz.func62 rfl ?_
 refine⟨rfl, ?_⟩
 obtain⟨x1,hx2,hm⟩:=b8 hm
 refine a5h.det (a2o s.Slots _ hx2) ?_
 obtain⟨x3,hx4,hm⟩:=b8 hm
 refine a5h.det (a2H s.Bids _ hx4) ?_
 obtain⟨x5,hx6,hm⟩:=b8 hm
 refine a5h.det (a1x s.Heard _ hx6) ?_
 obtain⟨x7,hx8,hm⟩:=b8 hm
 refine a5h.det (a1z s.Leases _ hx8) ?_
 obtain⟨x9,hx10,hm⟩:=b8 hm
 refine a5h.det (a2r s.Loans _ hx10) ?_
 cases hm
 exact j1.le (leD.refl _)
theorem L6 (s:c8) (r:c8) (hm:D6 s=some r):b8p Tryz.prog 62 [.agg (c8.c s)] [(4,r.Slots.length,r.Slots.flatMap d0.c,110),(6,r.Bids.length,r.Bids.flatMap i0.c,108),(4,r.Heard.length,r.Heard.flatMap c9.c,149),(5,r.Leases.length,r.Leases.flatMap c0.c,112),(6,r.Loans.length,r.Loans.flatMap d7.c,114)] [DI r.Round, .row 0 4, .row 1 6, .row 2 4, .row 3 5, .row 4 6]:=by
 refine c2N (X:=⟨Tryz.prog,tt,Tryz.f62.ntmps,c5j, [99,106,149,210,211,220], [112,113,114,115,116], [], [], []⟩) pok _ Tryz.func62 rfl rfl (Nat.le_of_ble_eq_true rfl) rfl ?_
 refine⟨rfl, ?_⟩
 obtain⟨x1,hx2,hm⟩:=b8 hm
 refine .inl (b2H.mk ⟨_,_,_,_,a2f s.Slots _ hx2, ?_⟩)
 obtain⟨x3,hx4,hm⟩:=b8 hm
 refine .inl (b2H.mk ⟨_,_,_,_,a2O s.Bids _ hx4, ?_⟩)
 obtain⟨x5,hx6,hm⟩:=b8 hm
 refine .inl (b2H.mk ⟨_,_,_,_,a1y s.Heard _ hx6, ?_⟩)
 obtain⟨x7,hx8,hm⟩:=b8 hm
 refine .inl (b2H.mk ⟨_,_,_,_,a1F s.Leases _ hx8, ?_⟩)
 obtain⟨x9,hx10,hm⟩:=b8 hm
 refine .inl (b2H.mk ⟨_,_,_,_,a2k s.Loans _ hx10, ?_⟩)
 cases hm
 exact⟨rfl,⟨⟨rfl,rfl⟩,⟨⟨rfl,rfl,rfl,rfl⟩,⟨⟨rfl,rfl,rfl,rfl⟩,⟨⟨rfl,rfl,rfl,rfl⟩,⟨⟨rfl,rfl,rfl,rfl⟩,⟨⟨rfl,rfl,rfl,rfl⟩,rfl⟩⟩⟩⟩⟩⟩⟩
def Q7 (x:a8):Option ((Option l8)×Int):=
 Option.bind (a0F x) fun x1=>
 if(x1 !=0)=true then
  some (none,x1)
 else
  Option.bind (D6 x.Now) fun x4=>
  Option.bind (D6 x.Safe) fun x6=>
  some ((some (⟨(⟨x.Me,x4,x6⟩:a8)⟩:l8)),0)
theorem a2X (x:a8) (r:((Option l8)×Int)) (hm:Q7 x=some r):k9 Tryz.prog 61 [.agg (a8.c x)] (fun x=>x= .tup [c5Q l8.c r.1,DI r.2]):=by
 refine zy b6V [] [] [] Tryz.func61 rfl ?_
 refine cy hm (R8 x) fun x1 hm=> ?_
 apply vb hm<;>intro _ hm
 cases hm
 exact j1.le (leD.refl _)
 refine⟨rfl, ?_⟩
 refine cy hm (M9 x.Now) fun x4 hm=> ?_
 refine cy hm (M9 x.Safe) fun x6 hm=> ?_
 cases hm
 exact j1.le (leD.refl _)
def R0 (x:a8):Option (Sum Int ((List d0)×(List i0)×(List c9)×(List c0)×(List d7)×(List d0)×(List i0)×(List c9)×(List c0)×(List d7)×Int×Int×Int)):=
 Option.bind (a0F x) fun x22=>
 if(x22 !=0)=true then
  some (.inl x22)
 else
  Option.bind (D6 x.Now) fun x25=>
  Option.bind (D6 x.Safe) fun x27=>
  some (.inr (x25.Slots,x25.Bids,x25.Heard,x25.Leases,x25.Loans,x27.Slots,x27.Bids,x27.Heard,x27.Leases,x27.Loans,x.Me,x25.Round,x27.Round))
def a0f (x:a8):Option (Sum Int (Int×Int×(List d0)×(List i0)×(List c9)×(List c0)×(List d7)×Int×(List d0)×(List i0)×(List c9)×(List c0)×(List d7))):=
 Option.bind (a0F x) fun x22=>
 if(x22 !=0)=true then
  some (.inl x22)
 else
  Option.bind (D6 x.Now) fun x25=>
  Option.bind (D6 x.Safe) fun x27=>
  some (.inr (x.Me,x25.Round,x25.Slots,x25.Bids,x25.Heard,x25.Leases,x25.Loans,x27.Round,x27.Slots,x27.Bids,x27.Heard,x27.Leases,x27.Loans))
def S1 (x:a8):Option (a8×Int):=
 Option.bind (a0f x) fun e=>
 match e with
 | .inl x8=>
  if(x8 !=0)=true then
   some ((⟨0,(⟨0, [], [], [], [], []⟩:c8),(⟨0, [], [], [], [], []⟩:c8)⟩:a8),x8)
  else
   none
 | .inr (x9,x10,x11,x12,x13,x14,x15,x16,x17,x18,x19,x20,x21)=>
  Option.bind (D6 (⟨x10,x11,x12,x13,x14,x15⟩:c8)) fun x32=>
  some ((⟨x9,(⟨x10,x11,x12,x13,x14,x15⟩:c8),x32⟩:a8),0)
theorem a3W (x:a8) (r:(a8×Int)) (hm:S1 x=some r):k9 Tryz.prog 12 [.agg (a8.c x)] (fun x=>x= .tup [.agg (a8.c r.1),DI r.2]):=by
 refine zy [] [] [] [61] Tryz.func12 rfl ?_
 obtain⟨ev29,he30,hm⟩:=b8 hm
 refine O7.ofZ pok ⟨[(0, .agg (a8.c x)),(1000000, .agg (a8.c x)),(1000001, .own 0 0),(1000002, .own 1 0),(1000003,DI 0)], [(0, .blk (a8.c x) 30),(1, .blk [DI 0,DI 0,nS,nS,nS,nS,nS,DI 0,nS,nS,nS,nS,nS] 30)],2⟩ (match ev29 with| .inl x8=>(⟨[(0, .agg (a8.c x)),(1, .own 0 0),(2, .own 1 0),(3,DI 0),(8, .tup [.v (.pointer none),DI x8])], [(0, .blk (a8.c x) 30),(1, .blk [DI 0,DI 0,nS,nS,nS,nS,nS,DI 0,nS,nS,nS,nS,nS] 30)],2⟩:Sy)| .inr (x9,x10,x11,x12,x13,x14,x15,x16,x17,x18,x19,x20,x21)=>(⟨[(0, .agg (a8.c x)),(1, .own 0 0),(2, .own 1 0),(3,DI 0),(8, .tup [.own 3 0,DI 0])], [(0, .blk (a8.c x) 30),(1, .blk [DI 0,DI 0,nS,nS,nS,nS,nS,DI 0,nS,nS,nS,nS,nS] 30),(3, .blk [DI x9,DI x10,lD 4 x11 d0.c,lD 6 x12 i0.c,lD 4 x13 c9.c,lD 5 x14 c0.c,lD 6 x15 d7.c,DI x16,lD 4 x17 d0.c,lD 6 x18 i0.c,lD 4 x19 c9.c,lD 5 x20 c0.c,lD 6 x21 d7.c] 102)],4⟩:Sy):Sy) b6V [] [] [61] Tryz.func61 rfl rfl rfl (i6.of 2 rfl (tA rfl) ⟨hR rfl,hR rfl,trivial⟩) (fun sv=> ?_) ?_
 have hm:=he30
 refine cy hm (R8 x) fun x34 hm=> ?_
 apply vb hm<;>intro _ hm
 cases hm
 exact i6.of 2 rfl (tA rfl) ⟨hR rfl,hR rfl,trivial⟩
 refine⟨rfl, ?_⟩
 refine cy hm (M9 x.Now) fun x37 hm=> ?_
 refine cy hm (M9 x.Safe) fun x39 hm=> ?_
 cases hm
 exact i6.of 4 rfl (tA rfl) ⟨hR rfl,hR rfl,hR rfl,trivial⟩
 rcases ev29 with x8|⟨x9,x10,x11,x12,x13,x14,x15,x16,x17,x18,x19,x20,x21⟩
 apply vb hm<;>intro _ hm
 cases hm
 exact j1.le (⟨_,rfl,⟨⟨_,rfl,⟨leD.refl _,leD.refl _,leD.nil,leD.nil,leD.nil,leD.nil,leD.nil,leD.refl _,leD.nil,leD.nil,leD.nil,leD.nil,leD.nil,trivial⟩⟩,leD.refl _,trivial⟩⟩)
 cases hm
 refine cy hm (M9 ((⟨x10,x11,x12,x13,x14,x15⟩:c8))) fun x32 hm=> ?_
 cases hm
 exact j1.le (leD.refl _)
def J8 (n:Int) (m:Int):Option Int:=
 gd (m≠0)<|
 gd (m≠0)<|
 some ((W ((n.tmod m)+m)).tmod m)
theorem P3 (n:Int) (m:Int) (r:Int) (hm:J8 n m=some r):k9 Tryz.prog 40 [DI n,DI m] (fun x=>x=DI r):=by
 refine zn Tryz.func40 rfl ?_
 obtain⟨hg,hm⟩:=n8 hm
 refine⟨hg, ?_⟩
 obtain⟨hg,hm⟩:=n8 hm
 refine⟨hg, ?_⟩
 exact hm.rr
def a5d (depot:Int):Option Int:=
 gd (0≤depot)<|
 some (W (1*(2^(min depot.toNat IntKind.i64.bits))))
theorem b9N (depot:Int) (r:Int) (hm:a5d depot=some r):k9 Tryz.prog 161 [DI depot] (fun x=>x=DI r):=by
 refine zn Tryz.func161 rfl ?_
 obtain⟨hg,hm⟩:=n8 hm
 refine⟨hg, ?_⟩
 exact hm.rr
def a5O (mask:Int):(Int×Int)→Option (Sum (Int×Int) (Int×Int)):=fun(n4,d5)=>
 if(decide (d5<6))=true then
  Option.bind (a5d d5) fun x11=>
  if((W ((BitVec.ofInt IntKind.i64.bits mask&&&BitVec.ofInt IntKind.i64.bits x11).toNat:Int)) !=0)=true then
   some (.inl ((W (n4+1)),(W (d5+1))))
  else
   some (.inl (n4,(W (d5+1))))
 else
  some (.inr (n4,d5))
def a3u (mask:Int):Option Bool:=
 Option.bind (A5 (a5O mask) (0,0)) fun(n14,d15)=>
 some (decide (n14≥4))
theorem c2v (mask:Int) (r:Bool) (hm:a3u mask=some r):k9 Tryz.prog 107 [DI mask] (fun x=>x=DB r):=by
 refine zn Tryz.func107 rfl ?_
 obtain⟨ev16,he,hk17⟩:=b8 hm
 refine D5.ofL (a5O mask) (fun(n4,d5)=>⟨[(0,DI mask),(2,DB false),(3,DI n4),(4,DI d5)], [],0⟩) (0,0) (i6.of 0 rfl (tA rfl) trivial) he ?_
 rintro fu18 ⟨n4,d5⟩ b hm hi19
 apply vb hm<;>intro _ hm
 refine cy hm (b9N d5) fun x21 hm=> ?_
 apply vb hm<;>intro _ hm
 cases hm
 exact⟨(_,((W (n4+1)),(W (d5+1)))),i6.of 0 rfl (tA rfl) trivial,hi19,Nat.lt_succ_self _⟩
 cases hm
 exact⟨(_,(n4,(W (d5+1)))),i6.of 0 rfl (tA rfl) trivial,hi19,Nat.lt_succ_self _⟩
 cases hm
 cases hi19
 have hm:=hk17
 exact hm.rr
def a2V (x:a8):Option (a8×Int):=
 Option.bind (a0f x) fun e=>
 match e with
 | .inl x8=>
  if(x8 !=0)=true then
   some ((⟨0,(⟨0, [], [], [], [], []⟩:c8),(⟨0, [], [], [], [], []⟩:c8)⟩:a8),x8)
  else
   none
 | .inr (x9,x10,x11,x12,x13,x14,x15,x16,x17,x18,x19,x20,x21)=>
  Option.bind (D6 (⟨x16,x17,x18,x19,x20,x21⟩:c8)) fun x32=>
  some ((⟨x9,x32,(⟨x16,x17,x18,x19,x20,x21⟩:c8)⟩:a8),0)
theorem b2K (x:a8) (r:(a8×Int)) (hm:a2V x=some r):k9 Tryz.prog 14 [.agg (a8.c x)] (fun x=>x= .tup [.agg (a8.c r.1),DI r.2]):=by
 refine zy [] [] [] [61] Tryz.func14 rfl ?_
 obtain⟨ev29,he30,hm⟩:=b8 hm
 refine O7.ofZ pok ⟨[(0, .agg (a8.c x)),(1000000, .agg (a8.c x)),(1000001, .own 0 0),(1000002, .own 1 0),(1000003,DI 0)], [(0, .blk (a8.c x) 30),(1, .blk [DI 0,DI 0,nS,nS,nS,nS,nS,DI 0,nS,nS,nS,nS,nS] 30)],2⟩ (match ev29 with| .inl x8=>(⟨[(0, .agg (a8.c x)),(1, .own 0 0),(2, .own 1 0),(3,DI 0),(8, .tup [.v (.pointer none),DI x8])], [(0, .blk (a8.c x) 30),(1, .blk [DI 0,DI 0,nS,nS,nS,nS,nS,DI 0,nS,nS,nS,nS,nS] 30)],2⟩:Sy)| .inr (x9,x10,x11,x12,x13,x14,x15,x16,x17,x18,x19,x20,x21)=>(⟨[(0, .agg (a8.c x)),(1, .own 0 0),(2, .own 1 0),(3,DI 0),(8, .tup [.own 3 0,DI 0])], [(0, .blk (a8.c x) 30),(1, .blk [DI 0,DI 0,nS,nS,nS,nS,nS,DI 0,nS,nS,nS,nS,nS] 30),(3, .blk [DI x9,DI x10,lD 4 x11 d0.c,lD 6 x12 i0.c,lD 4 x13 c9.c,lD 5 x14 c0.c,lD 6 x15 d7.c,DI x16,lD 4 x17 d0.c,lD 6 x18 i0.c,lD 4 x19 c9.c,lD 5 x20 c0.c,lD 6 x21 d7.c] 102)],4⟩:Sy):Sy) b6V [] [] [61] Tryz.func61 rfl rfl rfl (i6.of 2 rfl (tA rfl) ⟨hR rfl,hR rfl,trivial⟩) (fun sv=> ?_) ?_
 have hm:=he30
 refine cy hm (R8 x) fun x34 hm=> ?_
 apply vb hm<;>intro _ hm
 cases hm
 exact i6.of 2 rfl (tA rfl) ⟨hR rfl,hR rfl,trivial⟩
 refine⟨rfl, ?_⟩
 refine cy hm (M9 x.Now) fun x37 hm=> ?_
 refine cy hm (M9 x.Safe) fun x39 hm=> ?_
 cases hm
 exact i6.of 4 rfl (tA rfl) ⟨hR rfl,hR rfl,hR rfl,trivial⟩
 rcases ev29 with x8|⟨x9,x10,x11,x12,x13,x14,x15,x16,x17,x18,x19,x20,x21⟩
 apply vb hm<;>intro _ hm
 cases hm
 exact j1.le (⟨_,rfl,⟨⟨_,rfl,⟨leD.refl _,leD.refl _,leD.nil,leD.nil,leD.nil,leD.nil,leD.nil,leD.refl _,leD.nil,leD.nil,leD.nil,leD.nil,leD.nil,trivial⟩⟩,leD.refl _,trivial⟩⟩)
 cases hm
 refine cy hm (M9 ((⟨x16,x17,x18,x19,x20,x21⟩:c8))) fun x32 hm=> ?_
 cases hm
 exact j1.le (leD.refl _)
def a2d (p:l8) (to_:Int):Option (l8×Int):=
 some (p,to_)
theorem a8e (p:l8) (to_:Int) (r:(l8×Int)) (hm:a2d p to_=some r):k9 Tryz.prog 66 [.ptr (l8.c p) 0,DI to_] (fun x=>x= .fn 119 [] [.ptr [.ptr (l8.c r.1) 0] 0, .ptr [DI r.2] 0]):=by
 refine zn Tryz.func66 rfl ?_
 cases hm
 exact j1.le (leD.refl _)
def j9 (x:b9):List D:= [.agg (b9.c x)]
def L4 (c_0:l8) (c_1:Int):Int→Option (List b9×Sum Int Int):=fun v7=>
 if(decide (v7<(c_0.Station.Safe.Bids.length:Int)))=true then
  Option.bind (idx c_0.Station.Safe.Bids v7) fun e15=>
  if e15.Asked=true then
   emit (⟨3,c_0.Station.Me,c_1,e15.Night,e15.Ballot,0,e15.Value,0,0,0,0⟩:b9)<|
   some ([], .inl (W (v7+1)))
  else
   emit (⟨1,c_0.Station.Me,c_1,e15.Night,e15.Ballot,0,0,0,0,0,0⟩:b9)<|
   some ([], .inl (W (v7+1)))
 else
  some ([], .inr v7)
def L2 (c_0:l8) (c_1:Int):Int→Option (List b9×Sum Int Int):=fun v35=>
 if(decide (v35<(c_0.Station.Safe.Slots.length:Int)))=true then
  Option.bind (idx c_0.Station.Safe.Slots v35) fun e51=>
  Option.bind (j4 e51.Promised) fun x53=>
  if(x53==c_1)=true then
   if(decide (e51.Promised>e51.Ballot))=true then
    emit (⟨2,c_0.Station.Me,c_1,e51.Night,e51.Promised,e51.Ballot,e51.Value,0,0,0,0⟩:b9)<|
    if(e51.Ballot !=0)=true then
     emit (⟨4,c_0.Station.Me,c_1,e51.Night,e51.Ballot,0,e51.Value,0,0,0,0⟩:b9)<|
     some ([], .inl (W (v35+1)))
    else
     some ([], .inl (W (v35+1)))
   else
    if(e51.Ballot !=0)=true then
     emit (⟨4,c_0.Station.Me,c_1,e51.Night,e51.Ballot,0,e51.Value,0,0,0,0⟩:b9)<|
     some ([], .inl (W (v35+1)))
    else
     some ([], .inl (W (v35+1)))
  else
   if(e51.Ballot !=0)=true then
    emit (⟨4,c_0.Station.Me,c_1,e51.Night,e51.Ballot,0,e51.Value,0,0,0,0⟩:b9)<|
    some ([], .inl (W (v35+1)))
   else
    some ([], .inl (W (v35+1)))
 else
  some ([], .inr v35)
def L8 (c_0:l8) (c_1:Int):Int→Option (List b9×Sum Int Int):=fun v70=>
 if(decide (v70<(c_0.Station.Safe.Leases.length:Int)))=true then
  Option.bind (idx c_0.Station.Safe.Leases v70) fun e77=>
  if(e77.To==c_1)=true then
   emit (⟨5,c_0.Station.Me,c_1,0,0,0,0,e77.No,e77.Thing,e77.From,e77.Until⟩:b9)<|
   some ([], .inl (W (v70+1)))
  else
   some ([], .inl (W (v70+1)))
 else
  some ([], .inr v70)
def L7 (c_0:l8) (c_1:Int):Int→Option (List b9×Sum Int Int):=fun v88=>
 if(decide (v88<(c_0.Station.Safe.Loans.length:Int)))=true then
  Option.bind (idx c_0.Station.Safe.Loans v88) fun e96=>
  if(e96.Owner==c_1)=true then
   if e96.Back=true then
    emit (⟨6,c_0.Station.Me,c_1,0,0,0,0,e96.No,e96.Thing,0,e96.Until⟩:b9)<|
    some ([], .inl (W (v88+1)))
   else
    some ([], .inl (W (v88+1)))
  else
   some ([], .inl (W (v88+1)))
 else
  some ([], .inr v88)
def U7 (c_0:l8) (c_1:Int):Option (List b9×Unit):=
 b2m (a5z (L4 c_0 c_1) 0) fun v20=>
 b2m (a5z (L2 c_0 c_1) 0) fun v64=>
 b2m (a5z (L8 c_0 c_1) 0) fun v81=>
 b2m (a5z (L7 c_0 c_1) 0) fun v101=>
 some ([],())
def c4g:List (Nat×PT):= [(3, .of [(0, [],true),(1, [],false),(2, [],false),(3, [],false),(4, [],true),(5, [],true),(6, [],false),(7, [],true),(8, [],false),(9, [],true),(10, [],false),(11, [],false),(12, [],false)]),(5, .of [(0, [],false),(1, [],false),(2, [],false),(3, [1],false),(4, [],false),(5, [],false)]),(11, .of [(0, [],false),(1, [],false),(3, [],false),(2, [3],true),(4, [],false),(5, [],false),(6, [],false),(7, [],false),(8, [],false),(9, [],false),(10, [],false),(11, [],false),(12, [],false),(13, [],false),(14, [],false),(15, [],false),(16, [],false),(17, [],false),(18, [],false),(19, [],false),(20, [],false),(21, [],false),(22, [],false),(23, [],false),(24, [],false),(25, [],false),(26, [],false),(27, [],false),(28, [],false)]),(12, .of [(0, [],false),(1, [],false),(2, [],false),(3, [],false),(4, [],false),(5, [],false),(6, [],false),(7, [],false),(8, [],false),(9, [],false),(10, [],false),(11, [],false),(12, [],false),(13, [],false),(14, [],false),(15, [],false),(16, [],false),(17, [],false)]),(17, .of [(0, [],false),(1, [],false),(2, [],false),(3, [],false),(4, [],false),(5, [],false),(6, [],false),(7, [],false),(8, [],false),(9, [],false),(10, [],false),(11, [],false),(12, [],false),(13, [],false),(14, [],false),(15, [],false),(16, [],false),(17, [],false),(18, [],false),(19, [],false),(20, [],false)]),(22, .of [(0, [],false),(1, [],false),(2, [],false),(3, [],false),(4, [],false),(5, [],false),(6, [],false),(7, [],false),(8, [],false),(9, [],false),(10, [],false),(11, [],false),(12, [],false),(13, [],false),(14, [],false),(15, [],false),(16, [],false),(17, [],false),(18, [],false),(19, [],false),(20, [],false),(21, [],false),(22, [],false)])]
theorem a7d (c_0:l8) (c_1:Int) (xs:List b9) (hm:U7 c_0 c_1=some (xs,())):a7B Tryz.prog 119 [.ptr [.ptr (l8.c c_0) 0] 0, .ptr [DI c_1] 0] (xs.map j9):=by
 refine c0G (X:=⟨Tryz.prog,tt,Tryz.f119.ntmps,c4g, [], [], [], [], []⟩) pok _ _ [(11,29),(12,18),(17,21),(22,23)] Tryz.func119 rfl rfl (Nat.le_of_ble_eq_true rfl) rfl ?_
 intro l
 obtain⟨r,hr⟩:∃r:List b9×Unit,r=(xs,()):=⟨_,rfl⟩
 rw [←hr]at hm
 have hp:Hp3 j9 [] r.1 [] (xs.map j9):=⟨by rw [hr];simp⟩
 clear hr
 obtain⟨ev290,rr294,he,hk291,hb1,hb2⟩:=a5F hm
 replace hp:=hp.in1 hb1
 clear hb1 hb2
 refine a7q.of (fun(lpx:Nat×Int)=>match lpx with|(fu292,v7)=>(⟨[(0, .v (.func (.yield l) #[] #[])),(1, .ptr [.ptr (l8.c c_0) 0] 0),(2, .ptr [DI c_1] 0),(18,lD 6 c_0.Station.Safe.Bids i0.c),(19,DI (c_0.Station.Safe.Bids.length:Int)),(20,DI v7)], [],0⟩:Sy)) (fun lpx q=>∃e,a3h (L4 c_0 c_1) lpx.1 lpx.2=some e∧Hp3 j9 q e.1 _ _∧e.2=ev290.2) (fun lpx=>lpx.1) (a4v,0) ⟨_,he,hp,rfl⟩ (i6.of 0 rfl (tA rfl) trivial) ?_
 clear hp he
 rintro⟨fu292,v7⟩ q ⟨el296,hi293,hp,hx297⟩
 obtain⟨fu292,b,tl,rfl,hm,hb1,hi293⟩:=a5t hi293
 replace hp:=hp.in1 hb1
 clear hb1
 have hq:b.2=b.2:=rfl
 apply vb hm<;>intro _ hm
 obtain⟨e300,hx301,hm⟩:=b8 hm
 refine⟨_,u4 (fun _=>rfl) hx301, ?_⟩
 refine⟨rfl, ?_⟩
 apply vb hm<;>intro _ hm
 refine⟨rfl, ?_⟩
 obtain⟨rb303,hm,hb1,hb2⟩:=a1I hm
 refine a0Z.of (x':=j9 (⟨3,c_0.Station.Me,c_1,e300.Night,e300.Ballot,0,e300.Value,0,0,0,0⟩:b9)) rfl rfl (j1.le (leD.refl _)) (hp.pre hb1) ?_ ?_
 replace hp:=hp.emit hb1
 replace hq:=hq.trans hb2
 cases hm
 rw [hq]at hi293
 obtain⟨e2,hm,rfl,ht⟩:=hi293
 exact⟨(fu292,(W (v7+1))),_,i6.of 0 rfl (tA rfl) trivial,rfl,⟨_,hm,hp.out rfl,ht.symm.trans hx297⟩,Nat.lt_succ_self _⟩
 exact .inl rfl
 obtain⟨rb304,hm,hb1,hb2⟩:=a1I hm
 refine a0Z.of (x':=j9 (⟨1,c_0.Station.Me,c_1,e300.Night,e300.Ballot,0,0,0,0,0,0⟩:b9)) rfl rfl (j1.le (leD.refl _)) (hp.pre hb1) ?_ ?_
 replace hp:=hp.emit hb1
 replace hq:=hq.trans hb2
 cases hm
 rw [hq]at hi293
 obtain⟨e2,hm,rfl,ht⟩:=hi293
 exact⟨(fu292,(W (v7+1))),_,i6.of 0 rfl (tA rfl) trivial,rfl,⟨_,hm,hp.out rfl,ht.symm.trans hx297⟩,Nat.lt_succ_self _⟩
 exact .inl rfl
 cases hm
 rw [hq]at hi293
 obtain⟨rfl,ht⟩:=hi293
 replace hp:=(hp.out (l':= []) rfl).out rfl
 have hm:=hk291
 try rw [←hx297,ht]at hm
 clear hq
 obtain⟨ev450,rr454,he,hk451,hb1,hb2⟩:=a5F hm
 replace hp:=hp.in1 hb1
 clear hb1 hb2
 refine a7q.of (fun(lpx:Nat×Int)=>match lpx with|(fu452,v319)=>(⟨[(0, .v (.func (.yield l) #[] #[])),(1, .ptr [.ptr (l8.c c_0) 0] 0),(2, .ptr [DI c_1] 0),(18,lD 6 c_0.Station.Safe.Bids i0.c),(19,DI (c_0.Station.Safe.Bids.length:Int)),(20,DI v7),(21,DB (decide (v7<(c_0.Station.Safe.Bids.length:Int)))),(51,lD 4 c_0.Station.Safe.Slots d0.c),(52,DI (c_0.Station.Safe.Slots.length:Int)),(53,DI v319)], [],0⟩:Sy)) (fun lpx q=>∃e,a3h (L2 c_0 c_1) lpx.1 lpx.2=some e∧Hp3 j9 q e.1 _ _∧e.2=ev450.2) (fun lpx=>lpx.1) (a4v,0) ⟨_,he,hp,rfl⟩ (i6.of 0 rfl (tA rfl) trivial) ?_
 clear hp he
 rintro⟨fu452,v319⟩ q ⟨el456,hi453,hp,hx457⟩
 obtain⟨fu452,b,tl,rfl,hm,hb1,hi453⟩:=a5t hi453
 replace hp:=hp.in1 hb1
 clear hb1
 have hq:b.2=b.2:=rfl
 apply vb hm<;>intro _ hm
 obtain⟨e460,hx461,hm⟩:=b8 hm
 refine⟨_,u4 (fun _=>rfl) hx461, ?_⟩
 refine⟨rfl,rfl, ?_⟩
 refine cy hm (n6 e460.Promised) fun x462 hm=> ?_
 apply vb hm<;>intro _ hm
 apply vb hm<;>intro _ hm
 obtain⟨rb468,hm,hb1,hb2⟩:=a1I hm
 refine a0Z.fz [0] rfl (a7M.of (x':=j9 (⟨2,c_0.Station.Me,c_1,e460.Night,e460.Promised,e460.Ballot,e460.Value,0,0,0,0⟩:b9)) rfl rfl (j1.le (leD.refl _)) (hp.pre hb1) ?_ ?_)
 replace hp:=hp.emit hb1
 replace hq:=hq.trans hb2
 refine⟨rfl,rfl, ?_⟩
 apply vb hm<;>intro _ hm
 obtain⟨rb467,hm,hb1,hb2⟩:=a1I hm
 refine a0Z.of (x':=j9 (⟨4,c_0.Station.Me,c_1,e460.Night,e460.Ballot,0,e460.Value,0,0,0,0⟩:b9)) rfl rfl (j1.le (leD.refl _)) (hp.pre hb1) ?_ ?_
 replace hp:=hp.emit hb1
 replace hq:=hq.trans hb2
 cases hm
 rw [hq]at hi453
 obtain⟨e2,hm,rfl,ht⟩:=hi453
 exact⟨(fu452,(W (v319+1))),_,i6.of 0 rfl (tA rfl) trivial,rfl,⟨_,hm,hp.out rfl,ht.symm.trans hx457⟩,Nat.lt_succ_self _⟩
 exact .inl rfl
 cases hm
 rw [hq]at hi453
 obtain⟨e2,hm,rfl,ht⟩:=hi453
 exact⟨(fu452,(W (v319+1))),_,i6.of 0 rfl (tA rfl) trivial,rfl,⟨_,hm,hp.out rfl,ht.symm.trans hx457⟩,Nat.lt_succ_self _⟩
 exact .inl rfl
 refine⟨rfl,rfl, ?_⟩
 apply vb hm<;>intro _ hm
 obtain⟨rb470,hm,hb1,hb2⟩:=a1I hm
 refine a0Z.of (x':=j9 (⟨4,c_0.Station.Me,c_1,e460.Night,e460.Ballot,0,e460.Value,0,0,0,0⟩:b9)) rfl rfl (j1.le (leD.refl _)) (hp.pre hb1) ?_ ?_
 replace hp:=hp.emit hb1
 replace hq:=hq.trans hb2
 cases hm
 rw [hq]at hi453
 obtain⟨e2,hm,rfl,ht⟩:=hi453
 exact⟨(fu452,(W (v319+1))),_,i6.of 0 rfl (tA rfl) trivial,rfl,⟨_,hm,hp.out rfl,ht.symm.trans hx457⟩,Nat.lt_succ_self _⟩
 exact .inl rfl
 cases hm
 rw [hq]at hi453
 obtain⟨e2,hm,rfl,ht⟩:=hi453
 exact⟨(fu452,(W (v319+1))),_,i6.of 0 rfl (tA rfl) trivial,rfl,⟨_,hm,hp.out rfl,ht.symm.trans hx457⟩,Nat.lt_succ_self _⟩
 refine⟨rfl,rfl, ?_⟩
 apply vb hm<;>intro _ hm
 obtain⟨rb472,hm,hb1,hb2⟩:=a1I hm
 refine a0Z.of (x':=j9 (⟨4,c_0.Station.Me,c_1,e460.Night,e460.Ballot,0,e460.Value,0,0,0,0⟩:b9)) rfl rfl (j1.le (leD.refl _)) (hp.pre hb1) ?_ ?_
 replace hp:=hp.emit hb1
 replace hq:=hq.trans hb2
 cases hm
 rw [hq]at hi453
 obtain⟨e2,hm,rfl,ht⟩:=hi453
 exact⟨(fu452,(W (v319+1))),_,i6.of 0 rfl (tA rfl) trivial,rfl,⟨_,hm,hp.out rfl,ht.symm.trans hx457⟩,Nat.lt_succ_self _⟩
 exact .inl rfl
 cases hm
 rw [hq]at hi453
 obtain⟨e2,hm,rfl,ht⟩:=hi453
 exact⟨(fu452,(W (v319+1))),_,i6.of 0 rfl (tA rfl) trivial,rfl,⟨_,hm,hp.out rfl,ht.symm.trans hx457⟩,Nat.lt_succ_self _⟩
 cases hm
 rw [hq]at hi453
 obtain⟨rfl,ht⟩:=hi453
 replace hp:=(hp.out (l':= []) rfl).out rfl
 have hm:=hk451
 try rw [←hx457,ht]at hm
 clear hq
 obtain⟨ev525,rr529,he,hk526,hb1,hb2⟩:=a5F hm
 replace hp:=hp.in1 hb1
 clear hb1 hb2
 refine a7q.of (fun(lpx:Nat×Int)=>match lpx with|(fu527,v478)=>(⟨[(0, .v (.func (.yield l) #[] #[])),(1, .ptr [.ptr (l8.c c_0) 0] 0),(2, .ptr [DI c_1] 0),(18,lD 6 c_0.Station.Safe.Bids i0.c),(19,DI (c_0.Station.Safe.Bids.length:Int)),(20,DI v7),(21,DB (decide (v7<(c_0.Station.Safe.Bids.length:Int)))),(51,lD 4 c_0.Station.Safe.Slots d0.c),(52,DI (c_0.Station.Safe.Slots.length:Int)),(53,DI v319),(54,DB (decide (v319<(c_0.Station.Safe.Slots.length:Int)))),(116,lD 5 c_0.Station.Safe.Leases c0.c),(117,DI (c_0.Station.Safe.Leases.length:Int)),(118,DI v478)], [],0⟩:Sy)) (fun lpx q=>∃e,a3h (L8 c_0 c_1) lpx.1 lpx.2=some e∧Hp3 j9 q e.1 _ _∧e.2=ev525.2) (fun lpx=>lpx.1) (a4v,0) ⟨_,he,hp,rfl⟩ (i6.of 0 rfl (tA rfl) trivial) ?_
 clear hp he
 rintro⟨fu527,v478⟩ q ⟨el531,hi528,hp,hx532⟩
 obtain⟨fu527,b,tl,rfl,hm,hb1,hi528⟩:=a5t hi528
 replace hp:=hp.in1 hb1
 clear hb1
 have hq:b.2=b.2:=rfl
 apply vb hm<;>intro _ hm
 obtain⟨e535,hx536,hm⟩:=b8 hm
 refine⟨_,u4 (fun _=>rfl) hx536, ?_⟩
 refine⟨rfl,rfl, ?_⟩
 apply vb hm<;>intro _ hm
 obtain⟨rb538,hm,hb1,hb2⟩:=a1I hm
 refine a0Z.of (x':=j9 (⟨5,c_0.Station.Me,c_1,0,0,0,0,e535.No,e535.Thing,e535.From,e535.Until⟩:b9)) rfl rfl (j1.le (leD.refl _)) (hp.pre hb1) ?_ ?_
 replace hp:=hp.emit hb1
 replace hq:=hq.trans hb2
 cases hm
 rw [hq]at hi528
 obtain⟨e2,hm,rfl,ht⟩:=hi528
 exact⟨(fu527,(W (v478+1))),_,i6.of 0 rfl (tA rfl) trivial,rfl,⟨_,hm,hp.out rfl,ht.symm.trans hx532⟩,Nat.lt_succ_self _⟩
 exact .inl rfl
 cases hm
 rw [hq]at hi528
 obtain⟨e2,hm,rfl,ht⟩:=hi528
 exact⟨(fu527,(W (v478+1))),_,i6.of 0 rfl (tA rfl) trivial,rfl,⟨_,hm,hp.out rfl,ht.symm.trans hx532⟩,Nat.lt_succ_self _⟩
 cases hm
 rw [hq]at hi528
 obtain⟨rfl,ht⟩:=hi528
 replace hp:=(hp.out (l':= []) rfl).out rfl
 have hm:=hk526
 try rw [←hx532,ht]at hm
 clear hq
 obtain⟨ev559,rr563,he,hk560,hb1,hb2⟩:=a5F hm
 replace hp:=hp.in1 hb1
 clear hb1 hb2
 refine a7q.of (fun(lpx:Nat×Int)=>match lpx with|(fu561,v545)=>(⟨[(0, .v (.func (.yield l) #[] #[])),(1, .ptr [.ptr (l8.c c_0) 0] 0),(2, .ptr [DI c_1] 0),(18,lD 6 c_0.Station.Safe.Bids i0.c),(19,DI (c_0.Station.Safe.Bids.length:Int)),(20,DI v7),(21,DB (decide (v7<(c_0.Station.Safe.Bids.length:Int)))),(51,lD 4 c_0.Station.Safe.Slots d0.c),(52,DI (c_0.Station.Safe.Slots.length:Int)),(53,DI v319),(54,DB (decide (v319<(c_0.Station.Safe.Slots.length:Int)))),(116,lD 5 c_0.Station.Safe.Leases c0.c),(117,DI (c_0.Station.Safe.Leases.length:Int)),(118,DI v478),(119,DB (decide (v478<(c_0.Station.Safe.Leases.length:Int)))),(152,lD 6 c_0.Station.Safe.Loans d7.c),(153,DI (c_0.Station.Safe.Loans.length:Int)),(154,DI v545)], [],0⟩:Sy)) (fun lpx q=>∃e,a3h (L7 c_0 c_1) lpx.1 lpx.2=some e∧Hp3 j9 q e.1 _ _∧e.2=ev559.2) (fun lpx=>lpx.1) (a4v,0) ⟨_,he,hp,rfl⟩ (i6.of 0 rfl (tA rfl) trivial) ?_
 clear hp he
 rintro⟨fu561,v545⟩ q ⟨el565,hi562,hp,hx566⟩
 obtain⟨fu561,b,tl,rfl,hm,hb1,hi562⟩:=a5t hi562
 replace hp:=hp.in1 hb1
 clear hb1
 have hq:b.2=b.2:=rfl
 apply vb hm<;>intro _ hm
 obtain⟨e569,hx570,hm⟩:=b8 hm
 refine⟨_,u4 (fun _=>rfl) hx570, ?_⟩
 refine⟨rfl,rfl, ?_⟩
 apply vb hm<;>intro _ hm
 apply vb hm<;>intro _ hm
 obtain⟨rb573,hm,hb1,hb2⟩:=a1I hm
 refine a0Z.of (x':=j9 (⟨6,c_0.Station.Me,c_1,0,0,0,0,e569.No,e569.Thing,0,e569.Until⟩:b9)) rfl rfl (j1.le (leD.refl _)) (hp.pre hb1) ?_ ?_
 replace hp:=hp.emit hb1
 replace hq:=hq.trans hb2
 cases hm
 rw [hq]at hi562
 obtain⟨e2,hm,rfl,ht⟩:=hi562
 exact⟨(fu561,(W (v545+1))),_,i6.of 0 rfl (tA rfl) trivial,rfl,⟨_,hm,hp.out rfl,ht.symm.trans hx566⟩,Nat.lt_succ_self _⟩
 exact .inl rfl
 cases hm
 rw [hq]at hi562
 obtain⟨e2,hm,rfl,ht⟩:=hi562
 exact⟨(fu561,(W (v545+1))),_,i6.of 0 rfl (tA rfl) trivial,rfl,⟨_,hm,hp.out rfl,ht.symm.trans hx566⟩,Nat.lt_succ_self _⟩
 cases hm
 rw [hq]at hi562
 obtain⟨e2,hm,rfl,ht⟩:=hi562
 exact⟨(fu561,(W (v545+1))),_,i6.of 0 rfl (tA rfl) trivial,rfl,⟨_,hm,hp.out rfl,ht.symm.trans hx566⟩,Nat.lt_succ_self _⟩
 cases hm
 rw [hq]at hi562
 obtain⟨rfl,ht⟩:=hi562
 replace hp:=(hp.out (l':= []) rfl).out rfl
 have hm:=hk560
 try rw [←hx566,ht]at hm
 clear hq
 cases hm
 exact .inr (congrArg some (hp.done rfl))
def j2:(List b9)→b9→Option (Sum (List b9) Unit):=fun v2 y1=>
 gd ((v2.length+([y1]:List b9).length)*88≤140737488355328∧v2.length+([y1]:List b9).length≤9223372036854775807)<|
 some (.inl (v2++([y1]:List b9)))
def w6 (c1_0:l8) (c1_1:Int):Option (List b9):=
 Option.bind (U7 c1_0 c1_1) fun l3=>
 Option.bind (Z2 j2 l3.1 []) fun e=>
 match e with
 | .inl v4=>
  some v4
 | .inr _=>none
theorem N0 (c1_0:l8) (c1_1:Int) (r:(List b9)) (hm:w6 c1_0 c1_1=some r):k9 Tryz.prog 118 [nS, .fn 119 [] [.ptr [.ptr (l8.c c1_0) 0] 0, .ptr [DI c1_1] 0]] (fun x=>x=lD 11 r b9.c):=by
 refine c2r (X:=⟨Tryz.prog,tt,Tryz.f118.ntmps, [], [], [], [], [], []⟩) pok _ Tryz.func118 rfl rfl (Nat.le_of_ble_eq_true rfl) ?_
 intro ds
 intro ds
 obtain⟨l3,hl6,hm⟩:=b8 hm
 obtain⟨ev5,he,hm⟩:=b8 hm
 refine a5w.ofZ (E:=Unit) j9 l3.1 j2 (fun(lpx:(List b9))=>match lpx with|v2=>(⟨[(0,nS),(1, .fn 119 [] [.ptr [.ptr (l8.c c1_0) 0] 0, .ptr [DI c1_1] 0]),(2, .own 0 0),(4,nS)], [(0, .blk [.row 1 11] 34),(1,rE 11 v2 b9.c 42)],2⟩:Sy)) (fun(_:Unit)=>(⟨[], [],0⟩:Sy)) (fun _=> .ret) [] ev5 [0,1,2,4] (a7d c1_0 c1_1 l3.1 hl6) he (c1T pok Tryz.func119 rfl) rfl rfl (fun _=>rfl) rfl rfl rfl (by rintro v2;rfl) (by intro _;rfl) (i6.of 1 rfl (tA rfl) ⟨hR rfl,⟨rfl,rfl⟩,trivial⟩) ?_ ?_ (fun _=> .inl rfl) ?_
 rintro v4 rfl
 intro ds
 intro ds
 cases hm
 exact j1.le (leD.refl _)
 rintro _ rfl
 cases hm
 clear he hm
 rintro v2 y1 b hm
 refine⟨([y1]:List b9).flatMap b9.c,([y1]:List b9).length,⟨rfl,rfl⟩, ?_⟩
 obtain⟨hg,hm⟩:=n8 hm
 refine⟨hg,_,_,O9 (c:=b9.c) (l:=(v2:List b9)) (r:=(([y1]:List b9):List b9)), ?_⟩
 cases hm
 exact⟨(v2++([y1]:List b9)),rfl,i6.of 2 rfl (tA rfl) ⟨hR rfl,hW rfl,trivial⟩⟩
def A6 (c0_0:l8) (c0_1:Int):Option (List b9):=
 Option.bind (w6 c0_0 c0_1) fun x1=>
 some x1
theorem Y1 (c0_0:l8) (c0_1:Int) (r:(List b9)) (hm:A6 c0_0 c0_1=some r):k9 Tryz.prog 65 [.fn 119 [] [.ptr [.ptr (l8.c c0_0) 0] 0, .ptr [DI c0_1] 0]] (fun x=>x=lD 11 r b9.c):=by
 refine zn Tryz.func65 rfl ?_
 refine cy hm (N0 c0_0 c0_1) fun x1 hm=> ?_
 cases hm
 exact j1.le (leD.refl _)
def Y2 (x:a8) (to_:Int):Option ((List b9)×Int):=
 Option.bind (Q7 x) fun⟨x1,x2⟩=>
 b2c x1 (
  if(x2 !=0)=true then
   some ([],x2)
  else
   Option.bind (A9 to_) fun x6=>
   if(!x6)=true then
    some ([],1)
   else
    none) fun p4=>
 if(x2 !=0)=true then
  some ([],x2)
 else
  Option.bind (A9 to_) fun x10=>
  if(!x10)=true then
   some ([],1)
  else
   Option.bind (a2d p4 to_) fun⟨x13,x14⟩=>
   Option.bind (A6 x13 x14) fun x16=>
   some (x16,0)
theorem a6L (x:a8) (to_:Int) (r:((List b9)×Int)) (hm:Y2 x to_=some r):k9 Tryz.prog 16 [.agg (a8.c x),DI to_] (fun x=>x= .tup [lD 11 r.1 b9.c,DI r.2]):=by
 refine zn Tryz.func16 rfl ?_
 refine cy hm (a2X x) ?_
 rintro⟨x1,x2⟩ hm
 rcases x1 with _|p4
 replace hm:=a8t hm
 apply vb hm<;>intro _ hm
 cases hm
 exact j1.le (⟨_,rfl,⟨leD.nil,leD.refl _,trivial⟩⟩)
 refine cy hm (B6 to_) fun x6 hm=> ?_
 apply vb hm<;>intro _ hm
 cases hm
 exact j1.le (⟨_,rfl,⟨leD.nil,leD.refl _,trivial⟩⟩)
 cases hm
 replace hm:=a8o hm
 apply vb hm<;>intro _ hm
 cases hm
 exact j1.le (⟨_,rfl,⟨leD.nil,leD.refl _,trivial⟩⟩)
 refine cy hm (B6 to_) fun x10 hm=> ?_
 apply vb hm<;>intro _ hm
 cases hm
 exact j1.le (⟨_,rfl,⟨leD.nil,leD.refl _,trivial⟩⟩)
 refine cy hm (a8e p4 to_) ?_
 rintro⟨x13,x14⟩ hm
 refine cy hm (Y1 x13 x14) fun x16 hm=> ?_
 cases hm
 exact j1.le (leD.refl _)
def a4b (a:(List b9)) (b_:(List b9)):Int→Option (Sum Int (Sum Int Bool)):=fun i8=>
 if(decide (i8<(a.length:Int)))=true then
  Option.bind (idx a i8) fun e16=>
  Option.bind (idx b_ i8) fun e18=>
  if(!((e16.Kind==e18.Kind)&&((e16.From==e18.From)&&((e16.To==e18.To)&&((e16.Night==e18.Night)&&((e16.Ballot==e18.Ballot)&&((e16.Best==e18.Best)&&((e16.Value==e18.Value)&&((e16.No==e18.No)&&((e16.Thing==e18.Thing)&&((e16.Start==e18.Start)&&(e16.Until==e18.Until))))))))))))=true then
   some (.inr (.inr false))
  else
   some (.inl (W (i8+1)))
 else
  some (.inr (.inl i8))
def a1n (a:(List b9)) (b_:(List b9)):Option Bool:=
 if((a.length:Int) !=(b_.length:Int))=true then
  some false
 else
  Option.bind (A5 (a4b a b_) 0) fun e=>
  match e with
  | .inl i21=>
   some true
  | .inr rr22=>
   some rr22
theorem a5M (a:(List b9)) (b_:(List b9)) (r:Bool) (hm:a1n a b_=some r):k9 Tryz.prog 19 [lD 11 a b9.c,lD 11 b_ b9.c] (fun x=>x=DB r):=by
 refine zy c6B [] [] [] Tryz.func19 rfl ?_
 apply vb hm<;>intro _ hm
 exact hm.rr
 obtain⟨ev23,he,hk24⟩:=b8 hm
 refine D5.ofL (a4b a b_) (fun i8=>⟨[(0,lD 11 a b9.c),(1,lD 11 b_ b9.c),(4,DB false),(5,DI i8),(10,DB ((a.length:Int) !=(b_.length:Int)))], [],0⟩) 0 (i6.of 0 rfl (tA rfl) trivial) he ?_
 rintro fu25 i8 b hm hi26
 apply vb hm<;>intro _ hm
 refine⟨rfl, ?_⟩
 obtain⟨e28,hx29,hm⟩:=b8 hm
 refine⟨_,u4 (fun _=>rfl) hx29, ?_⟩
 obtain⟨e30,hx31,hm⟩:=b8 hm
 refine⟨_,u4 (fun _=>rfl) hx31, ?_⟩
 apply vb hm<;>intro _ hm
 cases hm
 cases hi26
 have hm:=hk24
 exact hm.rr
 cases hm
 exact⟨(_,(W (i8+1))),i6.of 0 rfl (tA rfl) trivial,hi26,Nat.lt_succ_self _⟩
 cases hm
 cases hi26
 have hm:=hk24
 exact hm.rr
def a0N (me:Int):Option (a8×Int):=
 Option.bind (A9 me) fun x1=>
 if(!x1)=true then
  some ((⟨0,(⟨0, [], [], [], [], []⟩:c8),(⟨0, [], [], [], [], []⟩:c8)⟩:a8),1)
 else
  some ((⟨me,(⟨0, [], [], [], [], []⟩:c8),(⟨0, [], [], [], [], []⟩:c8)⟩:a8),0)
theorem a3s (me:Int) (r:(a8×Int)) (hm:a0N me=some r):k9 Tryz.prog 21 [DI me] (fun x=>x= .tup [.agg (a8.c r.1),DI r.2]):=by
 refine zn Tryz.func21 rfl ?_
 refine cy hm (B6 me) fun x1 hm=> ?_
 apply vb hm<;>intro _ hm
 cases hm
 exact j1.le (⟨_,rfl,⟨⟨_,rfl,⟨leD.refl _,leD.refl _,leD.nil,leD.nil,leD.nil,leD.nil,leD.nil,leD.refl _,leD.nil,leD.nil,leD.nil,leD.nil,leD.nil,trivial⟩⟩,leD.refl _,trivial⟩⟩)
 cases hm
 exact j1.le (⟨_,rfl,⟨⟨_,rfl,⟨leD.refl _,leD.refl _,leD.nil,leD.nil,leD.nil,leD.nil,leD.nil,leD.refl _,leD.nil,leD.nil,leD.nil,leD.nil,leD.nil,trivial⟩⟩,leD.refl _,trivial⟩⟩)
def a0H (o:c0) (c_0:c0):Option Bool:=
 if(o.Thing==c_0.Thing)=true then
  Option.bind (a1e o c_0) fun x2=>
  some x2
 else
  some false
theorem a6A (o:c0) (c_0:c0) (r:Bool) (hm:a0H o c_0=some r):k9 Tryz.prog 151 [.agg (c0.c o), .ptr (c0.c c_0) 0] (fun x=>x=DB r):=by
 refine zn Tryz.func151 rfl ?_
 apply vb hm<;>intro _ hm
 refine cy hm (a7t o c_0) fun x2 hm=> ?_
 exact hm.rr
 exact hm.rr
def B9 (s:(List c0)) (c1_0:c0):Int→Option (Sum Int (Sum Int Int)):=fun v7=>
 if(decide (v7<(s.length:Int)))=true then
  Option.bind (idx s v7) fun e15=>
  Option.bind (a0H e15 c1_0) fun x17=>
  if x17=true then
   some (.inr (.inr v7))
  else
   some (.inl (W (v7+1)))
 else
  some (.inr (.inl v7))
def E3 (s:(List c0)) (c1_0:c0):Option Int:=
 Option.bind (A5 (B9 s c1_0) 0) fun e=>
 match e with
 | .inl v20=>
  some (-1)
 | .inr rr21=>
  some rr21
theorem N9 (s:(List c0)) (c1_0:c0) (r:Int) (hm:E3 s c1_0=some r):k9 Tryz.prog 179 [lD 5 s c0.c, .fn 151 [] [.ptr (c0.c c1_0) 0]] (fun x=>x=DI r):=by
 refine zn Tryz.func179 rfl ?_
 obtain⟨ev22,he,hk23⟩:=b8 hm
 refine D5.ofL (B9 s c1_0) (fun v7=>⟨[(0,lD 5 s c0.c),(1, .fn 151 [] [.ptr (c0.c c1_0) 0]),(4,DI 0),(7,DI (s.length:Int)),(8,DI v7)], [],0⟩) 0 (i6.of 0 rfl (tA rfl) trivial) he ?_
 rintro fu24 v7 b hm hi25
 apply vb hm<;>intro _ hm
 obtain⟨e27,hx28,hm⟩:=b8 hm
 refine⟨_,u4 (fun _=>rfl) hx28, ?_⟩
 refine cy hm (a6A e27 c1_0) fun x29 hm=> ?_
 apply vb hm<;>intro _ hm
 cases hm
 cases hi25
 have hm:=hk23
 exact hm.rr
 cases hm
 exact⟨(_,(W (v7+1))),i6.of 0 rfl (tA rfl) trivial,hi25,Nat.lt_succ_self _⟩
 cases hm
 cases hi25
 have hm:=hk23
 exact hm.rr
def C4 (s:(List c0)) (c1_0:c0):Option Bool:=
 Option.bind (E3 s c1_0) fun x1=>
 some (decide (x1≥0))
theorem M8 (s:(List c0)) (c1_0:c0) (r:Bool) (hm:C4 s c1_0=some r):k9 Tryz.prog 143 [lD 5 s c0.c, .fn 151 [] [.ptr (c0.c c1_0) 0]] (fun x=>x=DB r):=by
 refine zn Tryz.func143 rfl ?_
 refine cy hm (N9 s c1_0) fun x1 hm=> ?_
 exact hm.rr
def a0d (p:l8) (l:c0):Option Bool:=
 Option.bind (C4 p.Station.Now.Leases l) fun x1=>
 some x1
theorem a3L (p:l8) (l:c0) (r:Bool) (hm:a0d p l=some r):k9 Tryz.prog 92 [.ptr (l8.c p) 0, .agg (c0.c l)] (fun x=>x=DB r):=by
 refine zn Tryz.func92 rfl ?_
 refine co hm (M8 p.Station.Now.Leases l) fun x1 hm=> ?_
 exact hm.rr
def M3 (x:a8) (thing:Int) (to_:Int) (from_:Int) (until_:Int):Option (a8×Int):=
 Option.bind (R0 x) fun e=>
 match e with
 | .inl x8=>
  if(x8 !=0)=true then
   some ((⟨0,(⟨0, [], [], [], [], []⟩:c8),(⟨0, [], [], [], [], []⟩:c8)⟩:a8),x8)
  else
   Option.bind (B2 thing) fun x32=>
   if(!x32)=true then
    some ((⟨0,(⟨0, [], [], [], [], []⟩:c8),(⟨0, [], [], [], [], []⟩:c8)⟩:a8),1)
   else
    Option.bind (A9 to_) fun x35=>
    if(!x35)=true then
     some ((⟨0,(⟨0, [], [], [], [], []⟩:c8),(⟨0, [], [], [], [], []⟩:c8)⟩:a8),1)
    else
     Option.bind (j5 from_) fun x38=>
     if(!x38)=true then
      some ((⟨0,(⟨0, [], [], [], [], []⟩:c8),(⟨0, [], [], [], [], []⟩:c8)⟩:a8),95)
     else
      Option.bind (j5 until_) fun x41=>
      if(!x41)=true then
       some ((⟨0,(⟨0, [], [], [], [], []⟩:c8),(⟨0, [], [], [], [], []⟩:c8)⟩:a8),95)
      else
       none
 | .inr (v9,v10,v11,v12,v13,v14,v15,v16,v17,v18,x19,x20,x21)=>
  Option.bind (B2 thing) fun x44=>
  if(!x44)=true then
   some ((⟨0,(⟨0, [], [], [], [], []⟩:c8),(⟨0, [], [], [], [], []⟩:c8)⟩:a8),1)
  else
   Option.bind (A9 to_) fun x47=>
   if(!x47)=true then
    some ((⟨0,(⟨0, [], [], [], [], []⟩:c8),(⟨0, [], [], [], [], []⟩:c8)⟩:a8),1)
   else
    Option.bind (j5 from_) fun x50=>
    if(!x50)=true then
     some ((⟨0,(⟨0, [], [], [], [], []⟩:c8),(⟨0, [], [], [], [], []⟩:c8)⟩:a8),95)
    else
     Option.bind (j5 until_) fun x53=>
     if(!x53)=true then
      some ((⟨0,(⟨0, [], [], [], [], []⟩:c8),(⟨0, [], [], [], [], []⟩:c8)⟩:a8),95)
     else
      Option.bind (j4 thing) fun x56=>
      if(x56 !=x19)=true then
       some ((⟨0,(⟨0, [], [], [], [], []⟩:c8),(⟨0, [], [], [], [], []⟩:c8)⟩:a8),92)
      else
       if(to_==x19)=true then
        some ((⟨0,(⟨0, [], [], [], [], []⟩:c8),(⟨0, [], [], [], [], []⟩:c8)⟩:a8),1)
       else
        if(decide (from_>until_))=true then
         some ((⟨0,(⟨0, [], [], [], [], []⟩:c8),(⟨0, [], [], [], [], []⟩:c8)⟩:a8),95)
        else
         Option.bind (a0d (⟨(⟨x19,(⟨x20,v9,v10,v11,v12,v13⟩:c8),(⟨x21,v14,v15,v16,v17,v18⟩:c8)⟩:a8)⟩:l8) (⟨(W ((v12.length:Int)+1)),thing,to_,from_,until_⟩:c0)) fun x61=>
         if x61=true then
          some ((⟨0,(⟨0, [], [], [], [], []⟩:c8),(⟨0, [], [], [], [], []⟩:c8)⟩:a8),93)
         else
          if((v12.length:Int)==40)=true then
           some ((⟨0,(⟨0, [], [], [], [], []⟩:c8),(⟨0, [], [], [], [], []⟩:c8)⟩:a8),2)
          else
           gd ((v12.length+([(⟨(W ((v12.length:Int)+1)),thing,to_,from_,until_⟩:c0)]:List c0).length)*40≤140737488355328∧v12.length+([(⟨(W ((v12.length:Int)+1)),thing,to_,from_,until_⟩:c0)]:List c0).length≤9223372036854775807)<|
           some ((⟨x19,(⟨x20,v9,v10,v11,(v12++([(⟨(W ((v12.length:Int)+1)),thing,to_,from_,until_⟩:c0)]:List c0)),v13⟩:c8),(⟨x21,v14,v15,v16,v17,v18⟩:c8)⟩:a8),0)
theorem a1g (x:a8) (thing:Int) (to_:Int) (from_:Int) (until_:Int) (r:(a8×Int)) (hm:M3 x thing to_ from_ until_=some r):k9 Tryz.prog 33 [.agg (a8.c x),DI thing,DI to_,DI from_,DI until_] (fun x=>x= .tup [.agg (a8.c r.1),DI r.2]):=by
 refine zy c6T [99,106,149,210,211,220] [62] [61] Tryz.func33 rfl ?_
 obtain⟨ev29,he30,hm⟩:=b8 hm
 refine O7.ofZ pok ⟨[(0, .agg (a8.c x)),(1000000, .agg (a8.c x)),(1000001,DI thing),(1000002,DI to_),(1000003,DI from_),(1000004,DI until_),(1000005, .own 0 0),(1000010, .own 1 0),(1000011,DI 0)], [(0, .blk (a8.c x) 30),(1, .blk [DI 0,DI 0,nS,nS,nS,nS,nS,DI 0,nS,nS,nS,nS,nS] 30)],2⟩ (match ev29 with| .inl x8=>(⟨[(0, .agg (a8.c x)),(1,DI thing),(2,DI to_),(3,DI from_),(4,DI until_),(5, .own 0 0),(10, .own 1 0),(11,DI 0),(17, .tup [.v (.pointer none),DI x8])], [(0, .blk (a8.c x) 30),(1, .blk [DI 0,DI 0,nS,nS,nS,nS,nS,DI 0,nS,nS,nS,nS,nS] 30)],2⟩:Sy)| .inr (v9,v10,v11,v12,v13,v14,v15,v16,v17,v18,x19,x20,x21)=>(⟨[(0, .agg (a8.c x)),(1,DI thing),(2,DI to_),(3,DI from_),(4,DI until_),(5, .own 0 0),(10, .own 1 0),(11,DI 0),(17, .tup [.own 13 0,DI 0])], [(0, .blk (a8.c x) 30),(1, .blk [DI 0,DI 0,nS,nS,nS,nS,nS,DI 0,nS,nS,nS,nS,nS] 30),(3,rE 4 v9 d0.c 110),(4,rE 6 v10 i0.c 108),(5,rE 4 v11 c9.c 149),(6,rE 5 v12 c0.c 112),(7,rE 6 v13 d7.c 114),(8,rE 4 v14 d0.c 110),(9,rE 6 v15 i0.c 108),(10,rE 4 v16 c9.c 149),(11,rE 5 v17 c0.c 112),(12,rE 6 v18 d7.c 114),(13, .blk [DI x19,DI x20, .row 3 4, .row 4 6, .row 5 4, .row 6 5, .row 7 6,DI x21, .row 8 4, .row 9 6, .row 10 4, .row 11 5, .row 12 6] 102)],14⟩:Sy):Sy) b6V [99,106,149,210,211,220] [62] [61] Tryz.func61 rfl rfl rfl (i6.of 2 rfl (tA rfl) ⟨hR rfl,hR rfl,trivial⟩) (fun sv=> ?_) ?_
 have hm:=he30
 refine cy hm (R8 x) fun x65 hm=> ?_
 apply vb hm<;>intro _ hm
 cases hm
 exact i6.of 2 rfl (tA rfl) ⟨hR rfl,hR rfl,trivial⟩
 refine⟨rfl, ?_⟩
 obtain⟨x68,hx69,hm⟩:=b8 hm
 refine .inr (a7n.mk ⟨_,_,L6 x.Now _ hx69, ?_⟩)
 obtain⟨x70,hx71,hm⟩:=b8 hm
 refine .inr (a7n.mk ⟨_,_,L6 x.Safe _ hx71, ?_⟩)
 cases hm
 exact i6.of 14 rfl (tA rfl) ⟨hR rfl,hR rfl,hW rfl,hW rfl,hW rfl,hW rfl,hW rfl,hW rfl,hW rfl,hW rfl,hW rfl,hW rfl,hR rfl,trivial⟩
 rcases ev29 with x8|⟨v9,v10,v11,v12,v13,v14,v15,v16,v17,v18,x19,x20,x21⟩
 apply vb hm<;>intro _ hm
 cases hm
 exact j1.le (⟨_,rfl,⟨⟨_,rfl,⟨leD.refl _,leD.refl _,leD.nil,leD.nil,leD.nil,leD.nil,leD.nil,leD.refl _,leD.nil,leD.nil,leD.nil,leD.nil,leD.nil,trivial⟩⟩,leD.refl _,trivial⟩⟩)
 refine cy hm (G9 thing) fun x32 hm=> ?_
 apply vb hm<;>intro _ hm
 cases hm
 exact j1.le (⟨_,rfl,⟨⟨_,rfl,⟨leD.refl _,leD.refl _,leD.nil,leD.nil,leD.nil,leD.nil,leD.nil,leD.refl _,leD.nil,leD.nil,leD.nil,leD.nil,leD.nil,trivial⟩⟩,leD.refl _,trivial⟩⟩)
 refine cy hm (B6 to_) fun x35 hm=> ?_
 apply vb hm<;>intro _ hm
 cases hm
 exact j1.le (⟨_,rfl,⟨⟨_,rfl,⟨leD.refl _,leD.refl _,leD.nil,leD.nil,leD.nil,leD.nil,leD.nil,leD.refl _,leD.nil,leD.nil,leD.nil,leD.nil,leD.nil,trivial⟩⟩,leD.refl _,trivial⟩⟩)
 refine cy hm (n7 from_) fun x38 hm=> ?_
 apply vb hm<;>intro _ hm
 cases hm
 exact j1.le (⟨_,rfl,⟨⟨_,rfl,⟨leD.refl _,leD.refl _,leD.nil,leD.nil,leD.nil,leD.nil,leD.nil,leD.refl _,leD.nil,leD.nil,leD.nil,leD.nil,leD.nil,trivial⟩⟩,leD.refl _,trivial⟩⟩)
 refine cy hm (n7 until_) fun x41 hm=> ?_
 apply vb hm<;>intro _ hm
 cases hm
 exact j1.le (⟨_,rfl,⟨⟨_,rfl,⟨leD.refl _,leD.refl _,leD.nil,leD.nil,leD.nil,leD.nil,leD.nil,leD.refl _,leD.nil,leD.nil,leD.nil,leD.nil,leD.nil,trivial⟩⟩,leD.refl _,trivial⟩⟩)
 refine⟨rfl, ?_⟩
 cases hm
 refine cy hm (G9 thing) fun x44 hm=> ?_
 apply vb hm<;>intro _ hm
 cases hm
 exact j1.le (⟨_,rfl,⟨⟨_,rfl,⟨leD.refl _,leD.refl _,leD.nil,leD.nil,leD.nil,leD.nil,leD.nil,leD.refl _,leD.nil,leD.nil,leD.nil,leD.nil,leD.nil,trivial⟩⟩,leD.refl _,trivial⟩⟩)
 refine cy hm (B6 to_) fun x47 hm=> ?_
 apply vb hm<;>intro _ hm
 cases hm
 exact j1.le (⟨_,rfl,⟨⟨_,rfl,⟨leD.refl _,leD.refl _,leD.nil,leD.nil,leD.nil,leD.nil,leD.nil,leD.refl _,leD.nil,leD.nil,leD.nil,leD.nil,leD.nil,trivial⟩⟩,leD.refl _,trivial⟩⟩)
 refine cy hm (n7 from_) fun x50 hm=> ?_
 apply vb hm<;>intro _ hm
 cases hm
 exact j1.le (⟨_,rfl,⟨⟨_,rfl,⟨leD.refl _,leD.refl _,leD.nil,leD.nil,leD.nil,leD.nil,leD.nil,leD.refl _,leD.nil,leD.nil,leD.nil,leD.nil,leD.nil,trivial⟩⟩,leD.refl _,trivial⟩⟩)
 refine cy hm (n7 until_) fun x53 hm=> ?_
 apply vb hm<;>intro _ hm
 cases hm
 exact j1.le (⟨_,rfl,⟨⟨_,rfl,⟨leD.refl _,leD.refl _,leD.nil,leD.nil,leD.nil,leD.nil,leD.nil,leD.refl _,leD.nil,leD.nil,leD.nil,leD.nil,leD.nil,trivial⟩⟩,leD.refl _,trivial⟩⟩)
 refine⟨rfl, ?_⟩
 refine cy hm (n6 thing) fun x56 hm=> ?_
 apply vb hm<;>intro _ hm
 cases hm
 exact j1.le (⟨_,rfl,⟨⟨_,rfl,⟨leD.refl _,leD.refl _,leD.nil,leD.nil,leD.nil,leD.nil,leD.nil,leD.refl _,leD.nil,leD.nil,leD.nil,leD.nil,leD.nil,trivial⟩⟩,leD.refl _,trivial⟩⟩)
 apply vb hm<;>intro _ hm
 cases hm
 exact j1.le (⟨_,rfl,⟨⟨_,rfl,⟨leD.refl _,leD.refl _,leD.nil,leD.nil,leD.nil,leD.nil,leD.nil,leD.refl _,leD.nil,leD.nil,leD.nil,leD.nil,leD.nil,trivial⟩⟩,leD.refl _,trivial⟩⟩)
 apply vb hm<;>intro _ hm
 cases hm
 exact j1.le (⟨_,rfl,⟨⟨_,rfl,⟨leD.refl _,leD.refl _,leD.nil,leD.nil,leD.nil,leD.nil,leD.nil,leD.refl _,leD.nil,leD.nil,leD.nil,leD.nil,leD.nil,trivial⟩⟩,leD.refl _,trivial⟩⟩)
 refine co hm (a3L ((⟨(⟨x19,(⟨x20,v9,v10,v11,v12,v13⟩:c8),(⟨x21,v14,v15,v16,v17,v18⟩:c8)⟩:a8)⟩:l8)) ((⟨(W ((v12.length:Int)+1)),thing,to_,from_,until_⟩:c0))) fun x61 hm=> ?_
 apply vb hm<;>intro _ hm
 cases hm
 exact j1.le (⟨_,rfl,⟨⟨_,rfl,⟨leD.refl _,leD.refl _,leD.nil,leD.nil,leD.nil,leD.nil,leD.nil,leD.refl _,leD.nil,leD.nil,leD.nil,leD.nil,leD.nil,trivial⟩⟩,leD.refl _,trivial⟩⟩)
 apply vb hm<;>intro _ hm
 cases hm
 exact j1.le (⟨_,rfl,⟨⟨_,rfl,⟨leD.refl _,leD.refl _,leD.nil,leD.nil,leD.nil,leD.nil,leD.nil,leD.refl _,leD.nil,leD.nil,leD.nil,leD.nil,leD.nil,trivial⟩⟩,leD.refl _,trivial⟩⟩)
 refine⟨rfl, ?_⟩
 refine⟨([(⟨(W ((v12.length:Int)+1)),thing,to_,from_,until_⟩:c0)]:List c0).flatMap c0.c,([(⟨(W ((v12.length:Int)+1)),thing,to_,from_,until_⟩:c0)]:List c0).length,⟨rfl,rfl⟩, ?_⟩
 obtain⟨hg,hm⟩:=n8 hm
 refine⟨hg,_,_,O9 (c:=c0.c) (l:=(v12:List c0)) (r:=(([(⟨(W ((v12.length:Int)+1)),thing,to_,from_,until_⟩:c0)]:List c0):List c0)), ?_⟩
 cases hm
 exact j1.le (leD.refl _)
def a4x (c:b9):Option (b9×Bool):=
 if(c.Kind==1)=true then
  if(c.Kind==2)=true then
   if(c.Kind !=1)=true then
    some ((⟨c.Kind,c.From,c.To,c.Night,c.Ballot,c.Best,c.Value,0,0,0,0⟩:b9),true)
   else
    some ((⟨c.Kind,c.From,c.To,c.Night,c.Ballot,c.Best,0,0,0,0,0⟩:b9),true)
  else
   if(c.Kind !=1)=true then
    some ((⟨c.Kind,c.From,c.To,c.Night,c.Ballot,0,c.Value,0,0,0,0⟩:b9),true)
   else
    some ((⟨c.Kind,c.From,c.To,c.Night,c.Ballot,0,0,0,0,0,0⟩:b9),true)
 else
  if(c.Kind==2)=true then
   if(c.Kind !=1)=true then
    some ((⟨c.Kind,c.From,c.To,c.Night,c.Ballot,c.Best,c.Value,0,0,0,0⟩:b9),true)
   else
    some ((⟨c.Kind,c.From,c.To,c.Night,c.Ballot,c.Best,0,0,0,0,0⟩:b9),true)
  else
   if(c.Kind==3)=true then
    if(c.Kind !=1)=true then
     some ((⟨c.Kind,c.From,c.To,c.Night,c.Ballot,0,c.Value,0,0,0,0⟩:b9),true)
    else
     some ((⟨c.Kind,c.From,c.To,c.Night,c.Ballot,0,0,0,0,0,0⟩:b9),true)
   else
    if(c.Kind==4)=true then
     if(c.Kind !=1)=true then
      some ((⟨c.Kind,c.From,c.To,c.Night,c.Ballot,0,c.Value,0,0,0,0⟩:b9),true)
     else
      some ((⟨c.Kind,c.From,c.To,c.Night,c.Ballot,0,0,0,0,0,0⟩:b9),true)
    else
     if(c.Kind==5)=true then
      some ((⟨c.Kind,c.From,c.To,0,0,0,0,c.No,c.Thing,c.Start,c.Until⟩:b9),true)
     else
      if(c.Kind==6)=true then
       some ((⟨c.Kind,c.From,c.To,0,0,0,0,c.No,c.Thing,0,c.Until⟩:b9),true)
      else
       some ((⟨c.Kind,c.From,c.To,0,0,0,0,0,0,0,0⟩:b9),false)
theorem b2N (c:b9) (r:(b9×Bool)) (hm:a4x c=some r):k9 Tryz.prog 147 [.agg (b9.c c)] (fun x=>x= .tup [.agg (b9.c r.1),DB r.2]):=by
 refine zy c5A [] [] [] Tryz.func147 rfl ?_
 apply vb hm<;>intro h1 hm
 refine VIf.t h1 ?_
 refine⟨rfl, ?_⟩
 apply vb hm<;>intro _ hm
 apply vb hm<;>intro _ hm
 cases hm
 exact j1.le (leD.refl _)
 cases hm
 exact j1.le (leD.refl _)
 apply vb hm<;>intro _ hm
 cases hm
 exact j1.le (leD.refl _)
 cases hm
 exact j1.le (leD.refl _)
 apply vb hm<;>intro h5 hm
 refine VIf.t h5 ?_
 refine⟨rfl, ?_⟩
 refine VIf.t h5 ?_
 apply vb hm<;>intro _ hm
 cases hm
 exact j1.le (leD.refl _)
 cases hm
 exact j1.le (leD.refl _)
 apply vb hm<;>intro h7 hm
 refine VIf.t h7 ?_
 refine⟨rfl, ?_⟩
 refine VIf.f h5 ?_
 apply vb hm<;>intro _ hm
 cases hm
 exact j1.le (leD.refl _)
 cases hm
 exact j1.le (leD.refl _)
 apply vb hm<;>intro _ hm
 refine⟨rfl, ?_⟩
 refine VIf.f h5 ?_
 apply vb hm<;>intro _ hm
 cases hm
 exact j1.le (leD.refl _)
 cases hm
 exact j1.le (leD.refl _)
 apply vb hm<;>intro _ hm
 refine⟨rfl, ?_⟩
 cases hm
 exact j1.le (leD.refl _)
 apply vb hm<;>intro _ hm
 refine⟨rfl, ?_⟩
 cases hm
 exact j1.le (leD.refl _)
 cases hm
 exact j1.le (leD.refl _)
def a0m (c:b9):Option Bool:=
 Option.bind (a4x c) fun⟨x1,x2⟩=>
 if(!x2)=true then
  some false
 else
  if(!((c.Kind==x1.Kind)&&((c.From==x1.From)&&((c.To==x1.To)&&((c.Night==x1.Night)&&((c.Ballot==x1.Ballot)&&((c.Best==x1.Best)&&((c.Value==x1.Value)&&((c.No==x1.No)&&((c.Thing==x1.Thing)&&((c.Start==x1.Start)&&(c.Until==x1.Until))))))))))))=true then
   some false
  else
   Option.bind (A9 c.From) fun x6=>
   if(!x6)=true then
    some false
   else
    Option.bind (A9 c.To) fun x9=>
    if(!x9)=true then
     some false
    else
     if(c.From !=c.To)=true then
      Option.bind (l9 c.No 1 40) fun x13=>
      if x13=true then
       Option.bind (B2 c.Thing) fun x16=>
       Option.bind (z6 c.Night) fun x18=>
       if x18=true then
        Option.bind (B8 c.Ballot) fun x21=>
        if(c.Kind==1)=true then
         if x21=true then
          Option.bind (j4 c.Ballot) fun x25=>
          some (x25==c.From)
         else
          some false
        else
         if(c.Kind==2)=true then
          if x21=true then
           Option.bind (j4 c.Ballot) fun x29=>
           if(x29==c.To)=true then
            if(c.Best==0)=true then
             if(c.Value==0)=true then
              some true
             else
              Option.bind (l9 c.Best 6 (W (c.Ballot-1))) fun x34=>
              if x34=true then
               Option.bind (m9 c.Value) fun x37=>
               some x37
              else
               some false
            else
             Option.bind (l9 c.Best 6 (W (c.Ballot-1))) fun x39=>
             if x39=true then
              Option.bind (m9 c.Value) fun x42=>
              some x42
             else
              some false
           else
            some false
          else
           some false
         else
          if(c.Kind==3)=true then
           if x21=true then
            Option.bind (j4 c.Ballot) fun x46=>
            if(x46==c.From)=true then
             Option.bind (m9 c.Value) fun x49=>
             some x49
            else
             some false
           else
            some false
          else
           if(c.Kind==4)=true then
            if x21=true then
             Option.bind (m9 c.Value) fun x53=>
             some x53
            else
             some false
           else
            if(c.Kind==5)=true then
             if x16=true then
              Option.bind (j4 c.Thing) fun x57=>
              if(x57==c.From)=true then
               Option.bind (T0 c.Start c.Until) fun x60=>
               some x60
              else
               some false
             else
              some false
            else
             if x16=true then
              Option.bind (j4 c.Thing) fun x63=>
              if(x63==c.To)=true then
               Option.bind (j5 c.Until) fun x66=>
               some x66
              else
               some false
             else
              some false
       else
        if(c.Kind==1)=true then
         some false
        else
         if(c.Kind==2)=true then
          some false
         else
          if(c.Kind==3)=true then
           some false
          else
           if(c.Kind==4)=true then
            some false
           else
            if(c.Kind==5)=true then
             if x16=true then
              Option.bind (j4 c.Thing) fun x74=>
              if(x74==c.From)=true then
               Option.bind (T0 c.Start c.Until) fun x77=>
               some x77
              else
               some false
             else
              some false
            else
             if x16=true then
              Option.bind (j4 c.Thing) fun x80=>
              if(x80==c.To)=true then
               Option.bind (j5 c.Until) fun x83=>
               some x83
              else
               some false
             else
              some false
      else
       Option.bind (z6 c.Night) fun x85=>
       if x85=true then
        Option.bind (B8 c.Ballot) fun x88=>
        if(c.Kind==1)=true then
         if x88=true then
          Option.bind (j4 c.Ballot) fun x92=>
          some (x92==c.From)
         else
          some false
        else
         if(c.Kind==2)=true then
          if x88=true then
           Option.bind (j4 c.Ballot) fun x96=>
           if(x96==c.To)=true then
            if(c.Best==0)=true then
             if(c.Value==0)=true then
              some true
             else
              Option.bind (l9 c.Best 6 (W (c.Ballot-1))) fun x101=>
              if x101=true then
               Option.bind (m9 c.Value) fun x104=>
               some x104
              else
               some false
            else
             Option.bind (l9 c.Best 6 (W (c.Ballot-1))) fun x106=>
             if x106=true then
              Option.bind (m9 c.Value) fun x109=>
              some x109
             else
              some false
           else
            some false
          else
           some false
         else
          if(c.Kind==3)=true then
           if x88=true then
            Option.bind (j4 c.Ballot) fun x113=>
            if(x113==c.From)=true then
             Option.bind (m9 c.Value) fun x116=>
             some x116
            else
             some false
           else
            some false
          else
           if(c.Kind==4)=true then
            if x88=true then
             Option.bind (m9 c.Value) fun x120=>
             some x120
            else
             some false
           else
            if(c.Kind==5)=true then
             some false
            else
             some false
       else
        if(c.Kind==1)=true then
         some false
        else
         if(c.Kind==2)=true then
          some false
         else
          if(c.Kind==3)=true then
           some false
          else
           if(c.Kind==4)=true then
            some false
           else
            if(c.Kind==5)=true then
             some false
            else
             some false
     else
      Option.bind (z6 c.Night) fun x128=>
      if x128=true then
       Option.bind (B8 c.Ballot) fun x131=>
       if(c.Kind==1)=true then
        if x131=true then
         Option.bind (j4 c.Ballot) fun x135=>
         some (x135==c.From)
        else
         some false
       else
        if(c.Kind==2)=true then
         if x131=true then
          Option.bind (j4 c.Ballot) fun x139=>
          if(x139==c.To)=true then
           if(c.Best==0)=true then
            if(c.Value==0)=true then
             some true
            else
             Option.bind (l9 c.Best 6 (W (c.Ballot-1))) fun x144=>
             if x144=true then
              Option.bind (m9 c.Value) fun x147=>
              some x147
             else
              some false
           else
            Option.bind (l9 c.Best 6 (W (c.Ballot-1))) fun x149=>
            if x149=true then
             Option.bind (m9 c.Value) fun x152=>
             some x152
            else
             some false
          else
           some false
         else
          some false
        else
         if(c.Kind==3)=true then
          if x131=true then
           Option.bind (j4 c.Ballot) fun x156=>
           if(x156==c.From)=true then
            Option.bind (m9 c.Value) fun x159=>
            some x159
           else
            some false
          else
           some false
         else
          if(c.Kind==4)=true then
           if x131=true then
            Option.bind (m9 c.Value) fun x163=>
            some x163
           else
            some false
          else
           if(c.Kind==5)=true then
            some false
           else
            some false
      else
       if(c.Kind==1)=true then
        some false
       else
        if(c.Kind==2)=true then
         some false
        else
         if(c.Kind==3)=true then
          some false
         else
          if(c.Kind==4)=true then
           some false
          else
           if(c.Kind==5)=true then
            some false
           else
            some false
theorem a5I (c:b9) (r:Bool) (hm:a0m c=some r):k9 Tryz.prog 80 [.agg (b9.c c)] (fun x=>x=DB r):=by
 refine zy c6u [] [] [] Tryz.func80 rfl ?_
 refine cy hm (b2N c) ?_
 rintro⟨x1,x2⟩ hm
 apply vb hm<;>intro _ hm
 exact hm.rr
 apply vb hm<;>intro _ hm
 exact hm.rr
 refine cy hm (B6 c.From) fun x6 hm=> ?_
 apply vb hm<;>intro _ hm
 exact hm.rr
 refine cy hm (B6 c.To) fun x9 hm=> ?_
 apply vb hm<;>intro _ hm
 exact hm.rr
 apply vb hm<;>intro _ hm
 refine cy hm (o7 c.No 1 40) fun x13 hm=> ?_
 apply vb hm<;>intro _ hm
 refine cy hm (G9 c.Thing) fun x16 hm=> ?_
 refine cy hm (B3 c.Night) fun x18 hm=> ?_
 apply vb hm<;>intro _ hm
 refine cy hm (I6 c.Ballot) fun x21 hm=> ?_
 apply vb hm<;>intro _ hm
 refine⟨rfl, ?_⟩
 apply vb hm<;>intro _ hm
 refine cy hm (n6 c.Ballot) fun x25 hm=> ?_
 exact hm.rr
 exact hm.rr
 apply vb hm<;>intro _ hm
 refine⟨rfl, ?_⟩
 apply vb hm<;>intro _ hm
 refine cy hm (n6 c.Ballot) fun x29 hm=> ?_
 apply vb hm<;>intro _ hm
 apply vb hm<;>intro _ hm
 apply vb hm<;>intro _ hm
 exact hm.rr
 refine cy hm (o7 c.Best 6 (W (c.Ballot-1))) fun x34 hm=> ?_
 apply vb hm<;>intro _ hm
 refine cy hm (q0 c.Value) fun x37 hm=> ?_
 exact hm.rr
 exact hm.rr
 refine cy hm (o7 c.Best 6 (W (c.Ballot-1))) fun x39 hm=> ?_
 apply vb hm<;>intro _ hm
 refine cy hm (q0 c.Value) fun x42 hm=> ?_
 exact hm.rr
 exact hm.rr
 exact hm.rr
 exact hm.rr
 apply vb hm<;>intro _ hm
 refine⟨rfl, ?_⟩
 apply vb hm<;>intro _ hm
 refine cy hm (n6 c.Ballot) fun x46 hm=> ?_
 apply vb hm<;>intro _ hm
 refine cy hm (q0 c.Value) fun x49 hm=> ?_
 exact hm.rr
 exact hm.rr
 exact hm.rr
 apply vb hm<;>intro _ hm
 apply vb hm<;>intro _ hm
 refine cy hm (q0 c.Value) fun x53 hm=> ?_
 exact hm.rr
 exact hm.rr
 apply vb hm<;>intro _ hm
 refine⟨rfl, ?_⟩
 apply vb hm<;>intro _ hm
 refine cy hm (n6 c.Thing) fun x57 hm=> ?_
 apply vb hm<;>intro _ hm
 refine cy hm (a1r c.Start c.Until) fun x60 hm=> ?_
 exact hm.rr
 exact hm.rr
 exact hm.rr
 refine⟨rfl, ?_⟩
 apply vb hm<;>intro _ hm
 refine cy hm (n6 c.Thing) fun x63 hm=> ?_
 apply vb hm<;>intro _ hm
 refine cy hm (n7 c.Until) fun x66 hm=> ?_
 exact hm.rr
 exact hm.rr
 exact hm.rr
 apply vb hm<;>intro _ hm
 refine⟨rfl, ?_⟩
 exact hm.rr
 apply vb hm<;>intro _ hm
 refine⟨rfl, ?_⟩
 exact hm.rr
 apply vb hm<;>intro _ hm
 refine⟨rfl, ?_⟩
 exact hm.rr
 apply vb hm<;>intro _ hm
 exact hm.rr
 apply vb hm<;>intro _ hm
 refine⟨rfl, ?_⟩
 apply vb hm<;>intro _ hm
 refine cy hm (n6 c.Thing) fun x74 hm=> ?_
 apply vb hm<;>intro _ hm
 refine cy hm (a1r c.Start c.Until) fun x77 hm=> ?_
 exact hm.rr
 exact hm.rr
 exact hm.rr
 refine⟨rfl, ?_⟩
 apply vb hm<;>intro _ hm
 refine cy hm (n6 c.Thing) fun x80 hm=> ?_
 apply vb hm<;>intro _ hm
 refine cy hm (n7 c.Until) fun x83 hm=> ?_
 exact hm.rr
 exact hm.rr
 exact hm.rr
 refine cy hm (B3 c.Night) fun x85 hm=> ?_
 apply vb hm<;>intro _ hm
 refine cy hm (I6 c.Ballot) fun x88 hm=> ?_
 apply vb hm<;>intro _ hm
 refine⟨rfl, ?_⟩
 apply vb hm<;>intro _ hm
 refine cy hm (n6 c.Ballot) fun x92 hm=> ?_
 exact hm.rr
 exact hm.rr
 apply vb hm<;>intro _ hm
 refine⟨rfl, ?_⟩
 apply vb hm<;>intro _ hm
 refine cy hm (n6 c.Ballot) fun x96 hm=> ?_
 apply vb hm<;>intro _ hm
 apply vb hm<;>intro _ hm
 apply vb hm<;>intro _ hm
 exact hm.rr
 refine cy hm (o7 c.Best 6 (W (c.Ballot-1))) fun x101 hm=> ?_
 apply vb hm<;>intro _ hm
 refine cy hm (q0 c.Value) fun x104 hm=> ?_
 exact hm.rr
 exact hm.rr
 refine cy hm (o7 c.Best 6 (W (c.Ballot-1))) fun x106 hm=> ?_
 apply vb hm<;>intro _ hm
 refine cy hm (q0 c.Value) fun x109 hm=> ?_
 exact hm.rr
 exact hm.rr
 exact hm.rr
 exact hm.rr
 apply vb hm<;>intro _ hm
 refine⟨rfl, ?_⟩
 apply vb hm<;>intro _ hm
 refine cy hm (n6 c.Ballot) fun x113 hm=> ?_
 apply vb hm<;>intro _ hm
 refine cy hm (q0 c.Value) fun x116 hm=> ?_
 exact hm.rr
 exact hm.rr
 exact hm.rr
 apply vb hm<;>intro _ hm
 apply vb hm<;>intro _ hm
 refine cy hm (q0 c.Value) fun x120 hm=> ?_
 exact hm.rr
 exact hm.rr
 apply vb hm<;>intro _ hm
 refine⟨rfl, ?_⟩
 exact hm.rr
 refine⟨rfl, ?_⟩
 exact hm.rr
 apply vb hm<;>intro _ hm
 refine⟨rfl, ?_⟩
 exact hm.rr
 apply vb hm<;>intro _ hm
 refine⟨rfl, ?_⟩
 exact hm.rr
 apply vb hm<;>intro _ hm
 refine⟨rfl, ?_⟩
 exact hm.rr
 apply vb hm<;>intro _ hm
 exact hm.rr
 apply vb hm<;>intro _ hm
 refine⟨rfl, ?_⟩
 exact hm.rr
 refine⟨rfl, ?_⟩
 exact hm.rr
 refine cy hm (B3 c.Night) fun x128 hm=> ?_
 apply vb hm<;>intro _ hm
 refine cy hm (I6 c.Ballot) fun x131 hm=> ?_
 apply vb hm<;>intro _ hm
 refine⟨rfl, ?_⟩
 apply vb hm<;>intro _ hm
 refine cy hm (n6 c.Ballot) fun x135 hm=> ?_
 exact hm.rr
 exact hm.rr
 apply vb hm<;>intro _ hm
 refine⟨rfl, ?_⟩
 apply vb hm<;>intro _ hm
 refine cy hm (n6 c.Ballot) fun x139 hm=> ?_
 apply vb hm<;>intro _ hm
 apply vb hm<;>intro _ hm
 apply vb hm<;>intro _ hm
 exact hm.rr
 refine cy hm (o7 c.Best 6 (W (c.Ballot-1))) fun x144 hm=> ?_
 apply vb hm<;>intro _ hm
 refine cy hm (q0 c.Value) fun x147 hm=> ?_
 exact hm.rr
 exact hm.rr
 refine cy hm (o7 c.Best 6 (W (c.Ballot-1))) fun x149 hm=> ?_
 apply vb hm<;>intro _ hm
 refine cy hm (q0 c.Value) fun x152 hm=> ?_
 exact hm.rr
 exact hm.rr
 exact hm.rr
 exact hm.rr
 apply vb hm<;>intro _ hm
 refine⟨rfl, ?_⟩
 apply vb hm<;>intro _ hm
 refine cy hm (n6 c.Ballot) fun x156 hm=> ?_
 apply vb hm<;>intro _ hm
 refine cy hm (q0 c.Value) fun x159 hm=> ?_
 exact hm.rr
 exact hm.rr
 exact hm.rr
 apply vb hm<;>intro _ hm
 apply vb hm<;>intro _ hm
 refine cy hm (q0 c.Value) fun x163 hm=> ?_
 exact hm.rr
 exact hm.rr
 apply vb hm<;>intro _ hm
 refine⟨rfl, ?_⟩
 exact hm.rr
 refine⟨rfl, ?_⟩
 exact hm.rr
 apply vb hm<;>intro _ hm
 refine⟨rfl, ?_⟩
 exact hm.rr
 apply vb hm<;>intro _ hm
 refine⟨rfl, ?_⟩
 exact hm.rr
 apply vb hm<;>intro _ hm
 refine⟨rfl, ?_⟩
 exact hm.rr
 apply vb hm<;>intro _ hm
 exact hm.rr
 apply vb hm<;>intro _ hm
 refine⟨rfl, ?_⟩
 exact hm.rr
 refine⟨rfl, ?_⟩
 exact hm.rr
def M2 (s:(List d0)) (i:Int) (v:(List d0)):Option (List d0):=
 gd (0≤i∧i.toNat≤s.length)<|
 if((v.length:Int)==0)=true then
  some s
 else
  if(i==(s.length:Int))=true then
   gd ((s.length+v.length)*32≤140737488355328∧s.length+v.length≤9223372036854775807)<|
   some (s++v)
  else
   gd (0≤i∧i.toNat<s.length∧0<v.length∧(s.length+v.length)*32≤140737488355328∧s.length+v.length≤9223372036854775807) (some (s.take i.toNat++v++s.drop i.toNat))
theorem S6 (s:(List d0)) (i:Int) (v:(List d0)) (r:(List d0)) (hm:M2 s i v=some r):a8z Tryz.prog 220 4 s.length (s.flatMap d0.c) 110 [DI i,lD 4 v d0.c] 4 r.length (r.flatMap d0.c):=by
 obtain⟨hg0,hm⟩:=n8 hm
 refine a6Z (X:=⟨Tryz.prog,tt,Tryz.f220.ntmps, [], [], [], [], [], []⟩) (t:=22) (tI:=3) (tB:=4) (ov:=232) (ty:=110) (args:= [lD 4 v d0.c]) pok Tryz.func220 rfl rfl .mk .mk (Nat.le_of_ble_eq_true rfl) hg0 rfl rfl rfl rfl rfl rfl (by kernel_rfl) ⟨⟨_,4,Tryz.func232,by kernel_rfl,by kernel_rfl,by kernel_rfl,by kernel_rfl⟩⟩ (by decide) ?_
 apply vb hm<;>intro _ hm
 cases hm
 exact⟨rfl,rfl⟩
 apply vb hm<;>intro _ hm
 obtain⟨hg,hm⟩:=n8 hm
 refine⟨hg,_,_,O9 (c:=d0.c) (l:=(s:List d0)) (r:=(v:List d0)), ?_⟩
 cases hm
 exact⟨rfl,rfl⟩
 obtain⟨hg,hm⟩:=n8 hm
 cases hm
 exact b8D (fun _=>rfl) hg
def A0 (x:(List d0)) (target:d0):(Int×Int)→Option (Sum (Int×Int) (Int×Int)):=fun(i7,j8)=>
 if(decide (i7<j8))=true then
  Option.bind (idx x (W ((IntKind.u64.wrap (W (i7+j8))).fdiv (2^(min (1:Int).toNat IntKind.u64.bits))))) fun e16=>
  Option.bind (H4 e16 target) fun x18=>
  if(decide (x18<0))=true then
   some (.inl ((W ((W ((IntKind.u64.wrap (W (i7+j8))).fdiv (2^(min (1:Int).toNat IntKind.u64.bits))))+1)),j8))
  else
   some (.inl (i7,(W ((IntKind.u64.wrap (W (i7+j8))).fdiv (2^(min (1:Int).toNat IntKind.u64.bits))))))
 else
  some (.inr (i7,j8))
def o0 (x:(List d0)) (target:d0):Option (Int×Bool):=
 Option.bind (A5 (A0 x target) (0,(x.length:Int))) fun(i21,j22)=>
 if(decide (i21<(x.length:Int)))=true then
  Option.bind (idx x i21) fun e24=>
  Option.bind (H4 e24 target) fun x26=>
  some (i21,(x26==0))
 else
  some (i21,false)
theorem J6 (x:(List d0)) (target:d0) (r:(Int×Bool)) (hm:o0 x target=some r):k9 Tryz.prog 231 [lD 4 x d0.c, .agg (d0.c target), .fn 136 [] []] (fun x=>x= .tup [DI r.1,DB r.2]):=by
 refine zy c4I [] [] [] Tryz.func231 rfl ?_
 obtain⟨ev28,he,hk29⟩:=b8 hm
 refine D5.ofL (A0 x target) (fun(i7,j8)=>⟨[(0,lD 4 x d0.c),(1, .agg (d0.c target)),(2, .fn 136 [] []),(4, .own 0 0),(6,DI 0),(7,DB false),(8,DI (x.length:Int)),(9,DI i7),(10,DI j8)], [(0, .blk (d0.c target) 110)],1⟩) (0,(x.length:Int)) (i6.of 1 rfl (tA rfl) ⟨hR rfl,trivial⟩) he ?_
 rintro fu30 ⟨i7,j8⟩ b hm hi31
 apply vb hm<;>intro _ hm
 refine⟨by decide, ?_⟩
 refine⟨rfl, ?_⟩
 obtain⟨e33,hx34,hm⟩:=b8 hm
 refine⟨_,u4 (fun _=>rfl) hx34, ?_⟩
 refine cy hm (a0r e33 target) fun x35 hm=> ?_
 apply vb hm<;>intro _ hm
 cases hm
 exact⟨(_,((W ((W ((IntKind.u64.wrap (W (i7+j8))).fdiv (2^(min (1:Int).toNat IntKind.u64.bits))))+1)),j8)),i6.of 1 rfl (tA rfl) ⟨hR rfl,trivial⟩,hi31,Nat.lt_succ_self _⟩
 cases hm
 exact⟨(_,(i7,(W ((IntKind.u64.wrap (W (i7+j8))).fdiv (2^(min (1:Int).toNat IntKind.u64.bits)))))),i6.of 1 rfl (tA rfl) ⟨hR rfl,trivial⟩,hi31,Nat.lt_succ_self _⟩
 cases hm
 cases hi31
 have hm:=hk29
 refine⟨rfl, ?_⟩
 apply vb hm<;>intro _ hm
 obtain⟨e39,hx40,hm⟩:=b8 hm
 refine⟨_,u4 (fun _=>rfl) hx40, ?_⟩
 refine cy hm (a0r e39 target) fun x41 hm=> ?_
 cases hm
 exact j1.le (leD.refl _)
 cases hm
 exact j1.le (leD.refl _)
def A7 (l:(List d0)) (x:d0):Option (Int×Bool):=
 Option.bind (o0 l x) fun⟨x1,x2⟩=>
 some (x1,x2)
theorem L5 (l:(List d0)) (x:d0) (r:(Int×Bool)) (hm:A7 l x=some r):k9 Tryz.prog 219 [lD 4 l d0.c, .agg (d0.c x), .fn 136 [] []] (fun x=>x= .tup [DI r.1,DB r.2]):=by
 refine zn Tryz.func219 rfl ?_
 refine cy hm (J6 l x) ?_
 rintro⟨x1,x2⟩ hm
 cases hm
 exact j1.le (leD.refl _)
def V1 (m:Int) (depot:Int):Option Bool:=
 gd (0≤depot)<|
 some ((W ((BitVec.ofInt IntKind.i64.bits (m.fdiv (2^(min depot.toNat IntKind.i64.bits)))&&&BitVec.ofInt IntKind.i64.bits 1).toNat:Int))==1)
theorem a8k (m:Int) (depot:Int) (r:Bool) (hm:V1 m depot=some r):k9 Tryz.prog 186 [DI m,DI depot] (fun x=>x=DB r):=by
 refine zn Tryz.func186 rfl ?_
 obtain⟨hg,hm⟩:=n8 hm
 refine⟨hg, ?_⟩
 exact hm.rr
def N6 (m:Int) (depot:Int):Option Int:=
 gd (0≤depot)<|
 some (W ((BitVec.ofInt IntKind.i64.bits m|||BitVec.ofInt IntKind.i64.bits (W (1*(2^(min depot.toNat IntKind.i64.bits))))).toNat:Int))
theorem a3F (m:Int) (depot:Int) (r:Int) (hm:N6 m depot=some r):k9 Tryz.prog 187 [DI m,DI depot] (fun x=>x=DI r):=by
 refine zn Tryz.func187 rfl ?_
 obtain⟨hg,hm⟩:=n8 hm
 refine⟨hg, ?_⟩
 exact hm.rr
def X4 (b_:i0) (c_0:b9):Option Bool:=
 if(b_.Night==c_0.Night)=true then
  some (b_.Ballot==c_0.Ballot)
 else
  some false
theorem a4Q (b_:i0) (c_0:b9) (r:Bool) (hm:X4 b_ c_0=some r):k9 Tryz.prog 185 [.agg (i0.c b_), .ptr (b9.c c_0) 0] (fun x=>x=DB r):=by
 refine zn Tryz.func185 rfl ?_
 apply vb hm<;>intro _ hm
 exact hm.rr
 exact hm.rr
def C9 (s:(List i0)) (c1_0:b9):Int→Option (Sum Int (Sum Int Int)):=fun v7=>
 if(decide (v7<(s.length:Int)))=true then
  Option.bind (idx s v7) fun e15=>
  Option.bind (X4 e15 c1_0) fun x17=>
  if x17=true then
   some (.inr (.inr v7))
  else
   some (.inl (W (v7+1)))
 else
  some (.inr (.inl v7))
def A1 (s:(List i0)) (c1_0:b9):Option Int:=
 Option.bind (A5 (C9 s c1_0) 0) fun e=>
 match e with
 | .inl v20=>
  some (-1)
 | .inr rr21=>
  some rr21
theorem O2 (s:(List i0)) (c1_0:b9) (r:Int) (hm:A1 s c1_0=some r):k9 Tryz.prog 178 [lD 6 s i0.c, .fn 185 [] [.ptr (b9.c c1_0) 0]] (fun x=>x=DI r):=by
 refine zn Tryz.func178 rfl ?_
 obtain⟨ev22,he,hk23⟩:=b8 hm
 refine D5.ofL (C9 s c1_0) (fun v7=>⟨[(0,lD 6 s i0.c),(1, .fn 185 [] [.ptr (b9.c c1_0) 0]),(4,DI 0),(7,DI (s.length:Int)),(8,DI v7)], [],0⟩) 0 (i6.of 0 rfl (tA rfl) trivial) he ?_
 rintro fu24 v7 b hm hi25
 apply vb hm<;>intro _ hm
 obtain⟨e27,hx28,hm⟩:=b8 hm
 refine⟨_,u4 (fun _=>rfl) hx28, ?_⟩
 refine cy hm (a4Q e27 c1_0) fun x29 hm=> ?_
 apply vb hm<;>intro _ hm
 cases hm
 cases hi25
 have hm:=hk23
 exact hm.rr
 cases hm
 exact⟨(_,(W (v7+1))),i6.of 0 rfl (tA rfl) trivial,hi25,Nat.lt_succ_self _⟩
 cases hm
 cases hi25
 have hm:=hk23
 exact hm.rr
def K8 (s:(List c9)) (i:Int) (v:(List c9)):Option (List c9):=
 gd (0≤i∧i.toNat≤s.length)<|
 if((v.length:Int)==0)=true then
  some s
 else
  if(i==(s.length:Int))=true then
   gd ((s.length+v.length)*32≤140737488355328∧s.length+v.length≤9223372036854775807)<|
   some (s++v)
  else
   gd (0≤i∧i.toNat<s.length∧0<v.length∧(s.length+v.length)*32≤140737488355328∧s.length+v.length≤9223372036854775807) (some (s.take i.toNat++v++s.drop i.toNat))
theorem a1d (s:(List c9)) (i:Int) (v:(List c9)) (r:(List c9)) (hm:K8 s i v=some r):a8z Tryz.prog 210 4 s.length (s.flatMap c9.c) 149 [DI i,lD 4 v c9.c] 4 r.length (r.flatMap c9.c):=by
 obtain⟨hg0,hm⟩:=n8 hm
 refine a6Z (X:=⟨Tryz.prog,tt,Tryz.f210.ntmps, [], [], [], [], [], []⟩) (t:=24) (tI:=3) (tB:=4) (ov:=222) (ty:=149) (args:= [lD 4 v c9.c]) pok Tryz.func210 rfl rfl .mk .mk (Nat.le_of_ble_eq_true rfl) hg0 rfl rfl rfl rfl rfl rfl (by kernel_rfl) ⟨⟨_,4,Tryz.func222,by kernel_rfl,by kernel_rfl,by kernel_rfl,by kernel_rfl⟩⟩ (by decide) ?_
 apply vb hm<;>intro _ hm
 cases hm
 exact⟨rfl,rfl⟩
 apply vb hm<;>intro _ hm
 obtain⟨hg,hm⟩:=n8 hm
 refine⟨hg,_,_,O9 (c:=c9.c) (l:=(s:List c9)) (r:=(v:List c9)), ?_⟩
 cases hm
 exact⟨rfl,rfl⟩
 obtain⟨hg,hm⟩:=n8 hm
 cases hm
 exact b8D (fun _=>rfl) hg
def w7 (x:(List c9)) (target:c9):(Int×Int)→Option (Sum (Int×Int) (Int×Int)):=fun(i7,j8)=>
 if(decide (i7<j8))=true then
  Option.bind (idx x (W ((IntKind.u64.wrap (W (i7+j8))).fdiv (2^(min (1:Int).toNat IntKind.u64.bits))))) fun e16=>
  Option.bind (H5 e16 target) fun x18=>
  if(decide (x18<0))=true then
   some (.inl ((W ((W ((IntKind.u64.wrap (W (i7+j8))).fdiv (2^(min (1:Int).toNat IntKind.u64.bits))))+1)),j8))
  else
   some (.inl (i7,(W ((IntKind.u64.wrap (W (i7+j8))).fdiv (2^(min (1:Int).toNat IntKind.u64.bits))))))
 else
  some (.inr (i7,j8))
def m8 (x:(List c9)) (target:c9):Option (Int×Bool):=
 Option.bind (A5 (w7 x target) (0,(x.length:Int))) fun(i21,j22)=>
 if(decide (i21<(x.length:Int)))=true then
  Option.bind (idx x i21) fun e24=>
  Option.bind (H5 e24 target) fun x26=>
  some (i21,(x26==0))
 else
  some (i21,false)
theorem I9 (x:(List c9)) (target:c9) (r:(Int×Bool)) (hm:m8 x target=some r):k9 Tryz.prog 221 [lD 4 x c9.c, .agg (c9.c target), .fn 139 [] []] (fun x=>x= .tup [DI r.1,DB r.2]):=by
 refine zy c6k [] [] [] Tryz.func221 rfl ?_
 obtain⟨ev28,he,hk29⟩:=b8 hm
 refine D5.ofL (w7 x target) (fun(i7,j8)=>⟨[(0,lD 4 x c9.c),(1, .agg (c9.c target)),(2, .fn 139 [] []),(4, .own 0 0),(6,DI 0),(7,DB false),(8,DI (x.length:Int)),(9,DI i7),(10,DI j8)], [(0, .blk (c9.c target) 149)],1⟩) (0,(x.length:Int)) (i6.of 1 rfl (tA rfl) ⟨hR rfl,trivial⟩) he ?_
 rintro fu30 ⟨i7,j8⟩ b hm hi31
 apply vb hm<;>intro _ hm
 refine⟨by decide, ?_⟩
 refine⟨rfl, ?_⟩
 obtain⟨e33,hx34,hm⟩:=b8 hm
 refine⟨_,u4 (fun _=>rfl) hx34, ?_⟩
 refine cy hm (a0u e33 target) fun x35 hm=> ?_
 apply vb hm<;>intro _ hm
 cases hm
 exact⟨(_,((W ((W ((IntKind.u64.wrap (W (i7+j8))).fdiv (2^(min (1:Int).toNat IntKind.u64.bits))))+1)),j8)),i6.of 1 rfl (tA rfl) ⟨hR rfl,trivial⟩,hi31,Nat.lt_succ_self _⟩
 cases hm
 exact⟨(_,(i7,(W ((IntKind.u64.wrap (W (i7+j8))).fdiv (2^(min (1:Int).toNat IntKind.u64.bits)))))),i6.of 1 rfl (tA rfl) ⟨hR rfl,trivial⟩,hi31,Nat.lt_succ_self _⟩
 cases hm
 cases hi31
 have hm:=hk29
 refine⟨rfl, ?_⟩
 apply vb hm<;>intro _ hm
 obtain⟨e39,hx40,hm⟩:=b8 hm
 refine⟨_,u4 (fun _=>rfl) hx40, ?_⟩
 refine cy hm (a0u e39 target) fun x41 hm=> ?_
 cases hm
 exact j1.le (leD.refl _)
 cases hm
 exact j1.le (leD.refl _)
def A4 (l:(List c9)) (x:c9):Option (Int×Bool):=
 Option.bind (m8 l x) fun⟨x1,x2⟩=>
 some (x1,x2)
theorem W7 (l:(List c9)) (x:c9) (r:(Int×Bool)) (hm:A4 l x=some r):k9 Tryz.prog 209 [lD 4 l c9.c, .agg (c9.c x), .fn 139 [] []] (fun x=>x= .tup [DI r.1,DB r.2]):=by
 refine zn Tryz.func209 rfl ?_
 refine cy hm (I9 l x) ?_
 rintro⟨x1,x2⟩ hm
 cases hm
 exact j1.le (leD.refl _)
def M1 (s:(List d7)) (i:Int) (v:(List d7)):Option (List d7):=
 gd (0≤i∧i.toNat≤s.length)<|
 if((v.length:Int)==0)=true then
  some s
 else
  if(i==(s.length:Int))=true then
   gd ((s.length+v.length)*48≤140737488355328∧s.length+v.length≤9223372036854775807)<|
   some (s++v)
  else
   gd (0≤i∧i.toNat<s.length∧0<v.length∧(s.length+v.length)*48≤140737488355328∧s.length+v.length≤9223372036854775807) (some (s.take i.toNat++v++s.drop i.toNat))
theorem a1Z (s:(List d7)) (i:Int) (v:(List d7)) (r:(List d7)) (hm:M1 s i v=some r):a8z Tryz.prog 211 6 s.length (s.flatMap d7.c) 114 [DI i,lD 6 v d7.c] 6 r.length (r.flatMap d7.c):=by
 obtain⟨hg0,hm⟩:=n8 hm
 refine a6Z (X:=⟨Tryz.prog,tt,Tryz.f211.ntmps, [], [], [], [], [], []⟩) (t:=26) (tI:=3) (tB:=4) (ov:=224) (ty:=114) (args:= [lD 6 v d7.c]) pok Tryz.func211 rfl rfl .mk .mk (Nat.le_of_ble_eq_true rfl) hg0 rfl rfl rfl rfl rfl rfl (by kernel_rfl) ⟨⟨_,4,Tryz.func224,by kernel_rfl,by kernel_rfl,by kernel_rfl,by kernel_rfl⟩⟩ (by decide) ?_
 apply vb hm<;>intro _ hm
 cases hm
 exact⟨rfl,rfl⟩
 apply vb hm<;>intro _ hm
 obtain⟨hg,hm⟩:=n8 hm
 refine⟨hg,_,_,O9 (c:=d7.c) (l:=(s:List d7)) (r:=(v:List d7)), ?_⟩
 cases hm
 exact⟨rfl,rfl⟩
 obtain⟨hg,hm⟩:=n8 hm
 cases hm
 exact b8D (fun _=>rfl) hg
def z8 (x:(List d7)) (target:d7):(Int×Int)→Option (Sum (Int×Int) (Int×Int)):=fun(i7,j8)=>
 if(decide (i7<j8))=true then
  Option.bind (idx x (W ((IntKind.u64.wrap (W (i7+j8))).fdiv (2^(min (1:Int).toNat IntKind.u64.bits))))) fun e16=>
  Option.bind (H7 e16 target) fun x18=>
  if(decide (x18<0))=true then
   some (.inl ((W ((W ((IntKind.u64.wrap (W (i7+j8))).fdiv (2^(min (1:Int).toNat IntKind.u64.bits))))+1)),j8))
  else
   some (.inl (i7,(W ((IntKind.u64.wrap (W (i7+j8))).fdiv (2^(min (1:Int).toNat IntKind.u64.bits))))))
 else
  some (.inr (i7,j8))
def n9 (x:(List d7)) (target:d7):Option (Int×Bool):=
 Option.bind (A5 (z8 x target) (0,(x.length:Int))) fun(i21,j22)=>
 if(decide (i21<(x.length:Int)))=true then
  Option.bind (idx x i21) fun e24=>
  Option.bind (H7 e24 target) fun x26=>
  some (i21,(x26==0))
 else
  some (i21,false)
theorem J5 (x:(List d7)) (target:d7) (r:(Int×Bool)) (hm:n9 x target=some r):k9 Tryz.prog 152 [lD 6 x d7.c, .agg (d7.c target), .fn 95 [] []] (fun x=>x= .tup [DI r.1,DB r.2]):=by
 refine zy c4X [] [] [] Tryz.func152 rfl ?_
 obtain⟨ev28,he,hk29⟩:=b8 hm
 refine D5.ofL (z8 x target) (fun(i7,j8)=>⟨[(0,lD 6 x d7.c),(1, .agg (d7.c target)),(2, .fn 95 [] []),(4, .own 0 0),(6,DI 0),(7,DB false),(8,DI (x.length:Int)),(9,DI i7),(10,DI j8)], [(0, .blk (d7.c target) 114)],1⟩) (0,(x.length:Int)) (i6.of 1 rfl (tA rfl) ⟨hR rfl,trivial⟩) he ?_
 rintro fu30 ⟨i7,j8⟩ b hm hi31
 apply vb hm<;>intro _ hm
 refine⟨by decide, ?_⟩
 refine⟨rfl, ?_⟩
 obtain⟨e33,hx34,hm⟩:=b8 hm
 refine⟨_,u4 (fun _=>rfl) hx34, ?_⟩
 refine cy hm (a0v e33 target) fun x35 hm=> ?_
 apply vb hm<;>intro _ hm
 cases hm
 exact⟨(_,((W ((W ((IntKind.u64.wrap (W (i7+j8))).fdiv (2^(min (1:Int).toNat IntKind.u64.bits))))+1)),j8)),i6.of 1 rfl (tA rfl) ⟨hR rfl,trivial⟩,hi31,Nat.lt_succ_self _⟩
 cases hm
 exact⟨(_,(i7,(W ((IntKind.u64.wrap (W (i7+j8))).fdiv (2^(min (1:Int).toNat IntKind.u64.bits)))))),i6.of 1 rfl (tA rfl) ⟨hR rfl,trivial⟩,hi31,Nat.lt_succ_self _⟩
 cases hm
 cases hi31
 have hm:=hk29
 refine⟨rfl, ?_⟩
 apply vb hm<;>intro _ hm
 obtain⟨e39,hx40,hm⟩:=b8 hm
 refine⟨_,u4 (fun _=>rfl) hx40, ?_⟩
 refine cy hm (a0v e39 target) fun x41 hm=> ?_
 cases hm
 exact j1.le (leD.refl _)
 cases hm
 exact j1.le (leD.refl _)
def r7 (l:(List d7)) (x:d7):Option (Int×Bool):=
 Option.bind (n9 l x) fun⟨x1,x2⟩=>
 some (x1,x2)
theorem L9 (l:(List d7)) (x:d7) (r:(Int×Bool)) (hm:r7 l x=some r):k9 Tryz.prog 94 [lD 6 l d7.c, .agg (d7.c x), .fn 95 [] []] (fun x=>x= .tup [DI r.1,DB r.2]):=by
 refine zn Tryz.func94 rfl ?_
 refine cy hm (J5 l x) ?_
 rintro⟨x1,x2⟩ hm
 cases hm
 exact j1.le (leD.refl _)
theorem b2I:k9 Tryz.prog 96 [] (fun x=>x= .mp [(1,154),(2,155),(3,156),(4,157),(5,158),(6,159)]):=
 c1f (t:=140) (kt:=3) (et:=139) Tryz.func96 rfl (.mk (.cons (.cons (.cons (.cons (.cons (.cons .nil))))))) (by decide) rfl rfl (by kernel_rfl) (by kernel_rfl)
def a1j (c:b9) (v9:(List d0)):Option (Sum ((List d0)×Int) Unit):=
 Option.bind (A7 v9 (⟨c.Night,0,0,0⟩:d0)) fun⟨x122,x123⟩=>
 if x123=true then
  some (.inl (v9,x122))
 else
  if((v9.length:Int)==12)=true then
   some (.inr ())
  else
   Option.bind (M2 v9 x122 ([(⟨c.Night,0,0,0⟩:d0)]:List d0)) fun x127=>
   some (.inl (x127,x122))
def S4 (c:b9) (v9:(List d0)):Option (Sum ((List d0)×Int) Unit):=
 Option.bind (a1j c v9) fun e=>
 match e with
 | .inl (v120,x121)=>
  Option.bind (idx v120 x121) fun e131=>
  some (.inl (v120,x121))
 | .inr _=>
  some (.inr ())
def V6 (c:b9) (v9:(List d0)):Option ((List d0)×Bool):=
 Option.bind (S4 c v9) fun e=>
 match e with
 | .inl (v111,x112)=>
  Option.bind (idx v111 x112) fun e142=>
  if(decide (c.Ballot>e142.Promised))=true then
   Option.bind (idx v111 x112) fun e145=>
   some ((v111.set x112.toNat (⟨e145.Night,c.Ballot,e145.Ballot,e145.Value⟩:d0)),true)
  else
   some (v111,true)
 | .inr _=>
  some (v9,false)
def V3 (c:b9) (v10:(List i0)):Option (List i0):=
 Option.bind (A1 v10 c) fun x292=>
 if(decide (x292<0))=true then
  some v10
 else
  Option.bind (idx v10 x292) fun e295=>
  Option.bind (idx v10 x292) fun e297=>
  if e297.Asked=true then
   some v10
  else
   Option.bind (idx v10 x292) fun e300=>
   Option.bind (V1 e300.Mask c.From) fun x302=>
   if x302=true then
    some v10
   else
    Option.bind (idx v10 x292) fun e305=>
    Option.bind (N6 e305.Mask c.From) fun x307=>
    Option.bind (L3 x307) fun x309=>
    Option.bind (idx v10 x292) fun e311=>
    Option.bind (idx (v10.set x292.toNat (⟨e311.Night,e311.Ballot,e311.Value,e311.Best,x307,e311.Asked⟩:i0)) x292) fun e313=>
    Option.bind (idx ((v10.set x292.toNat (⟨e311.Night,e311.Ballot,e311.Value,e311.Best,x307,e311.Asked⟩:i0)).set x292.toNat (⟨e313.Night,e313.Ballot,e313.Value,e313.Best,e313.Mask,x309⟩:i0)) x292) fun e315=>
    if(decide (c.Best>e315.Best))=true then
     Option.bind (idx ((v10.set x292.toNat (⟨e311.Night,e311.Ballot,e311.Value,e311.Best,x307,e311.Asked⟩:i0)).set x292.toNat (⟨e313.Night,e313.Ballot,e313.Value,e313.Best,e313.Mask,x309⟩:i0)) x292) fun e318=>
     Option.bind (idx (((v10.set x292.toNat (⟨e311.Night,e311.Ballot,e311.Value,e311.Best,x307,e311.Asked⟩:i0)).set x292.toNat (⟨e313.Night,e313.Ballot,e313.Value,e313.Best,e313.Mask,x309⟩:i0)).set x292.toNat (⟨e318.Night,e318.Ballot,e318.Value,c.Best,e318.Mask,e318.Asked⟩:i0)) x292) fun e320=>
     some ((((v10.set x292.toNat (⟨e311.Night,e311.Ballot,e311.Value,e311.Best,x307,e311.Asked⟩:i0)).set x292.toNat (⟨e313.Night,e313.Ballot,e313.Value,e313.Best,e313.Mask,x309⟩:i0)).set x292.toNat (⟨e318.Night,e318.Ballot,e318.Value,c.Best,e318.Mask,e318.Asked⟩:i0)).set x292.toNat (⟨e320.Night,e320.Ballot,c.Value,e320.Best,e320.Mask,e320.Asked⟩:i0))
    else
     some ((v10.set x292.toNat (⟨e311.Night,e311.Ballot,e311.Value,e311.Best,x307,e311.Asked⟩:i0)).set x292.toNat (⟨e313.Night,e313.Ballot,e313.Value,e313.Best,e313.Mask,x309⟩:i0))
def X8 (c:b9) (v9:(List d0)):Option ((List d0)×Bool):=
 Option.bind (S4 c v9) fun e=>
 match e with
 | .inl (v430,x431)=>
  Option.bind (idx v430 x431) fun e461=>
  if(decide (c.Ballot≥e461.Promised))=true then
   Option.bind (idx v430 x431) fun e464=>
   Option.bind (idx (v430.set x431.toNat (⟨e464.Night,c.Ballot,e464.Ballot,e464.Value⟩:d0)) x431) fun e466=>
   Option.bind (idx ((v430.set x431.toNat (⟨e464.Night,c.Ballot,e464.Ballot,e464.Value⟩:d0)).set x431.toNat (⟨e466.Night,e466.Promised,c.Ballot,e466.Value⟩:d0)) x431) fun e468=>
   some ((((v430.set x431.toNat (⟨e464.Night,c.Ballot,e464.Ballot,e464.Value⟩:d0)).set x431.toNat (⟨e466.Night,e466.Promised,c.Ballot,e466.Value⟩:d0)).set x431.toNat (⟨e468.Night,e468.Promised,e468.Ballot,c.Value⟩:d0)),true)
  else
   some (v430,true)
 | .inr _=>
  some (v9,false)
def a0U (c:b9) (v11:(List c9)):Option (Sum ((List c9)×Int) Unit):=
 Option.bind (A4 v11 (⟨c.Night,c.Ballot,c.Value,0⟩:c9)) fun⟨x632,x633⟩=>
 if x633=true then
  some (.inl (v11,x632))
 else
  if((v11.length:Int)==60)=true then
   some (.inr ())
  else
   Option.bind (K8 v11 x632 ([(⟨c.Night,c.Ballot,c.Value,0⟩:c9)]:List c9)) fun x637=>
   some (.inl (x637,x632))
def S9 (c:b9) (v11:(List c9)):Option ((List c9)×Bool):=
 Option.bind (a0U c v11) fun e=>
 match e with
 | .inl (v630,x631)=>
  Option.bind (idx v630 x631) fun e641=>
  Option.bind (idx v630 x631) fun e643=>
  if(e643.Value==c.Value)=true then
   Option.bind (idx v630 x631) fun e646=>
   Option.bind (idx v630 x631) fun e648=>
   Option.bind (N6 e648.Mask c.From) fun x650=>
   Option.bind (idx v630 x631) fun e652=>
   Option.bind (idx v630 x631) fun e654=>
   some ((v630.set x631.toNat (⟨e654.Night,e654.Ballot,e654.Value,x650⟩:c9)),true)
  else
   some (v630,true)
 | .inr _=>
  some (v11,false)
def a1h (c:b9) (v13:(List d7)):Option (Sum ((List d7)×Int) Unit):=
 Option.bind (r7 v13 (⟨c.From,c.No,c.Thing,c.Start,c.Until,false⟩:d7)) fun⟨x736,x737⟩=>
 if x737=true then
  some (.inl (v13,x736))
 else
  if((v13.length:Int)==60)=true then
   some (.inr ())
  else
   Option.bind (M1 v13 x736 ([(⟨c.From,c.No,c.Thing,c.Start,c.Until,false⟩:d7)]:List d7)) fun x741=>
   some (.inl (x741,x736))
def a0a (c:b9) (v13:(List d7)):Option ((List d7)×Bool):=
 Option.bind (a1h c v13) fun e=>
 match e with
 | .inl (v734,x735)=>
  some (v734,true)
 | .inr _=>
  some (v13,false)
def O5 (c:b9) (v12:(List c0)):(Int×(List c0))→Option (Sum (Int×(List c0)) (Int×(List c0))):=fun(v858,v859)=>
 if(decide (v858<(v12.length:Int)))=true then
  Option.bind (idx v859 v858) fun e879=>
  Option.bind (idx v859 v858) fun e881=>
  if(e881.No==c.No)=true then
   Option.bind (idx v859 v858) fun e884=>
   if(e884.Thing==c.Thing)=true then
    Option.bind (idx v859 v858) fun e887=>
    if(e887.To==c.From)=true then
     Option.bind (idx v859 v858) fun e890=>
     Option.bind (idx v859 v858) fun e892=>
     Option.bind (idx v859 v858) fun e894=>
     some (.inl ((W (v858+1)),(v859.set v858.toNat (⟨e894.No,e894.Thing,e894.To,e894.From,(if(if e892.From>c.Until then e892.From else c.Until)<e890.Until then(if e892.From>c.Until then e892.From else c.Until)else e890.Until)⟩:c0))))
    else
     some (.inl ((W (v858+1)),v859))
   else
    some (.inl ((W (v858+1)),v859))
  else
   some (.inl ((W (v858+1)),v859))
 else
  some (.inr (v858,v859))
def a0t (c:b9) (v12:(List c0)):Option (List c0):=
 Option.bind (A5 (O5 c v12) (0,v12)) fun(v896,v897)=>
 some v897
def Q9 (x:a8) (c:b9):Option (a8×Int):=
 Option.bind (R0 x) fun e=>
 match e with
 | .inl x8=>
  if(x8 !=0)=true then
   some ((⟨0,(⟨0, [], [], [], [], []⟩:c8),(⟨0, [], [], [], [], []⟩:c8)⟩:a8),x8)
  else
   Option.bind (a0m c) fun x32=>
   if(!x32)=true then
    some ((⟨0,(⟨0, [], [], [], [], []⟩:c8),(⟨0, [], [], [], [], []⟩:c8)⟩:a8),91)
   else
    none
 | .inr (v9,v10,v11,v12,v13,v14,v15,v16,v17,v18,x19,x20,x21)=>
  Option.bind (a0m c) fun x35=>
  if(!x35)=true then
   some ((⟨0,(⟨0, [], [], [], [], []⟩:c8),(⟨0, [], [], [], [], []⟩:c8)⟩:a8),91)
  else
   if(c.To !=x19)=true then
    some ((⟨0,(⟨0, [], [], [], [], []⟩:c8),(⟨0, [], [], [], [], []⟩:c8)⟩:a8),91)
   else
    if(c.Kind==1)=true then
     Option.bind (V6 c v9) fun⟨v89,x90⟩=>
     if(!x90)=true then
      some ((⟨0,(⟨0, [], [], [], [], []⟩:c8),(⟨0, [], [], [], [], []⟩:c8)⟩:a8),2)
     else
      some ((⟨x19,(⟨x20,v89,v10,v11,v12,v13⟩:c8),(⟨x21,v14,v15,v16,v17,v18⟩:c8)⟩:a8),0)
    else
     if(c.Kind==2)=true then
      Option.bind (V3 c v10) fun v291=>
      some ((⟨x19,(⟨x20,v9,v291,v11,v12,v13⟩:c8),(⟨x21,v14,v15,v16,v17,v18⟩:c8)⟩:a8),0)
     else
      if(c.Kind==3)=true then
       Option.bind (X8 c v9) fun⟨v408,x409⟩=>
       if(!x409)=true then
        some ((⟨0,(⟨0, [], [], [], [], []⟩:c8),(⟨0, [], [], [], [], []⟩:c8)⟩:a8),2)
       else
        some ((⟨x19,(⟨x20,v408,v10,v11,v12,v13⟩:c8),(⟨x21,v14,v15,v16,v17,v18⟩:c8)⟩:a8),0)
      else
       if(c.Kind==4)=true then
        Option.bind (S9 c v11) fun⟨v621,x622⟩=>
        if(!x622)=true then
         some ((⟨0,(⟨0, [], [], [], [], []⟩:c8),(⟨0, [], [], [], [], []⟩:c8)⟩:a8),2)
        else
         some ((⟨x19,(⟨x20,v9,v10,v621,v12,v13⟩:c8),(⟨x21,v14,v15,v16,v17,v18⟩:c8)⟩:a8),0)
       else
        if(c.Kind==5)=true then
         Option.bind (a0a c v13) fun⟨v725,x726⟩=>
         if(!x726)=true then
          some ((⟨0,(⟨0, [], [], [], [], []⟩:c8),(⟨0, [], [], [], [], []⟩:c8)⟩:a8),2)
         else
          some ((⟨x19,(⟨x20,v9,v10,v11,v12,v725⟩:c8),(⟨x21,v14,v15,v16,v17,v18⟩:c8)⟩:a8),0)
        else
         if(c.Kind==6)=true then
          Option.bind (a0t c v12) fun v839=>
          some ((⟨x19,(⟨x20,v9,v10,v11,v839,v13⟩:c8),(⟨x21,v14,v15,v16,v17,v18⟩:c8)⟩:a8),0)
         else
          none
theorem a2W (x:a8) (c:b9) (r:(a8×Int)) (hm:Q9 x c=some r):k9 Tryz.prog 37 [.agg (a8.c x), .agg (b9.c c)] (fun x=>x= .tup [.agg (a8.c r.1),DI r.2]):=by
 refine zy c6w [99,106,149,210,211,220] [62] [61,154,155,156,157,158,159,184,188,189,208] Tryz.func37 rfl ?_
 obtain⟨ev29,he30,hm⟩:=b8 hm
 refine O7.ofZ pok ⟨[(0, .agg (a8.c x)),(1000000, .agg (a8.c x)),(1000001, .agg (b9.c c)),(1000002, .own 0 0),(1000003, .own 1 0),(1000004, .own 2 0),(1000005,DI 0)], [(0, .blk (a8.c x) 30),(1, .blk (b9.c c) 42),(2, .blk [DI 0,DI 0,nS,nS,nS,nS,nS,DI 0,nS,nS,nS,nS,nS] 30)],3⟩ (match ev29 with| .inl x8=>(⟨[(0, .agg (a8.c x)),(1, .agg (b9.c c)),(2, .own 0 0),(3, .own 1 0),(4, .own 2 0),(5,DI 0),(10, .tup [.v (.pointer none),DI x8])], [(0, .blk (a8.c x) 30),(1, .blk (b9.c c) 42),(2, .blk [DI 0,DI 0,nS,nS,nS,nS,nS,DI 0,nS,nS,nS,nS,nS] 30)],3⟩:Sy)| .inr (v9,v10,v11,v12,v13,v14,v15,v16,v17,v18,x19,x20,x21)=>(⟨[(0, .agg (a8.c x)),(1, .agg (b9.c c)),(2, .own 0 0),(3, .own 1 0),(4, .own 2 0),(5,DI 0),(10, .tup [.own 14 0,DI 0])], [(0, .blk (a8.c x) 30),(1, .blk (b9.c c) 42),(2, .blk [DI 0,DI 0,nS,nS,nS,nS,nS,DI 0,nS,nS,nS,nS,nS] 30),(4,rE 4 v9 d0.c 110),(5,rE 6 v10 i0.c 108),(6,rE 4 v11 c9.c 149),(7,rE 5 v12 c0.c 112),(8,rE 6 v13 d7.c 114),(9,rE 4 v14 d0.c 110),(10,rE 6 v15 i0.c 108),(11,rE 4 v16 c9.c 149),(12,rE 5 v17 c0.c 112),(13,rE 6 v18 d7.c 114),(14, .blk [DI x19,DI x20, .row 4 4, .row 5 6, .row 6 4, .row 7 5, .row 8 6,DI x21, .row 9 4, .row 10 6, .row 11 4, .row 12 5, .row 13 6] 102)],15⟩:Sy):Sy) b6V [99,106,149,210,211,220] [62] [61,154,155,156,157,158,159,184,188,189,208] Tryz.func61 rfl rfl rfl (i6.of 3 rfl (tA rfl) ⟨hR rfl,hR rfl,hR rfl,trivial⟩) (fun sv=> ?_) ?_
 have hm:=he30
 refine cy hm (R8 x) fun x1002 hm=> ?_
 apply vb hm<;>intro _ hm
 cases hm
 exact i6.of 3 rfl (tA rfl) ⟨hR rfl,hR rfl,hR rfl,trivial⟩
 refine⟨rfl, ?_⟩
 obtain⟨x1005,hx1006,hm⟩:=b8 hm
 refine .inr (a7n.mk ⟨_,_,L6 x.Now _ hx1006, ?_⟩)
 obtain⟨x1007,hx1008,hm⟩:=b8 hm
 refine .inr (a7n.mk ⟨_,_,L6 x.Safe _ hx1008, ?_⟩)
 cases hm
 exact i6.of 15 rfl (tA rfl) ⟨hR rfl,hR rfl,hR rfl,hW rfl,hW rfl,hW rfl,hW rfl,hW rfl,hW rfl,hW rfl,hW rfl,hW rfl,hW rfl,hR rfl,trivial⟩
 rcases ev29 with x8|⟨v9,v10,v11,v12,v13,v14,v15,v16,v17,v18,x19,x20,x21⟩
 apply vb hm<;>intro _ hm
 cases hm
 exact j1.le (⟨_,rfl,⟨⟨_,rfl,⟨leD.refl _,leD.refl _,leD.nil,leD.nil,leD.nil,leD.nil,leD.nil,leD.refl _,leD.nil,leD.nil,leD.nil,leD.nil,leD.nil,trivial⟩⟩,leD.refl _,trivial⟩⟩)
 refine⟨rfl, ?_⟩
 refine cy hm (a5I c) fun x32 hm=> ?_
 apply vb hm<;>intro _ hm
 cases hm
 exact j1.le (⟨_,rfl,⟨⟨_,rfl,⟨leD.refl _,leD.refl _,leD.nil,leD.nil,leD.nil,leD.nil,leD.nil,leD.refl _,leD.nil,leD.nil,leD.nil,leD.nil,leD.nil,trivial⟩⟩,leD.refl _,trivial⟩⟩)
 cases hm
 refine⟨rfl, ?_⟩
 refine cy hm (a5I c) fun x35 hm=> ?_
 apply vb hm<;>intro _ hm
 cases hm
 exact j1.le (⟨_,rfl,⟨⟨_,rfl,⟨leD.refl _,leD.refl _,leD.nil,leD.nil,leD.nil,leD.nil,leD.nil,leD.refl _,leD.nil,leD.nil,leD.nil,leD.nil,leD.nil,trivial⟩⟩,leD.refl _,trivial⟩⟩)
 apply vb hm<;>intro _ hm
 cases hm
 exact j1.le (⟨_,rfl,⟨⟨_,rfl,⟨leD.refl _,leD.refl _,leD.nil,leD.nil,leD.nil,leD.nil,leD.nil,leD.refl _,leD.nil,leD.nil,leD.nil,leD.nil,leD.nil,trivial⟩⟩,leD.refl _,trivial⟩⟩)
 refine⟨rfl, ?_⟩
 refine a5h.det b2I ?_
 cases h39:(c.Kind==1)
 rotate_left
 replace hm:=b9C h39 hm
 refine⟨⟨3,139,by kernel_rfl,by kernel_rfl⟩,154,by simp only [a6z,h39], ?_⟩
 obtain⟨ev174,he175,hm⟩:=b8 hm
 refine O7.ofZ pok ⟨[(0, .own 14 0),(1, .agg (b9.c c)),(1000000, .agg (a8.c x)),(1000001, .agg (b9.c c)),(1000002, .own 0 0),(1000003, .own 1 0),(1000004, .own 2 0),(1000005,DI 0),(1000006, .own 14 0),(1000007,DI 0),(1000013,DB false),(1000018,DB (c.To !=x19))], [(0, .blk (a8.c x) 30),(1, .blk (b9.c c) 42),(2, .blk [DI 0,DI 0,nS,nS,nS,nS,nS,DI 0,nS,nS,nS,nS,nS] 30),(4,rE 4 v9 d0.c 110),(5,rE 6 v10 i0.c 108),(6,rE 4 v11 c9.c 149),(7,rE 5 v12 c0.c 112),(8,rE 6 v13 d7.c 114),(9,rE 4 v14 d0.c 110),(10,rE 6 v15 i0.c 108),(11,rE 4 v16 c9.c 149),(12,rE 5 v17 c0.c 112),(13,rE 6 v18 d7.c 114),(14, .blk [DI x19,DI x20, .row 4 4, .row 5 6, .row 6 4, .row 7 5, .row 8 6,DI x21, .row 9 4, .row 10 6, .row 11 4, .row 12 5, .row 13 6] 102)],15⟩ (match ev174 with|(v89,x90)=>(⟨[(0, .agg (a8.c x)),(1, .agg (b9.c c)),(2, .own 0 0),(3, .own 1 0),(4, .own 2 0),(5,DI 0),(6, .own 14 0),(7,DI 0),(13,DB false),(18,DB (c.To !=x19)),(40,DB x90)], [(0, .blk (a8.c x) 30),(1, .blk (b9.c c) 42),(2, .blk [DI 0,DI 0,nS,nS,nS,nS,nS,DI 0,nS,nS,nS,nS,nS] 30),(4,rE 4 v89 d0.c 110),(5,rE 6 v10 i0.c 108),(6,rE 4 v11 c9.c 149),(7,rE 5 v12 c0.c 112),(8,rE 6 v13 d7.c 114),(9,rE 4 v14 d0.c 110),(10,rE 6 v15 i0.c 108),(11,rE 4 v16 c9.c 149),(12,rE 5 v17 c0.c 112),(13,rE 6 v18 d7.c 114),(14, .blk [DI x19,DI x20, .row 4 4, .row 5 6, .row 6 4, .row 7 5, .row 8 6,DI x21, .row 9 4, .row 10 6, .row 11 4, .row 12 5, .row 13 6] 102)],15⟩:Sy):Sy) c4H [99,106,149,210,211,220] [62] [61,154,155,156,157,158,159,184,188,189,208] Tryz.func154 rfl rfl rfl (i6.of 15 rfl (tA rfl) ⟨hR rfl,hR rfl,hR rfl,hW rfl,hW rfl,hW rfl,hW rfl,hW rfl,hW rfl,hW rfl,hW rfl,hW rfl,hW rfl,hR rfl,trivial⟩) (fun sv=> ?_) ?_
 have hm:=he175
 obtain⟨ev226,he227,hm⟩:=b8 hm
 refine O7.ofZ pok ⟨[(0, .own 14 0),(1,DI c.Night),(1000000, .own 14 0),(1000001, .agg (b9.c c)),(1000003, .own 15 0),(1000004,DB false),(1000030, .agg (a8.c x)),(1000031, .agg (b9.c c)),(1000032, .own 0 0),(1000033, .own 1 0),(1000034, .own 2 0),(1000035,DI 0),(1000036, .own 14 0),(1000037,DI 0),(1000043,DB false),(1000048,DB (c.To !=x19))], [(0, .blk (a8.c x) 30),(1, .blk (b9.c c) 42),(2, .blk [DI 0,DI 0,nS,nS,nS,nS,nS,DI 0,nS,nS,nS,nS,nS] 30),(4,rE 4 v9 d0.c 110),(5,rE 6 v10 i0.c 108),(6,rE 4 v11 c9.c 149),(7,rE 5 v12 c0.c 112),(8,rE 6 v13 d7.c 114),(9,rE 4 v14 d0.c 110),(10,rE 6 v15 i0.c 108),(11,rE 4 v16 c9.c 149),(12,rE 5 v17 c0.c 112),(13,rE 6 v18 d7.c 114),(14, .blk [DI x19,DI x20, .row 4 4, .row 5 6, .row 6 4, .row 7 5, .row 8 6,DI x21, .row 9 4, .row 10 6, .row 11 4, .row 12 5, .row 13 6] 102),(15, .blk (b9.c c) 42)],16⟩ (match ev226 with| .inl (v197,x198)=>(⟨[(0, .own 14 0),(1, .agg (b9.c c)),(3, .own 15 0),(4,DB false),(11, .tup [.elr 4 4 (x198).toNat 0,DB true]),(1000000, .agg (a8.c x)),(1000001, .agg (b9.c c)),(1000002, .own 0 0),(1000003, .own 1 0),(1000004, .own 2 0),(1000005,DI 0),(1000006, .own 14 0),(1000007,DI 0),(1000013,DB false),(1000018,DB (c.To !=x19))], [(0, .blk (a8.c x) 30),(1, .blk (b9.c c) 42),(2, .blk [DI 0,DI 0,nS,nS,nS,nS,nS,DI 0,nS,nS,nS,nS,nS] 30),(4,rE 4 v197 d0.c 110),(5,rE 6 v10 i0.c 108),(6,rE 4 v11 c9.c 149),(7,rE 5 v12 c0.c 112),(8,rE 6 v13 d7.c 114),(9,rE 4 v14 d0.c 110),(10,rE 6 v15 i0.c 108),(11,rE 4 v16 c9.c 149),(12,rE 5 v17 c0.c 112),(13,rE 6 v18 d7.c 114),(14, .blk [DI x19,DI x20, .row 4 4, .row 5 6, .row 6 4, .row 7 5, .row 8 6,DI x21, .row 9 4, .row 10 6, .row 11 4, .row 12 5, .row 13 6] 102),(15, .blk (b9.c c) 42)],16⟩:Sy)| .inr _=>(⟨[(0, .own 14 0),(1, .agg (b9.c c)),(3, .own 15 0),(4,DB false),(11, .tup [.v (.pointer none),DB false]),(1000000, .agg (a8.c x)),(1000001, .agg (b9.c c)),(1000002, .own 0 0),(1000003, .own 1 0),(1000004, .own 2 0),(1000005,DI 0),(1000006, .own 14 0),(1000007,DI 0),(1000013,DB false),(1000018,DB (c.To !=x19))], [(0, .blk (a8.c x) 30),(1, .blk (b9.c c) 42),(2, .blk [DI 0,DI 0,nS,nS,nS,nS,nS,DI 0,nS,nS,nS,nS,nS] 30),(4,rE 4 v9 d0.c 110),(5,rE 6 v10 i0.c 108),(6,rE 4 v11 c9.c 149),(7,rE 5 v12 c0.c 112),(8,rE 6 v13 d7.c 114),(9,rE 4 v14 d0.c 110),(10,rE 6 v15 i0.c 108),(11,rE 4 v16 c9.c 149),(12,rE 5 v17 c0.c 112),(13,rE 6 v18 d7.c 114),(14, .blk [DI x19,DI x20, .row 4 4, .row 5 6, .row 6 4, .row 7 5, .row 8 6,DI x21, .row 9 4, .row 10 6, .row 11 4, .row 12 5, .row 13 6] 102),(15, .blk (b9.c c) 42)],16⟩:Sy):Sy) [] [99,106,149,210,211,220] [62] [61,154,155,156,157,158,159,184,188,189,208] Tryz.func184 rfl rfl rfl (i6.of 16 rfl (tA rfl) ⟨hR rfl,hR rfl,hR rfl,hW rfl,hW rfl,hW rfl,hW rfl,hW rfl,hW rfl,hW rfl,hW rfl,hW rfl,hW rfl,hR rfl,hR rfl,trivial⟩) (fun sv=> ?_) ?_
 have hm:=he227
 obtain⟨ev249,he250,hm⟩:=b8 hm
 refine O7.ofZ pok ⟨[(0, .row 4 4),(1, .agg [DI c.Night,DI 0,DI 0,DI 0]),(2,DI 12),(3, .fn 136 [] []),(1000000, .own 14 0),(1000001,DI c.Night),(1000004, .v (.pointer none)),(1000005,DB false),(1000033, .own 14 0),(1000034, .agg (b9.c c)),(1000036, .own 15 0),(1000037,DB false),(1000063, .agg (a8.c x)),(1000064, .agg (b9.c c)),(1000065, .own 0 0),(1000066, .own 1 0),(1000067, .own 2 0),(1000068,DI 0),(1000069, .own 14 0),(1000070,DI 0),(1000076,DB false),(1000081,DB (c.To !=x19))], [(0, .blk (a8.c x) 30),(1, .blk (b9.c c) 42),(2, .blk [DI 0,DI 0,nS,nS,nS,nS,nS,DI 0,nS,nS,nS,nS,nS] 30),(4,rE 4 v9 d0.c 110),(5,rE 6 v10 i0.c 108),(6,rE 4 v11 c9.c 149),(7,rE 5 v12 c0.c 112),(8,rE 6 v13 d7.c 114),(9,rE 4 v14 d0.c 110),(10,rE 6 v15 i0.c 108),(11,rE 4 v16 c9.c 149),(12,rE 5 v17 c0.c 112),(13,rE 6 v18 d7.c 114),(14, .blk [DI x19,DI x20, .row 4 4, .row 5 6, .row 6 4, .row 7 5, .row 8 6,DI x21, .row 9 4, .row 10 6, .row 11 4, .row 12 5, .row 13 6] 102),(15, .blk (b9.c c) 42)],16⟩ (match ev249 with| .inl (v240,x241)=>(⟨[(0, .own 14 0),(1,DI c.Night),(4, .v (.pointer none)),(5,DB false),(18, .tup [.row 4 4,DI x241,DB true]),(1000000, .own 14 0),(1000001, .agg (b9.c c)),(1000003, .own 15 0),(1000004,DB false),(1000030, .agg (a8.c x)),(1000031, .agg (b9.c c)),(1000032, .own 0 0),(1000033, .own 1 0),(1000034, .own 2 0),(1000035,DI 0),(1000036, .own 14 0),(1000037,DI 0),(1000043,DB false),(1000048,DB (c.To !=x19))], [(0, .blk (a8.c x) 30),(1, .blk (b9.c c) 42),(2, .blk [DI 0,DI 0,nS,nS,nS,nS,nS,DI 0,nS,nS,nS,nS,nS] 30),(4,rE 4 v240 d0.c 110),(5,rE 6 v10 i0.c 108),(6,rE 4 v11 c9.c 149),(7,rE 5 v12 c0.c 112),(8,rE 6 v13 d7.c 114),(9,rE 4 v14 d0.c 110),(10,rE 6 v15 i0.c 108),(11,rE 4 v16 c9.c 149),(12,rE 5 v17 c0.c 112),(13,rE 6 v18 d7.c 114),(14, .blk [DI x19,DI x20, .bad, .row 5 6, .row 6 4, .row 7 5, .row 8 6,DI x21, .row 9 4, .row 10 6, .row 11 4, .row 12 5, .row 13 6] 102),(15, .blk (b9.c c) 42)],16⟩:Sy)| .inr _=>(⟨[(0, .own 14 0),(1,DI c.Night),(4, .v (.pointer none)),(5,DB false),(18, .tup [nS,DI 0,DB false]),(1000000, .own 14 0),(1000001, .agg (b9.c c)),(1000003, .own 15 0),(1000004,DB false),(1000030, .agg (a8.c x)),(1000031, .agg (b9.c c)),(1000032, .own 0 0),(1000033, .own 1 0),(1000034, .own 2 0),(1000035,DI 0),(1000036, .own 14 0),(1000037,DI 0),(1000043,DB false),(1000048,DB (c.To !=x19))], [(0, .blk (a8.c x) 30),(1, .blk (b9.c c) 42),(2, .blk [DI 0,DI 0,nS,nS,nS,nS,nS,DI 0,nS,nS,nS,nS,nS] 30),(4,rE 4 v9 d0.c 110),(5,rE 6 v10 i0.c 108),(6,rE 4 v11 c9.c 149),(7,rE 5 v12 c0.c 112),(8,rE 6 v13 d7.c 114),(9,rE 4 v14 d0.c 110),(10,rE 6 v15 i0.c 108),(11,rE 4 v16 c9.c 149),(12,rE 5 v17 c0.c 112),(13,rE 6 v18 d7.c 114),(14, .blk [DI x19,DI x20, .row 4 4, .row 5 6, .row 6 4, .row 7 5, .row 8 6,DI x21, .row 9 4, .row 10 6, .row 11 4, .row 12 5, .row 13 6] 102),(15, .blk (b9.c c) 42)],16⟩:Sy):Sy) [] [99,106,149,210,211,220] [62] [61,154,155,156,157,158,159,184,188,189,208] Tryz.func208 rfl rfl rfl (i6.of 16 rfl (tA rfl) ⟨hR rfl,hR rfl,hR rfl,hW rfl,hW rfl,hW rfl,hW rfl,hW rfl,hW rfl,hW rfl,hW rfl,hW rfl,hW rfl,hR rfl,hR rfl,trivial⟩) (fun sv=> ?_) ?_
 have hm:=he250
 refine co hm (L5 v9 ((⟨c.Night,0,0,0⟩:d0))) ?_
 rintro⟨x253,x254⟩ hm
 apply vb hm<;>intro _ hm
 cases hm
 exact i6.of 16 rfl (tA rfl) ⟨hR rfl,hR rfl,hR rfl,hW rfl,hW rfl,hW rfl,hW rfl,hW rfl,hW rfl,hW rfl,hW rfl,hW rfl,hW rfl,⟨_,rfl,⟨leD.refl _,leD.refl _,leD.refl _,leD.refl _,leD.refl _,leD.refl _,leD.refl _,leD.refl _,leD.refl _,leD.refl _,leD.refl _,leD.refl _,trivial⟩⟩,hR rfl,trivial⟩
 apply vb hm<;>intro _ hm
 cases hm
 exact i6.of 16 rfl (tA rfl) ⟨hR rfl,hR rfl,hR rfl,hW rfl,hW rfl,hW rfl,hW rfl,hW rfl,hW rfl,hW rfl,hW rfl,hW rfl,hW rfl,hR rfl,hR rfl,trivial⟩
 refine⟨([(⟨c.Night,0,0,0⟩:d0)]:List d0).flatMap d0.c,([(⟨c.Night,0,0,0⟩:d0)]:List d0).length,⟨rfl,rfl⟩, ?_⟩
 obtain⟨x258,hx259,hm⟩:=b8 hm
 refine .inl (a9O.mk ⟨_,_,_,_,_,_,_,rfl,S6 v9 x253 (([(⟨c.Night,0,0,0⟩:d0)]:List d0)) _ hx259, ?_⟩)
 cases hm
 exact i6.of 16 rfl (tA rfl) ⟨hR rfl,hR rfl,hR rfl,hW rfl,hW rfl,hW rfl,hW rfl,hW rfl,hW rfl,hW rfl,hW rfl,hW rfl,hW rfl,hR rfl,hR rfl,trivial⟩
 rcases ev249 with⟨v240,x241⟩|⟨⟩
 obtain⟨e251,hx252,hm⟩:=b8 hm
 refine⟨S7 hx252, ?_⟩
 cases hm
 exact i6.of 16 rfl (tA rfl) ⟨hR rfl,hR rfl,hR rfl,hW rfl,hW rfl,hW rfl,hW rfl,hW rfl,hW rfl,hW rfl,hW rfl,hW rfl,hW rfl,hR rfl,hR rfl,trivial⟩
 cases hm
 exact i6.of 16 rfl (tA rfl) ⟨hR rfl,hR rfl,hR rfl,hW rfl,hW rfl,hW rfl,hW rfl,hW rfl,hW rfl,hW rfl,hW rfl,hW rfl,hW rfl,hR rfl,hR rfl,trivial⟩
 rcases ev226 with⟨v197,x198⟩|⟨⟩
 refine⟨rfl, ?_⟩
 obtain⟨e228,hx229,hm⟩:=b8 hm
 refine⟨_,K0 (fun _=>rfl) hx229, ?_⟩
 apply vb hm<;>intro _ hm
 obtain⟨e231,hx232,hm⟩:=b8 hm
 refine⟨_,K0 (fun _=>rfl) hx232,_,O4 (y:=(⟨e231.Night,c.Ballot,e231.Ballot,e231.Value⟩:d0)) (fun _=>rfl) hx232, ?_⟩
 cases hm
 exact i6.of 15 rfl (tA rfl) ⟨hR rfl,hR rfl,hR rfl,hW rfl,hW rfl,hW rfl,hW rfl,hW rfl,hW rfl,hW rfl,hW rfl,hW rfl,hW rfl,hR rfl,trivial⟩
 cases hm
 exact i6.of 15 rfl (tA rfl) ⟨hR rfl,hR rfl,hR rfl,hW rfl,hW rfl,hW rfl,hW rfl,hW rfl,hW rfl,hW rfl,hW rfl,hW rfl,hW rfl,hR rfl,trivial⟩
 refine⟨rfl, ?_⟩
 cases hm
 exact i6.of 15 rfl (tA rfl) ⟨hR rfl,hR rfl,hR rfl,hW rfl,hW rfl,hW rfl,hW rfl,hW rfl,hW rfl,hW rfl,hW rfl,hW rfl,hW rfl,hR rfl,trivial⟩
 obtain⟨v89,x90⟩:=ev174
 apply vb hm<;>intro _ hm
 cases hm
 exact j1.le (⟨_,rfl,⟨⟨_,rfl,⟨leD.refl _,leD.refl _,leD.nil,leD.nil,leD.nil,leD.nil,leD.nil,leD.refl _,leD.nil,leD.nil,leD.nil,leD.nil,leD.nil,trivial⟩⟩,leD.refl _,trivial⟩⟩)
 cases hm
 exact j1.le (leD.refl _)
 replace hm:=b9B h39 hm
 cases h260:(c.Kind==2)
 rotate_left
 replace hm:=b9C h260 hm
 refine⟨⟨3,139,by kernel_rfl,by kernel_rfl⟩,155,by simp only [a6z,h39,h260], ?_⟩
 obtain⟨ev322,he323,hm⟩:=b8 hm
 refine O7.ofZ pok ⟨[(0, .own 14 0),(1, .agg (b9.c c)),(1000000, .agg (a8.c x)),(1000001, .agg (b9.c c)),(1000002, .own 0 0),(1000003, .own 1 0),(1000004, .own 2 0),(1000005,DI 0),(1000006, .own 14 0),(1000007,DI 0),(1000013,DB false),(1000018,DB (c.To !=x19))], [(0, .blk (a8.c x) 30),(1, .blk (b9.c c) 42),(2, .blk [DI 0,DI 0,nS,nS,nS,nS,nS,DI 0,nS,nS,nS,nS,nS] 30),(4,rE 4 v9 d0.c 110),(5,rE 6 v10 i0.c 108),(6,rE 4 v11 c9.c 149),(7,rE 5 v12 c0.c 112),(8,rE 6 v13 d7.c 114),(9,rE 4 v14 d0.c 110),(10,rE 6 v15 i0.c 108),(11,rE 4 v16 c9.c 149),(12,rE 5 v17 c0.c 112),(13,rE 6 v18 d7.c 114),(14, .blk [DI x19,DI x20, .row 4 4, .row 5 6, .row 6 4, .row 7 5, .row 8 6,DI x21, .row 9 4, .row 10 6, .row 11 4, .row 12 5, .row 13 6] 102)],15⟩ (match ev322 with|v291=>(⟨[(0, .agg (a8.c x)),(1, .agg (b9.c c)),(2, .own 0 0),(3, .own 1 0),(4, .own 2 0),(5,DI 0),(6, .own 14 0),(7,DI 0),(13,DB false),(18,DB (c.To !=x19)),(40,DB true)], [(0, .blk (a8.c x) 30),(1, .blk (b9.c c) 42),(2, .blk [DI 0,DI 0,nS,nS,nS,nS,nS,DI 0,nS,nS,nS,nS,nS] 30),(4,rE 4 v9 d0.c 110),(5,rE 6 v291 i0.c 108),(6,rE 4 v11 c9.c 149),(7,rE 5 v12 c0.c 112),(8,rE 6 v13 d7.c 114),(9,rE 4 v14 d0.c 110),(10,rE 6 v15 i0.c 108),(11,rE 4 v16 c9.c 149),(12,rE 5 v17 c0.c 112),(13,rE 6 v18 d7.c 114),(14, .blk [DI x19,DI x20, .row 4 4, .row 5 6, .row 6 4, .row 7 5, .row 8 6,DI x21, .row 9 4, .row 10 6, .row 11 4, .row 12 5, .row 13 6] 102)],15⟩:Sy):Sy) c5W [99,106,149,210,211,220] [62] [61,154,155,156,157,158,159,184,188,189,208] Tryz.func155 rfl rfl rfl (i6.of 15 rfl (tA rfl) ⟨hR rfl,hR rfl,hR rfl,hW rfl,hW rfl,hW rfl,hW rfl,hW rfl,hW rfl,hW rfl,hW rfl,hW rfl,hW rfl,hR rfl,trivial⟩) (fun sv=> ?_) ?_
 have hm:=he323
 refine co hm (O2 v10 c) fun x324 hm=> ?_
 apply vb hm<;>intro _ hm
 cases hm
 exact i6.of 15 rfl (tA rfl) ⟨hR rfl,hR rfl,hR rfl,hW rfl,hW rfl,hW rfl,hW rfl,hW rfl,hW rfl,hW rfl,hW rfl,hW rfl,hW rfl,hR rfl,trivial⟩
 obtain⟨e327,hx328,hm⟩:=b8 hm
 refine⟨S7 hx328, ?_⟩
 refine⟨rfl, ?_⟩
 obtain⟨e329,hx330,hm⟩:=b8 hm
 refine⟨_,K0 (fun _=>rfl) hx330, ?_⟩
 apply vb hm<;>intro _ hm
 cases hm
 exact i6.of 15 rfl (tA rfl) ⟨hR rfl,hR rfl,hR rfl,hW rfl,hW rfl,hW rfl,hW rfl,hW rfl,hW rfl,hW rfl,hW rfl,hW rfl,hW rfl,hR rfl,trivial⟩
 obtain⟨e332,hx333,hm⟩:=b8 hm
 refine⟨_,K0 (fun _=>rfl) hx333, ?_⟩
 refine cy hm (a8k e332.Mask c.From) fun x334 hm=> ?_
 apply vb hm<;>intro _ hm
 cases hm
 exact i6.of 15 rfl (tA rfl) ⟨hR rfl,hR rfl,hR rfl,hW rfl,hW rfl,hW rfl,hW rfl,hW rfl,hW rfl,hW rfl,hW rfl,hW rfl,hW rfl,hR rfl,trivial⟩
 refine⟨rfl, ?_⟩
 obtain⟨e337,hx338,hm⟩:=b8 hm
 refine⟨_,K0 (fun _=>rfl) hx338, ?_⟩
 refine cy hm (a3F e337.Mask c.From) fun x339 hm=> ?_
 refine cy hm (a0B x339) fun x341 hm=> ?_
 obtain⟨e343,hx344,hm⟩:=b8 hm
 refine⟨_,K0 (fun _=>rfl) hx344,_,O4 (y:=(⟨e343.Night,e343.Ballot,e343.Value,e343.Best,x339,e343.Asked⟩:i0)) (fun _=>rfl) hx344, ?_⟩
 obtain⟨e345,hx346,hm⟩:=b8 hm
 refine⟨_,a5o (fun _=>rfl) hx346 (by first|rfl|simp only [List.length_set]),_,O4 (y:=(⟨e345.Night,e345.Ballot,e345.Value,e345.Best,e345.Mask,x341⟩:i0)) (fun _=>rfl) hx346, ?_⟩
 refine⟨rfl, ?_⟩
 obtain⟨e347,hx348,hm⟩:=b8 hm
 refine⟨_,a5o (fun _=>rfl) hx348 (by first|rfl|simp only [List.length_set]), ?_⟩
 apply vb hm<;>intro _ hm
 refine⟨rfl, ?_⟩
 obtain⟨e350,hx351,hm⟩:=b8 hm
 refine⟨_,a5o (fun _=>rfl) hx351 (by first|rfl|simp only [List.length_set]),_,O4 (y:=(⟨e350.Night,e350.Ballot,e350.Value,c.Best,e350.Mask,e350.Asked⟩:i0)) (fun _=>rfl) hx351, ?_⟩
 obtain⟨e352,hx353,hm⟩:=b8 hm
 refine⟨_,a5o (fun _=>rfl) hx353 (by first|rfl|simp only [List.length_set]),_,O4 (y:=(⟨e352.Night,e352.Ballot,c.Value,e352.Best,e352.Mask,e352.Asked⟩:i0)) (fun _=>rfl) hx353, ?_⟩
 cases hm
 exact i6.of 15 rfl (tA rfl) ⟨hR rfl,hR rfl,hR rfl,hW rfl,hW rfl,hW rfl,hW rfl,hW rfl,hW rfl,hW rfl,hW rfl,hW rfl,hW rfl,hR rfl,trivial⟩
 cases hm
 exact i6.of 15 rfl (tA rfl) ⟨hR rfl,hR rfl,hR rfl,hW rfl,hW rfl,hW rfl,hW rfl,hW rfl,hW rfl,hW rfl,hW rfl,hW rfl,hW rfl,hR rfl,trivial⟩
 obtain v291:=ev322
 cases hm
 exact j1.le (leD.refl _)
 replace hm:=b9B h260 hm
 cases h354:(c.Kind==3)
 rotate_left
 replace hm:=b9C h354 hm
 refine⟨⟨3,139,by kernel_rfl,by kernel_rfl⟩,156,by simp only [a6z,h39,h260,h354], ?_⟩
 obtain⟨ev497,he498,hm⟩:=b8 hm
 refine O7.ofZ pok ⟨[(0, .own 14 0),(1, .agg (b9.c c)),(1000000, .agg (a8.c x)),(1000001, .agg (b9.c c)),(1000002, .own 0 0),(1000003, .own 1 0),(1000004, .own 2 0),(1000005,DI 0),(1000006, .own 14 0),(1000007,DI 0),(1000013,DB false),(1000018,DB (c.To !=x19))], [(0, .blk (a8.c x) 30),(1, .blk (b9.c c) 42),(2, .blk [DI 0,DI 0,nS,nS,nS,nS,nS,DI 0,nS,nS,nS,nS,nS] 30),(4,rE 4 v9 d0.c 110),(5,rE 6 v10 i0.c 108),(6,rE 4 v11 c9.c 149),(7,rE 5 v12 c0.c 112),(8,rE 6 v13 d7.c 114),(9,rE 4 v14 d0.c 110),(10,rE 6 v15 i0.c 108),(11,rE 4 v16 c9.c 149),(12,rE 5 v17 c0.c 112),(13,rE 6 v18 d7.c 114),(14, .blk [DI x19,DI x20, .row 4 4, .row 5 6, .row 6 4, .row 7 5, .row 8 6,DI x21, .row 9 4, .row 10 6, .row 11 4, .row 12 5, .row 13 6] 102)],15⟩ (match ev497 with|(v408,x409)=>(⟨[(0, .agg (a8.c x)),(1, .agg (b9.c c)),(2, .own 0 0),(3, .own 1 0),(4, .own 2 0),(5,DI 0),(6, .own 14 0),(7,DI 0),(13,DB false),(18,DB (c.To !=x19)),(40,DB x409)], [(0, .blk (a8.c x) 30),(1, .blk (b9.c c) 42),(2, .blk [DI 0,DI 0,nS,nS,nS,nS,nS,DI 0,nS,nS,nS,nS,nS] 30),(4,rE 4 v408 d0.c 110),(5,rE 6 v10 i0.c 108),(6,rE 4 v11 c9.c 149),(7,rE 5 v12 c0.c 112),(8,rE 6 v13 d7.c 114),(9,rE 4 v14 d0.c 110),(10,rE 6 v15 i0.c 108),(11,rE 4 v16 c9.c 149),(12,rE 5 v17 c0.c 112),(13,rE 6 v18 d7.c 114),(14, .blk [DI x19,DI x20, .row 4 4, .row 5 6, .row 6 4, .row 7 5, .row 8 6,DI x21, .row 9 4, .row 10 6, .row 11 4, .row 12 5, .row 13 6] 102)],15⟩:Sy):Sy) c5t [99,106,149,210,211,220] [62] [61,154,155,156,157,158,159,184,188,189,208] Tryz.func156 rfl rfl rfl (i6.of 15 rfl (tA rfl) ⟨hR rfl,hR rfl,hR rfl,hW rfl,hW rfl,hW rfl,hW rfl,hW rfl,hW rfl,hW rfl,hW rfl,hW rfl,hW rfl,hR rfl,trivial⟩) (fun sv=> ?_) ?_
 have hm:=he498
 obtain⟨ev549,he550,hm⟩:=b8 hm
 refine O7.ofZ pok ⟨[(0, .own 14 0),(1,DI c.Night),(1000000, .own 14 0),(1000001, .agg (b9.c c)),(1000003, .own 15 0),(1000004,DB false),(1000040, .agg (a8.c x)),(1000041, .agg (b9.c c)),(1000042, .own 0 0),(1000043, .own 1 0),(1000044, .own 2 0),(1000045,DI 0),(1000046, .own 14 0),(1000047,DI 0),(1000053,DB false),(1000058,DB (c.To !=x19))], [(0, .blk (a8.c x) 30),(1, .blk (b9.c c) 42),(2, .blk [DI 0,DI 0,nS,nS,nS,nS,nS,DI 0,nS,nS,nS,nS,nS] 30),(4,rE 4 v9 d0.c 110),(5,rE 6 v10 i0.c 108),(6,rE 4 v11 c9.c 149),(7,rE 5 v12 c0.c 112),(8,rE 6 v13 d7.c 114),(9,rE 4 v14 d0.c 110),(10,rE 6 v15 i0.c 108),(11,rE 4 v16 c9.c 149),(12,rE 5 v17 c0.c 112),(13,rE 6 v18 d7.c 114),(14, .blk [DI x19,DI x20, .row 4 4, .row 5 6, .row 6 4, .row 7 5, .row 8 6,DI x21, .row 9 4, .row 10 6, .row 11 4, .row 12 5, .row 13 6] 102),(15, .blk (b9.c c) 42)],16⟩ (match ev549 with| .inl (v520,x521)=>(⟨[(0, .own 14 0),(1, .agg (b9.c c)),(3, .own 15 0),(4,DB false),(11, .tup [.elr 4 4 (x521).toNat 0,DB true]),(1000000, .agg (a8.c x)),(1000001, .agg (b9.c c)),(1000002, .own 0 0),(1000003, .own 1 0),(1000004, .own 2 0),(1000005,DI 0),(1000006, .own 14 0),(1000007,DI 0),(1000013,DB false),(1000018,DB (c.To !=x19))], [(0, .blk (a8.c x) 30),(1, .blk (b9.c c) 42),(2, .blk [DI 0,DI 0,nS,nS,nS,nS,nS,DI 0,nS,nS,nS,nS,nS] 30),(4,rE 4 v520 d0.c 110),(5,rE 6 v10 i0.c 108),(6,rE 4 v11 c9.c 149),(7,rE 5 v12 c0.c 112),(8,rE 6 v13 d7.c 114),(9,rE 4 v14 d0.c 110),(10,rE 6 v15 i0.c 108),(11,rE 4 v16 c9.c 149),(12,rE 5 v17 c0.c 112),(13,rE 6 v18 d7.c 114),(14, .blk [DI x19,DI x20, .row 4 4, .row 5 6, .row 6 4, .row 7 5, .row 8 6,DI x21, .row 9 4, .row 10 6, .row 11 4, .row 12 5, .row 13 6] 102),(15, .blk (b9.c c) 42)],16⟩:Sy)| .inr _=>(⟨[(0, .own 14 0),(1, .agg (b9.c c)),(3, .own 15 0),(4,DB false),(11, .tup [.v (.pointer none),DB false]),(1000000, .agg (a8.c x)),(1000001, .agg (b9.c c)),(1000002, .own 0 0),(1000003, .own 1 0),(1000004, .own 2 0),(1000005,DI 0),(1000006, .own 14 0),(1000007,DI 0),(1000013,DB false),(1000018,DB (c.To !=x19))], [(0, .blk (a8.c x) 30),(1, .blk (b9.c c) 42),(2, .blk [DI 0,DI 0,nS,nS,nS,nS,nS,DI 0,nS,nS,nS,nS,nS] 30),(4,rE 4 v9 d0.c 110),(5,rE 6 v10 i0.c 108),(6,rE 4 v11 c9.c 149),(7,rE 5 v12 c0.c 112),(8,rE 6 v13 d7.c 114),(9,rE 4 v14 d0.c 110),(10,rE 6 v15 i0.c 108),(11,rE 4 v16 c9.c 149),(12,rE 5 v17 c0.c 112),(13,rE 6 v18 d7.c 114),(14, .blk [DI x19,DI x20, .row 4 4, .row 5 6, .row 6 4, .row 7 5, .row 8 6,DI x21, .row 9 4, .row 10 6, .row 11 4, .row 12 5, .row 13 6] 102),(15, .blk (b9.c c) 42)],16⟩:Sy):Sy) [] [99,106,149,210,211,220] [62] [61,154,155,156,157,158,159,184,188,189,208] Tryz.func184 rfl rfl rfl (i6.of 16 rfl (tA rfl) ⟨hR rfl,hR rfl,hR rfl,hW rfl,hW rfl,hW rfl,hW rfl,hW rfl,hW rfl,hW rfl,hW rfl,hW rfl,hW rfl,hR rfl,hR rfl,trivial⟩) (fun sv=> ?_) ?_
 have hm:=he550
 obtain⟨ev576,he577,hm⟩:=b8 hm
 refine O7.ofZ pok ⟨[(0, .row 4 4),(1, .agg [DI c.Night,DI 0,DI 0,DI 0]),(2,DI 12),(3, .fn 136 [] []),(1000000, .own 14 0),(1000001,DI c.Night),(1000004, .v (.pointer none)),(1000005,DB false),(1000033, .own 14 0),(1000034, .agg (b9.c c)),(1000036, .own 15 0),(1000037,DB false),(1000073, .agg (a8.c x)),(1000074, .agg (b9.c c)),(1000075, .own 0 0),(1000076, .own 1 0),(1000077, .own 2 0),(1000078,DI 0),(1000079, .own 14 0),(1000080,DI 0),(1000086,DB false),(1000091,DB (c.To !=x19))], [(0, .blk (a8.c x) 30),(1, .blk (b9.c c) 42),(2, .blk [DI 0,DI 0,nS,nS,nS,nS,nS,DI 0,nS,nS,nS,nS,nS] 30),(4,rE 4 v9 d0.c 110),(5,rE 6 v10 i0.c 108),(6,rE 4 v11 c9.c 149),(7,rE 5 v12 c0.c 112),(8,rE 6 v13 d7.c 114),(9,rE 4 v14 d0.c 110),(10,rE 6 v15 i0.c 108),(11,rE 4 v16 c9.c 149),(12,rE 5 v17 c0.c 112),(13,rE 6 v18 d7.c 114),(14, .blk [DI x19,DI x20, .row 4 4, .row 5 6, .row 6 4, .row 7 5, .row 8 6,DI x21, .row 9 4, .row 10 6, .row 11 4, .row 12 5, .row 13 6] 102),(15, .blk (b9.c c) 42)],16⟩ (match ev576 with| .inl (v567,x568)=>(⟨[(0, .own 14 0),(1,DI c.Night),(4, .v (.pointer none)),(5,DB false),(18, .tup [.row 4 4,DI x568,DB true]),(1000000, .own 14 0),(1000001, .agg (b9.c c)),(1000003, .own 15 0),(1000004,DB false),(1000040, .agg (a8.c x)),(1000041, .agg (b9.c c)),(1000042, .own 0 0),(1000043, .own 1 0),(1000044, .own 2 0),(1000045,DI 0),(1000046, .own 14 0),(1000047,DI 0),(1000053,DB false),(1000058,DB (c.To !=x19))], [(0, .blk (a8.c x) 30),(1, .blk (b9.c c) 42),(2, .blk [DI 0,DI 0,nS,nS,nS,nS,nS,DI 0,nS,nS,nS,nS,nS] 30),(4,rE 4 v567 d0.c 110),(5,rE 6 v10 i0.c 108),(6,rE 4 v11 c9.c 149),(7,rE 5 v12 c0.c 112),(8,rE 6 v13 d7.c 114),(9,rE 4 v14 d0.c 110),(10,rE 6 v15 i0.c 108),(11,rE 4 v16 c9.c 149),(12,rE 5 v17 c0.c 112),(13,rE 6 v18 d7.c 114),(14, .blk [DI x19,DI x20, .bad, .row 5 6, .row 6 4, .row 7 5, .row 8 6,DI x21, .row 9 4, .row 10 6, .row 11 4, .row 12 5, .row 13 6] 102),(15, .blk (b9.c c) 42)],16⟩:Sy)| .inr _=>(⟨[(0, .own 14 0),(1,DI c.Night),(4, .v (.pointer none)),(5,DB false),(18, .tup [nS,DI 0,DB false]),(1000000, .own 14 0),(1000001, .agg (b9.c c)),(1000003, .own 15 0),(1000004,DB false),(1000040, .agg (a8.c x)),(1000041, .agg (b9.c c)),(1000042, .own 0 0),(1000043, .own 1 0),(1000044, .own 2 0),(1000045,DI 0),(1000046, .own 14 0),(1000047,DI 0),(1000053,DB false),(1000058,DB (c.To !=x19))], [(0, .blk (a8.c x) 30),(1, .blk (b9.c c) 42),(2, .blk [DI 0,DI 0,nS,nS,nS,nS,nS,DI 0,nS,nS,nS,nS,nS] 30),(4,rE 4 v9 d0.c 110),(5,rE 6 v10 i0.c 108),(6,rE 4 v11 c9.c 149),(7,rE 5 v12 c0.c 112),(8,rE 6 v13 d7.c 114),(9,rE 4 v14 d0.c 110),(10,rE 6 v15 i0.c 108),(11,rE 4 v16 c9.c 149),(12,rE 5 v17 c0.c 112),(13,rE 6 v18 d7.c 114),(14, .blk [DI x19,DI x20, .row 4 4, .row 5 6, .row 6 4, .row 7 5, .row 8 6,DI x21, .row 9 4, .row 10 6, .row 11 4, .row 12 5, .row 13 6] 102),(15, .blk (b9.c c) 42)],16⟩:Sy):Sy) [] [99,106,149,210,211,220] [62] [61,154,155,156,157,158,159,184,188,189,208] Tryz.func208 rfl rfl rfl (i6.of 16 rfl (tA rfl) ⟨hR rfl,hR rfl,hR rfl,hW rfl,hW rfl,hW rfl,hW rfl,hW rfl,hW rfl,hW rfl,hW rfl,hW rfl,hW rfl,hR rfl,hR rfl,trivial⟩) (fun sv=> ?_) ?_
 have hm:=he577
 refine co hm (L5 v9 ((⟨c.Night,0,0,0⟩:d0))) ?_
 rintro⟨x580,x581⟩ hm
 apply vb hm<;>intro _ hm
 cases hm
 exact i6.of 16 rfl (tA rfl) ⟨hR rfl,hR rfl,hR rfl,hW rfl,hW rfl,hW rfl,hW rfl,hW rfl,hW rfl,hW rfl,hW rfl,hW rfl,hW rfl,⟨_,rfl,⟨leD.refl _,leD.refl _,leD.refl _,leD.refl _,leD.refl _,leD.refl _,leD.refl _,leD.refl _,leD.refl _,leD.refl _,leD.refl _,leD.refl _,trivial⟩⟩,hR rfl,trivial⟩
 apply vb hm<;>intro _ hm
 cases hm
 exact i6.of 16 rfl (tA rfl) ⟨hR rfl,hR rfl,hR rfl,hW rfl,hW rfl,hW rfl,hW rfl,hW rfl,hW rfl,hW rfl,hW rfl,hW rfl,hW rfl,hR rfl,hR rfl,trivial⟩
 refine⟨([(⟨c.Night,0,0,0⟩:d0)]:List d0).flatMap d0.c,([(⟨c.Night,0,0,0⟩:d0)]:List d0).length,⟨rfl,rfl⟩, ?_⟩
 obtain⟨x585,hx586,hm⟩:=b8 hm
 refine .inl (a9O.mk ⟨_,_,_,_,_,_,_,rfl,S6 v9 x580 (([(⟨c.Night,0,0,0⟩:d0)]:List d0)) _ hx586, ?_⟩)
 cases hm
 exact i6.of 16 rfl (tA rfl) ⟨hR rfl,hR rfl,hR rfl,hW rfl,hW rfl,hW rfl,hW rfl,hW rfl,hW rfl,hW rfl,hW rfl,hW rfl,hW rfl,hR rfl,hR rfl,trivial⟩
 rcases ev576 with⟨v567,x568⟩|⟨⟩
 obtain⟨e578,hx579,hm⟩:=b8 hm
 refine⟨S7 hx579, ?_⟩
 cases hm
 exact i6.of 16 rfl (tA rfl) ⟨hR rfl,hR rfl,hR rfl,hW rfl,hW rfl,hW rfl,hW rfl,hW rfl,hW rfl,hW rfl,hW rfl,hW rfl,hW rfl,hR rfl,hR rfl,trivial⟩
 cases hm
 exact i6.of 16 rfl (tA rfl) ⟨hR rfl,hR rfl,hR rfl,hW rfl,hW rfl,hW rfl,hW rfl,hW rfl,hW rfl,hW rfl,hW rfl,hW rfl,hW rfl,hR rfl,hR rfl,trivial⟩
 rcases ev549 with⟨v520,x521⟩|⟨⟩
 refine⟨rfl, ?_⟩
 obtain⟨e551,hx552,hm⟩:=b8 hm
 refine⟨_,K0 (fun _=>rfl) hx552, ?_⟩
 apply vb hm<;>intro _ hm
 refine⟨rfl, ?_⟩
 obtain⟨e554,hx555,hm⟩:=b8 hm
 refine⟨_,K0 (fun _=>rfl) hx555,_,O4 (y:=(⟨e554.Night,c.Ballot,e554.Ballot,e554.Value⟩:d0)) (fun _=>rfl) hx555, ?_⟩
 obtain⟨e556,hx557,hm⟩:=b8 hm
 refine⟨_,a5o (fun _=>rfl) hx557 (by first|rfl|simp only [List.length_set]),_,O4 (y:=(⟨e556.Night,e556.Promised,c.Ballot,e556.Value⟩:d0)) (fun _=>rfl) hx557, ?_⟩
 obtain⟨e558,hx559,hm⟩:=b8 hm
 refine⟨_,a5o (fun _=>rfl) hx559 (by first|rfl|simp only [List.length_set]),_,O4 (y:=(⟨e558.Night,e558.Promised,e558.Ballot,c.Value⟩:d0)) (fun _=>rfl) hx559, ?_⟩
 cases hm
 exact i6.of 15 rfl (tA rfl) ⟨hR rfl,hR rfl,hR rfl,hW rfl,hW rfl,hW rfl,hW rfl,hW rfl,hW rfl,hW rfl,hW rfl,hW rfl,hW rfl,hR rfl,trivial⟩
 cases hm
 exact i6.of 15 rfl (tA rfl) ⟨hR rfl,hR rfl,hR rfl,hW rfl,hW rfl,hW rfl,hW rfl,hW rfl,hW rfl,hW rfl,hW rfl,hW rfl,hW rfl,hR rfl,trivial⟩
 refine⟨rfl, ?_⟩
 cases hm
 exact i6.of 15 rfl (tA rfl) ⟨hR rfl,hR rfl,hR rfl,hW rfl,hW rfl,hW rfl,hW rfl,hW rfl,hW rfl,hW rfl,hW rfl,hW rfl,hW rfl,hR rfl,trivial⟩
 obtain⟨v408,x409⟩:=ev497
 apply vb hm<;>intro _ hm
 cases hm
 exact j1.le (⟨_,rfl,⟨⟨_,rfl,⟨leD.refl _,leD.refl _,leD.nil,leD.nil,leD.nil,leD.nil,leD.nil,leD.refl _,leD.nil,leD.nil,leD.nil,leD.nil,leD.nil,trivial⟩⟩,leD.refl _,trivial⟩⟩)
 cases hm
 exact j1.le (leD.refl _)
 replace hm:=b9B h354 hm
 cases h587:(c.Kind==4)
 rotate_left
 replace hm:=b9C h587 hm
 refine⟨⟨3,139,by kernel_rfl,by kernel_rfl⟩,157,by simp only [a6z,h39,h260,h354,h587], ?_⟩
 obtain⟨ev663,he664,hm⟩:=b8 hm
 refine O7.ofZ pok ⟨[(0, .own 14 0),(1, .agg (b9.c c)),(1000000, .agg (a8.c x)),(1000001, .agg (b9.c c)),(1000002, .own 0 0),(1000003, .own 1 0),(1000004, .own 2 0),(1000005,DI 0),(1000006, .own 14 0),(1000007,DI 0),(1000013,DB false),(1000018,DB (c.To !=x19))], [(0, .blk (a8.c x) 30),(1, .blk (b9.c c) 42),(2, .blk [DI 0,DI 0,nS,nS,nS,nS,nS,DI 0,nS,nS,nS,nS,nS] 30),(4,rE 4 v9 d0.c 110),(5,rE 6 v10 i0.c 108),(6,rE 4 v11 c9.c 149),(7,rE 5 v12 c0.c 112),(8,rE 6 v13 d7.c 114),(9,rE 4 v14 d0.c 110),(10,rE 6 v15 i0.c 108),(11,rE 4 v16 c9.c 149),(12,rE 5 v17 c0.c 112),(13,rE 6 v18 d7.c 114),(14, .blk [DI x19,DI x20, .row 4 4, .row 5 6, .row 6 4, .row 7 5, .row 8 6,DI x21, .row 9 4, .row 10 6, .row 11 4, .row 12 5, .row 13 6] 102)],15⟩ (match ev663 with|(v621,x622)=>(⟨[(0, .agg (a8.c x)),(1, .agg (b9.c c)),(2, .own 0 0),(3, .own 1 0),(4, .own 2 0),(5,DI 0),(6, .own 14 0),(7,DI 0),(13,DB false),(18,DB (c.To !=x19)),(40,DB x622)], [(0, .blk (a8.c x) 30),(1, .blk (b9.c c) 42),(2, .blk [DI 0,DI 0,nS,nS,nS,nS,nS,DI 0,nS,nS,nS,nS,nS] 30),(4,rE 4 v9 d0.c 110),(5,rE 6 v10 i0.c 108),(6,rE 4 v621 c9.c 149),(7,rE 5 v12 c0.c 112),(8,rE 6 v13 d7.c 114),(9,rE 4 v14 d0.c 110),(10,rE 6 v15 i0.c 108),(11,rE 4 v16 c9.c 149),(12,rE 5 v17 c0.c 112),(13,rE 6 v18 d7.c 114),(14, .blk [DI x19,DI x20, .row 4 4, .row 5 6, .row 6 4, .row 7 5, .row 8 6,DI x21, .row 9 4, .row 10 6, .row 11 4, .row 12 5, .row 13 6] 102)],15⟩:Sy):Sy) c4A [99,106,149,210,211,220] [62] [61,154,155,156,157,158,159,184,188,189,208] Tryz.func157 rfl rfl rfl (i6.of 15 rfl (tA rfl) ⟨hR rfl,hR rfl,hR rfl,hW rfl,hW rfl,hW rfl,hW rfl,hW rfl,hW rfl,hW rfl,hW rfl,hW rfl,hW rfl,hR rfl,trivial⟩) (fun sv=> ?_) ?_
 have hm:=he664
 refine⟨rfl, ?_⟩
 obtain⟨ev682,he683,hm⟩:=b8 hm
 refine O7.ofZ pok ⟨[(0, .row 6 4),(1, .agg [DI c.Night,DI c.Ballot,DI c.Value,DI 0]),(2,DI 60),(3, .fn 139 [] []),(1000000, .own 14 0),(1000001, .agg (b9.c c)),(1000003, .own 15 0),(1000004,DB false),(1000054, .agg (a8.c x)),(1000055, .agg (b9.c c)),(1000056, .own 0 0),(1000057, .own 1 0),(1000058, .own 2 0),(1000059,DI 0),(1000060, .own 14 0),(1000061,DI 0),(1000067,DB false),(1000072,DB (c.To !=x19))], [(0, .blk (a8.c x) 30),(1, .blk (b9.c c) 42),(2, .blk [DI 0,DI 0,nS,nS,nS,nS,nS,DI 0,nS,nS,nS,nS,nS] 30),(4,rE 4 v9 d0.c 110),(5,rE 6 v10 i0.c 108),(6,rE 4 v11 c9.c 149),(7,rE 5 v12 c0.c 112),(8,rE 6 v13 d7.c 114),(9,rE 4 v14 d0.c 110),(10,rE 6 v15 i0.c 108),(11,rE 4 v16 c9.c 149),(12,rE 5 v17 c0.c 112),(13,rE 6 v18 d7.c 114),(14, .blk [DI x19,DI x20, .row 4 4, .row 5 6, .row 6 4, .row 7 5, .row 8 6,DI x21, .row 9 4, .row 10 6, .row 11 4, .row 12 5, .row 13 6] 102),(15, .blk (b9.c c) 42)],16⟩ (match ev682 with| .inl (v673,x674)=>(⟨[(0, .own 14 0),(1, .agg (b9.c c)),(3, .own 15 0),(4,DB false),(22, .tup [.row 6 4,DI x674,DB true]),(1000000, .agg (a8.c x)),(1000001, .agg (b9.c c)),(1000002, .own 0 0),(1000003, .own 1 0),(1000004, .own 2 0),(1000005,DI 0),(1000006, .own 14 0),(1000007,DI 0),(1000013,DB false),(1000018,DB (c.To !=x19))], [(0, .blk (a8.c x) 30),(1, .blk (b9.c c) 42),(2, .blk [DI 0,DI 0,nS,nS,nS,nS,nS,DI 0,nS,nS,nS,nS,nS] 30),(4,rE 4 v9 d0.c 110),(5,rE 6 v10 i0.c 108),(6,rE 4 v673 c9.c 149),(7,rE 5 v12 c0.c 112),(8,rE 6 v13 d7.c 114),(9,rE 4 v14 d0.c 110),(10,rE 6 v15 i0.c 108),(11,rE 4 v16 c9.c 149),(12,rE 5 v17 c0.c 112),(13,rE 6 v18 d7.c 114),(14, .blk [DI x19,DI x20, .row 4 4, .row 5 6, .bad, .row 7 5, .row 8 6,DI x21, .row 9 4, .row 10 6, .row 11 4, .row 12 5, .row 13 6] 102),(15, .blk (b9.c c) 42)],16⟩:Sy)| .inr _=>(⟨[(0, .own 14 0),(1, .agg (b9.c c)),(3, .own 15 0),(4,DB false),(22, .tup [nS,DI 0,DB false]),(1000000, .agg (a8.c x)),(1000001, .agg (b9.c c)),(1000002, .own 0 0),(1000003, .own 1 0),(1000004, .own 2 0),(1000005,DI 0),(1000006, .own 14 0),(1000007,DI 0),(1000013,DB false),(1000018,DB (c.To !=x19))], [(0, .blk (a8.c x) 30),(1, .blk (b9.c c) 42),(2, .blk [DI 0,DI 0,nS,nS,nS,nS,nS,DI 0,nS,nS,nS,nS,nS] 30),(4,rE 4 v9 d0.c 110),(5,rE 6 v10 i0.c 108),(6,rE 4 v11 c9.c 149),(7,rE 5 v12 c0.c 112),(8,rE 6 v13 d7.c 114),(9,rE 4 v14 d0.c 110),(10,rE 6 v15 i0.c 108),(11,rE 4 v16 c9.c 149),(12,rE 5 v17 c0.c 112),(13,rE 6 v18 d7.c 114),(14, .blk [DI x19,DI x20, .row 4 4, .row 5 6, .row 6 4, .row 7 5, .row 8 6,DI x21, .row 9 4, .row 10 6, .row 11 4, .row 12 5, .row 13 6] 102),(15, .blk (b9.c c) 42)],16⟩:Sy):Sy) [] [99,106,149,210,211,220] [62] [61,154,155,156,157,158,159,184,188,189,208] Tryz.func188 rfl rfl rfl (i6.of 16 rfl (tA rfl) ⟨hR rfl,hR rfl,hR rfl,hW rfl,hW rfl,hW rfl,hW rfl,hW rfl,hW rfl,hW rfl,hW rfl,hW rfl,hW rfl,hR rfl,hR rfl,trivial⟩) (fun sv=> ?_) ?_
 have hm:=he683
 refine co hm (W7 v11 ((⟨c.Night,c.Ballot,c.Value,0⟩:c9))) ?_
 rintro⟨x699,x700⟩ hm
 apply vb hm<;>intro _ hm
 cases hm
 exact i6.of 16 rfl (tA rfl) ⟨hR rfl,hR rfl,hR rfl,hW rfl,hW rfl,hW rfl,hW rfl,hW rfl,hW rfl,hW rfl,hW rfl,hW rfl,hW rfl,⟨_,rfl,⟨leD.refl _,leD.refl _,leD.refl _,leD.refl _,leD.refl _,leD.refl _,leD.refl _,leD.refl _,leD.refl _,leD.refl _,leD.refl _,leD.refl _,trivial⟩⟩,hR rfl,trivial⟩
 apply vb hm<;>intro _ hm
 cases hm
 exact i6.of 16 rfl (tA rfl) ⟨hR rfl,hR rfl,hR rfl,hW rfl,hW rfl,hW rfl,hW rfl,hW rfl,hW rfl,hW rfl,hW rfl,hW rfl,hW rfl,hR rfl,hR rfl,trivial⟩
 refine⟨([(⟨c.Night,c.Ballot,c.Value,0⟩:c9)]:List c9).flatMap c9.c,([(⟨c.Night,c.Ballot,c.Value,0⟩:c9)]:List c9).length,⟨rfl,rfl⟩, ?_⟩
 obtain⟨x704,hx705,hm⟩:=b8 hm
 refine .inl (a9O.mk ⟨_,_,_,_,_,_,_,rfl,a1d v11 x699 (([(⟨c.Night,c.Ballot,c.Value,0⟩:c9)]:List c9)) _ hx705, ?_⟩)
 cases hm
 exact i6.of 16 rfl (tA rfl) ⟨hR rfl,hR rfl,hR rfl,hW rfl,hW rfl,hW rfl,hW rfl,hW rfl,hW rfl,hW rfl,hW rfl,hW rfl,hW rfl,hR rfl,hR rfl,trivial⟩
 rcases ev682 with⟨v673,x674⟩|⟨⟩
 refine⟨rfl, ?_⟩
 obtain⟨e684,hx685,hm⟩:=b8 hm
 refine⟨S7 hx685, ?_⟩
 obtain⟨e686,hx687,hm⟩:=b8 hm
 refine⟨_,K0 (fun _=>rfl) hx687, ?_⟩
 apply vb hm<;>intro _ hm
 refine⟨rfl, ?_⟩
 obtain⟨e689,hx690,hm⟩:=b8 hm
 refine⟨S7 hx690, ?_⟩
 obtain⟨e691,hx692,hm⟩:=b8 hm
 refine⟨_,K0 (fun _=>rfl) hx692, ?_⟩
 refine cy hm (a3F e691.Mask c.From) fun x693 hm=> ?_
 obtain⟨e695,hx696,hm⟩:=b8 hm
 refine⟨S7 hx696, ?_⟩
 obtain⟨e697,hx698,hm⟩:=b8 hm
 refine⟨_,K0 (fun _=>rfl) hx698,_,O4 (y:=(⟨e697.Night,e697.Ballot,e697.Value,x693⟩:c9)) (fun _=>rfl) hx698, ?_⟩
 cases hm
 exact i6.of 15 rfl (tA rfl) ⟨hR rfl,hR rfl,hR rfl,hW rfl,hW rfl,hW rfl,hW rfl,hW rfl,hW rfl,hW rfl,hW rfl,hW rfl,hW rfl,hR rfl,trivial⟩
 cases hm
 exact i6.of 15 rfl (tA rfl) ⟨hR rfl,hR rfl,hR rfl,hW rfl,hW rfl,hW rfl,hW rfl,hW rfl,hW rfl,hW rfl,hW rfl,hW rfl,hW rfl,hR rfl,trivial⟩
 cases hm
 exact i6.of 15 rfl (tA rfl) ⟨hR rfl,hR rfl,hR rfl,hW rfl,hW rfl,hW rfl,hW rfl,hW rfl,hW rfl,hW rfl,hW rfl,hW rfl,hW rfl,hR rfl,trivial⟩
 obtain⟨v621,x622⟩:=ev663
 apply vb hm<;>intro _ hm
 cases hm
 exact j1.le (⟨_,rfl,⟨⟨_,rfl,⟨leD.refl _,leD.refl _,leD.nil,leD.nil,leD.nil,leD.nil,leD.nil,leD.refl _,leD.nil,leD.nil,leD.nil,leD.nil,leD.nil,trivial⟩⟩,leD.refl _,trivial⟩⟩)
 cases hm
 exact j1.le (leD.refl _)
 replace hm:=b9B h587 hm
 cases h706:(c.Kind==5)
 rotate_left
 replace hm:=b9C h706 hm
 refine⟨⟨3,139,by kernel_rfl,by kernel_rfl⟩,158,by simp only [a6z,h39,h260,h354,h587,h706], ?_⟩
 obtain⟨ev752,he753,hm⟩:=b8 hm
 refine O7.ofZ pok ⟨[(0, .own 14 0),(1, .agg (b9.c c)),(1000000, .agg (a8.c x)),(1000001, .agg (b9.c c)),(1000002, .own 0 0),(1000003, .own 1 0),(1000004, .own 2 0),(1000005,DI 0),(1000006, .own 14 0),(1000007,DI 0),(1000013,DB false),(1000018,DB (c.To !=x19))], [(0, .blk (a8.c x) 30),(1, .blk (b9.c c) 42),(2, .blk [DI 0,DI 0,nS,nS,nS,nS,nS,DI 0,nS,nS,nS,nS,nS] 30),(4,rE 4 v9 d0.c 110),(5,rE 6 v10 i0.c 108),(6,rE 4 v11 c9.c 149),(7,rE 5 v12 c0.c 112),(8,rE 6 v13 d7.c 114),(9,rE 4 v14 d0.c 110),(10,rE 6 v15 i0.c 108),(11,rE 4 v16 c9.c 149),(12,rE 5 v17 c0.c 112),(13,rE 6 v18 d7.c 114),(14, .blk [DI x19,DI x20, .row 4 4, .row 5 6, .row 6 4, .row 7 5, .row 8 6,DI x21, .row 9 4, .row 10 6, .row 11 4, .row 12 5, .row 13 6] 102)],15⟩ (match ev752 with|(v725,x726)=>(⟨[(0, .agg (a8.c x)),(1, .agg (b9.c c)),(2, .own 0 0),(3, .own 1 0),(4, .own 2 0),(5,DI 0),(6, .own 14 0),(7,DI 0),(13,DB false),(18,DB (c.To !=x19)),(40,DB x726)], [(0, .blk (a8.c x) 30),(1, .blk (b9.c c) 42),(2, .blk [DI 0,DI 0,nS,nS,nS,nS,nS,DI 0,nS,nS,nS,nS,nS] 30),(4,rE 4 v9 d0.c 110),(5,rE 6 v10 i0.c 108),(6,rE 4 v11 c9.c 149),(7,rE 5 v12 c0.c 112),(8,rE 6 v725 d7.c 114),(9,rE 4 v14 d0.c 110),(10,rE 6 v15 i0.c 108),(11,rE 4 v16 c9.c 149),(12,rE 5 v17 c0.c 112),(13,rE 6 v18 d7.c 114),(14, .blk [DI x19,DI x20, .row 4 4, .row 5 6, .row 6 4, .row 7 5, .row 8 6,DI x21, .row 9 4, .row 10 6, .row 11 4, .row 12 5, .row 13 6] 102)],15⟩:Sy):Sy) c4Y [99,106,149,210,211,220] [62] [61,154,155,156,157,158,159,184,188,189,208] Tryz.func158 rfl rfl rfl (i6.of 15 rfl (tA rfl) ⟨hR rfl,hR rfl,hR rfl,hW rfl,hW rfl,hW rfl,hW rfl,hW rfl,hW rfl,hW rfl,hW rfl,hW rfl,hW rfl,hR rfl,trivial⟩) (fun sv=> ?_) ?_
 have hm:=he753
 refine⟨rfl, ?_⟩
 obtain⟨ev771,he772,hm⟩:=b8 hm
 refine O7.ofZ pok ⟨[(0, .row 8 6),(1, .agg [DI c.From,DI c.No,DI c.Thing,DI c.Start,DI c.Until,DB false]),(2,DI 60),(3, .fn 95 [] []),(1000000, .own 14 0),(1000001, .agg (b9.c c)),(1000003, .own 15 0),(1000004,DB false),(1000038, .agg (a8.c x)),(1000039, .agg (b9.c c)),(1000040, .own 0 0),(1000041, .own 1 0),(1000042, .own 2 0),(1000043,DI 0),(1000044, .own 14 0),(1000045,DI 0),(1000051,DB false),(1000056,DB (c.To !=x19))], [(0, .blk (a8.c x) 30),(1, .blk (b9.c c) 42),(2, .blk [DI 0,DI 0,nS,nS,nS,nS,nS,DI 0,nS,nS,nS,nS,nS] 30),(4,rE 4 v9 d0.c 110),(5,rE 6 v10 i0.c 108),(6,rE 4 v11 c9.c 149),(7,rE 5 v12 c0.c 112),(8,rE 6 v13 d7.c 114),(9,rE 4 v14 d0.c 110),(10,rE 6 v15 i0.c 108),(11,rE 4 v16 c9.c 149),(12,rE 5 v17 c0.c 112),(13,rE 6 v18 d7.c 114),(14, .blk [DI x19,DI x20, .row 4 4, .row 5 6, .row 6 4, .row 7 5, .row 8 6,DI x21, .row 9 4, .row 10 6, .row 11 4, .row 12 5, .row 13 6] 102),(15, .blk (b9.c c) 42)],16⟩ (match ev771 with| .inl (v762,x763)=>(⟨[(0, .own 14 0),(1, .agg (b9.c c)),(3, .own 15 0),(4,DB false),(26, .tup [.row 8 6,DI x763,DB true]),(1000000, .agg (a8.c x)),(1000001, .agg (b9.c c)),(1000002, .own 0 0),(1000003, .own 1 0),(1000004, .own 2 0),(1000005,DI 0),(1000006, .own 14 0),(1000007,DI 0),(1000013,DB false),(1000018,DB (c.To !=x19))], [(0, .blk (a8.c x) 30),(1, .blk (b9.c c) 42),(2, .blk [DI 0,DI 0,nS,nS,nS,nS,nS,DI 0,nS,nS,nS,nS,nS] 30),(4,rE 4 v9 d0.c 110),(5,rE 6 v10 i0.c 108),(6,rE 4 v11 c9.c 149),(7,rE 5 v12 c0.c 112),(8,rE 6 v762 d7.c 114),(9,rE 4 v14 d0.c 110),(10,rE 6 v15 i0.c 108),(11,rE 4 v16 c9.c 149),(12,rE 5 v17 c0.c 112),(13,rE 6 v18 d7.c 114),(14, .blk [DI x19,DI x20, .row 4 4, .row 5 6, .row 6 4, .row 7 5, .bad,DI x21, .row 9 4, .row 10 6, .row 11 4, .row 12 5, .row 13 6] 102),(15, .blk (b9.c c) 42)],16⟩:Sy)| .inr _=>(⟨[(0, .own 14 0),(1, .agg (b9.c c)),(3, .own 15 0),(4,DB false),(26, .tup [nS,DI 0,DB false]),(1000000, .agg (a8.c x)),(1000001, .agg (b9.c c)),(1000002, .own 0 0),(1000003, .own 1 0),(1000004, .own 2 0),(1000005,DI 0),(1000006, .own 14 0),(1000007,DI 0),(1000013,DB false),(1000018,DB (c.To !=x19))], [(0, .blk (a8.c x) 30),(1, .blk (b9.c c) 42),(2, .blk [DI 0,DI 0,nS,nS,nS,nS,nS,DI 0,nS,nS,nS,nS,nS] 30),(4,rE 4 v9 d0.c 110),(5,rE 6 v10 i0.c 108),(6,rE 4 v11 c9.c 149),(7,rE 5 v12 c0.c 112),(8,rE 6 v13 d7.c 114),(9,rE 4 v14 d0.c 110),(10,rE 6 v15 i0.c 108),(11,rE 4 v16 c9.c 149),(12,rE 5 v17 c0.c 112),(13,rE 6 v18 d7.c 114),(14, .blk [DI x19,DI x20, .row 4 4, .row 5 6, .row 6 4, .row 7 5, .row 8 6,DI x21, .row 9 4, .row 10 6, .row 11 4, .row 12 5, .row 13 6] 102),(15, .blk (b9.c c) 42)],16⟩:Sy):Sy) [] [99,106,149,210,211,220] [62] [61,154,155,156,157,158,159,184,188,189,208] Tryz.func189 rfl rfl rfl (i6.of 16 rfl (tA rfl) ⟨hR rfl,hR rfl,hR rfl,hW rfl,hW rfl,hW rfl,hW rfl,hW rfl,hW rfl,hW rfl,hW rfl,hW rfl,hW rfl,hR rfl,hR rfl,trivial⟩) (fun sv=> ?_) ?_
 have hm:=he772
 refine co hm (L9 v13 ((⟨c.From,c.No,c.Thing,c.Start,c.Until,false⟩:d7))) ?_
 rintro⟨x773,x774⟩ hm
 apply vb hm<;>intro _ hm
 cases hm
 exact i6.of 16 rfl (tA rfl) ⟨hR rfl,hR rfl,hR rfl,hW rfl,hW rfl,hW rfl,hW rfl,hW rfl,hW rfl,hW rfl,hW rfl,hW rfl,hW rfl,⟨_,rfl,⟨leD.refl _,leD.refl _,leD.refl _,leD.refl _,leD.refl _,leD.refl _,leD.refl _,leD.refl _,leD.refl _,leD.refl _,leD.refl _,leD.refl _,trivial⟩⟩,hR rfl,trivial⟩
 apply vb hm<;>intro _ hm
 cases hm
 exact i6.of 16 rfl (tA rfl) ⟨hR rfl,hR rfl,hR rfl,hW rfl,hW rfl,hW rfl,hW rfl,hW rfl,hW rfl,hW rfl,hW rfl,hW rfl,hW rfl,hR rfl,hR rfl,trivial⟩
 refine⟨([(⟨c.From,c.No,c.Thing,c.Start,c.Until,false⟩:d7)]:List d7).flatMap d7.c,([(⟨c.From,c.No,c.Thing,c.Start,c.Until,false⟩:d7)]:List d7).length,⟨rfl,rfl⟩, ?_⟩
 obtain⟨x778,hx779,hm⟩:=b8 hm
 refine .inl (a9O.mk ⟨_,_,_,_,_,_,_,rfl,a1Z v13 x773 (([(⟨c.From,c.No,c.Thing,c.Start,c.Until,false⟩:d7)]:List d7)) _ hx779, ?_⟩)
 cases hm
 exact i6.of 16 rfl (tA rfl) ⟨hR rfl,hR rfl,hR rfl,hW rfl,hW rfl,hW rfl,hW rfl,hW rfl,hW rfl,hW rfl,hW rfl,hW rfl,hW rfl,hR rfl,hR rfl,trivial⟩
 rcases ev771 with⟨v762,x763⟩|⟨⟩
 cases hm
 exact i6.of 15 rfl (tA rfl) ⟨hR rfl,hR rfl,hR rfl,hW rfl,hW rfl,hW rfl,hW rfl,hW rfl,hW rfl,hW rfl,hW rfl,hW rfl,hW rfl,hR rfl,trivial⟩
 cases hm
 exact i6.of 15 rfl (tA rfl) ⟨hR rfl,hR rfl,hR rfl,hW rfl,hW rfl,hW rfl,hW rfl,hW rfl,hW rfl,hW rfl,hW rfl,hW rfl,hW rfl,hR rfl,trivial⟩
 obtain⟨v725,x726⟩:=ev752
 apply vb hm<;>intro _ hm
 cases hm
 exact j1.le (⟨_,rfl,⟨⟨_,rfl,⟨leD.refl _,leD.refl _,leD.nil,leD.nil,leD.nil,leD.nil,leD.nil,leD.refl _,leD.nil,leD.nil,leD.nil,leD.nil,leD.nil,trivial⟩⟩,leD.refl _,trivial⟩⟩)
 cases hm
 exact j1.le (leD.refl _)
 replace hm:=b9B h706 hm
 cases h780:(c.Kind==6)
 rotate_left
 replace hm:=b9C h780 hm
 refine⟨⟨3,139,by kernel_rfl,by kernel_rfl⟩,159,by simp only [a6z,h39,h260,h354,h587,h706,h780], ?_⟩
 obtain⟨ev920,he921,hm⟩:=b8 hm
 refine O7.ofZ pok ⟨[(0, .own 14 0),(1, .agg (b9.c c)),(1000000, .agg (a8.c x)),(1000001, .agg (b9.c c)),(1000002, .own 0 0),(1000003, .own 1 0),(1000004, .own 2 0),(1000005,DI 0),(1000006, .own 14 0),(1000007,DI 0),(1000013,DB false),(1000018,DB (c.To !=x19))], [(0, .blk (a8.c x) 30),(1, .blk (b9.c c) 42),(2, .blk [DI 0,DI 0,nS,nS,nS,nS,nS,DI 0,nS,nS,nS,nS,nS] 30),(4,rE 4 v9 d0.c 110),(5,rE 6 v10 i0.c 108),(6,rE 4 v11 c9.c 149),(7,rE 5 v12 c0.c 112),(8,rE 6 v13 d7.c 114),(9,rE 4 v14 d0.c 110),(10,rE 6 v15 i0.c 108),(11,rE 4 v16 c9.c 149),(12,rE 5 v17 c0.c 112),(13,rE 6 v18 d7.c 114),(14, .blk [DI x19,DI x20, .row 4 4, .row 5 6, .row 6 4, .row 7 5, .row 8 6,DI x21, .row 9 4, .row 10 6, .row 11 4, .row 12 5, .row 13 6] 102)],15⟩ (match ev920 with|v839=>(⟨[(0, .agg (a8.c x)),(1, .agg (b9.c c)),(2, .own 0 0),(3, .own 1 0),(4, .own 2 0),(5,DI 0),(6, .own 14 0),(7,DI 0),(13,DB false),(18,DB (c.To !=x19)),(40,DB true)], [(0, .blk (a8.c x) 30),(1, .blk (b9.c c) 42),(2, .blk [DI 0,DI 0,nS,nS,nS,nS,nS,DI 0,nS,nS,nS,nS,nS] 30),(4,rE 4 v9 d0.c 110),(5,rE 6 v10 i0.c 108),(6,rE 4 v11 c9.c 149),(7,rE 5 v839 c0.c 112),(8,rE 6 v13 d7.c 114),(9,rE 4 v14 d0.c 110),(10,rE 6 v15 i0.c 108),(11,rE 4 v16 c9.c 149),(12,rE 5 v17 c0.c 112),(13,rE 6 v18 d7.c 114),(14, .blk [DI x19,DI x20, .row 4 4, .row 5 6, .row 6 4, .row 7 5, .row 8 6,DI x21, .row 9 4, .row 10 6, .row 11 4, .row 12 5, .row 13 6] 102)],15⟩:Sy):Sy) c5p [99,106,149,210,211,220] [62] [61,154,155,156,157,158,159,184,188,189,208] Tryz.func159 rfl rfl rfl (i6.of 15 rfl (tA rfl) ⟨hR rfl,hR rfl,hR rfl,hW rfl,hW rfl,hW rfl,hW rfl,hW rfl,hW rfl,hW rfl,hW rfl,hW rfl,hW rfl,hR rfl,trivial⟩) (fun sv=> ?_) ?_
 have hm:=he921
 obtain⟨ev980,he,hk981⟩:=b8 hm
 refine D5.ofL (O5 c v12) (fun(v940,v941)=>⟨[(0, .own 14 0),(1, .agg (b9.c c)),(3, .own 15 0),(4,DB false),(13,DI (v12.length:Int)),(14,DI v940),(1000000, .agg (a8.c x)),(1000001, .agg (b9.c c)),(1000002, .own 0 0),(1000003, .own 1 0),(1000004, .own 2 0),(1000005,DI 0),(1000006, .own 14 0),(1000007,DI 0),(1000013,DB false),(1000018,DB (c.To !=x19))], [(0, .blk (a8.c x) 30),(1, .blk (b9.c c) 42),(2, .blk [DI 0,DI 0,nS,nS,nS,nS,nS,DI 0,nS,nS,nS,nS,nS] 30),(4,rE 4 v9 d0.c 110),(5,rE 6 v10 i0.c 108),(6,rE 4 v11 c9.c 149),(7,rE 5 v941 c0.c 112),(8,rE 6 v13 d7.c 114),(9,rE 4 v14 d0.c 110),(10,rE 6 v15 i0.c 108),(11,rE 4 v16 c9.c 149),(12,rE 5 v17 c0.c 112),(13,rE 6 v18 d7.c 114),(14, .blk [DI x19,DI x20, .row 4 4, .row 5 6, .row 6 4, .row 7 5, .row 8 6,DI x21, .row 9 4, .row 10 6, .row 11 4, .row 12 5, .row 13 6] 102),(15, .blk (b9.c c) 42)],16⟩) (0,v12) (i6.of 16 rfl (tA rfl) ⟨hR rfl,hR rfl,hR rfl,hW rfl,hW rfl,hW rfl,hW rfl,hW rfl,hW rfl,hW rfl,hW rfl,hW rfl,hW rfl,hR rfl,hR rfl,trivial⟩) he ?_
 rintro fu982 ⟨v940,v941⟩ b hm hi983
 apply vb hm<;>intro _ hm
 obtain⟨e985,hx986,hm⟩:=b8 hm
 refine⟨S7 hx986, ?_⟩
 refine⟨rfl, ?_⟩
 obtain⟨e987,hx988,hm⟩:=b8 hm
 refine⟨_,K0 (fun _=>rfl) hx988, ?_⟩
 apply vb hm<;>intro _ hm
 obtain⟨e990,hx991,hm⟩:=b8 hm
 refine⟨_,K0 (fun _=>rfl) hx991, ?_⟩
 apply vb hm<;>intro _ hm
 obtain⟨e993,hx994,hm⟩:=b8 hm
 refine⟨_,K0 (fun _=>rfl) hx994, ?_⟩
 apply vb hm<;>intro _ hm
 refine⟨rfl, ?_⟩
 obtain⟨e996,hx997,hm⟩:=b8 hm
 refine⟨_,K0 (fun _=>rfl) hx997, ?_⟩
 obtain⟨e998,hx999,hm⟩:=b8 hm
 refine⟨_,K0 (fun _=>rfl) hx999, ?_⟩
 obtain⟨e1000,hx1001,hm⟩:=b8 hm
 refine⟨_,K0 (fun _=>rfl) hx1001,_,O4 (y:=(⟨e1000.No,e1000.Thing,e1000.To,e1000.From,(if(if e998.From>c.Until then e998.From else c.Until)<e996.Until then(if e998.From>c.Until then e998.From else c.Until)else e996.Until)⟩:c0)) (fun _=>rfl) hx1001, ?_⟩
 cases hm
 exact⟨(_,((W (v940+1)),(v941.set v940.toNat (⟨e1000.No,e1000.Thing,e1000.To,e1000.From,(if(if e998.From>c.Until then e998.From else c.Until)<e996.Until then(if e998.From>c.Until then e998.From else c.Until)else e996.Until)⟩:c0)))),i6.of 16 rfl (tA rfl) ⟨hR rfl,hR rfl,hR rfl,hW rfl,hW rfl,hW rfl,hW rfl,hW rfl,hW rfl,hW rfl,hW rfl,hW rfl,hW rfl,hR rfl,hR rfl,trivial⟩,hi983,Nat.lt_succ_self _⟩
 cases hm
 exact⟨(_,((W (v940+1)),v941)),i6.of 16 rfl (tA rfl) ⟨hR rfl,hR rfl,hR rfl,hW rfl,hW rfl,hW rfl,hW rfl,hW rfl,hW rfl,hW rfl,hW rfl,hW rfl,hW rfl,hR rfl,hR rfl,trivial⟩,hi983,Nat.lt_succ_self _⟩
 cases hm
 exact⟨(_,((W (v940+1)),v941)),i6.of 16 rfl (tA rfl) ⟨hR rfl,hR rfl,hR rfl,hW rfl,hW rfl,hW rfl,hW rfl,hW rfl,hW rfl,hW rfl,hW rfl,hW rfl,hW rfl,hR rfl,hR rfl,trivial⟩,hi983,Nat.lt_succ_self _⟩
 cases hm
 exact⟨(_,((W (v940+1)),v941)),i6.of 16 rfl (tA rfl) ⟨hR rfl,hR rfl,hR rfl,hW rfl,hW rfl,hW rfl,hW rfl,hW rfl,hW rfl,hW rfl,hW rfl,hW rfl,hW rfl,hR rfl,hR rfl,trivial⟩,hi983,Nat.lt_succ_self _⟩
 cases hm
 cases hi983
 have hm:=hk981
 cases hm
 exact i6.of 15 rfl (tA rfl) ⟨hR rfl,hR rfl,hR rfl,hW rfl,hW rfl,hW rfl,hW rfl,hW rfl,hW rfl,hW rfl,hW rfl,hW rfl,hW rfl,hR rfl,trivial⟩
 obtain v839:=ev920
 cases hm
 exact j1.le (leD.refl _)
 replace hm:=b9B h780 hm
 cases hm
def a0V (l:c0) (c_0:Int) (c_1:Int):Option Bool:=
 if(l.Thing==c_0)=true then
  if(decide (l.From≤c_1))=true then
   some (decide (c_1<l.Until))
  else
   some false
 else
  some false
theorem a7h (l:c0) (c_0:Int) (c_1:Int) (r:Bool) (hm:a0V l c_0 c_1=some r):k9 Tryz.prog 164 [.agg (c0.c l), .ptr [DI c_0] 0, .ptr [DI c_1] 0] (fun x=>x=DB r):=by
 refine zn Tryz.func164 rfl ?_
 apply vb hm<;>intro _ hm
 apply vb hm<;>intro _ hm
 exact hm.rr
 exact hm.rr
 exact hm.rr
def C8 (s:(List c0)) (c1_0:Int) (c1_1:Int):Int→Option (Sum Int (Sum Int Int)):=fun v7=>
 if(decide (v7<(s.length:Int)))=true then
  Option.bind (idx s v7) fun e15=>
  Option.bind (a0V e15 c1_0 c1_1) fun x17=>
  if x17=true then
   some (.inr (.inr v7))
  else
   some (.inl (W (v7+1)))
 else
  some (.inr (.inl v7))
def E5 (s:(List c0)) (c1_0:Int) (c1_1:Int):Option Int:=
 Option.bind (A5 (C8 s c1_0 c1_1) 0) fun e=>
 match e with
 | .inl v20=>
  some (-1)
 | .inr rr21=>
  some rr21
theorem O3 (s:(List c0)) (c1_0:Int) (c1_1:Int) (r:Int) (hm:E5 s c1_0 c1_1=some r):k9 Tryz.prog 179 [lD 5 s c0.c, .fn 164 [] [.ptr [DI c1_0] 0, .ptr [DI c1_1] 0]] (fun x=>x=DI r):=by
 refine zn Tryz.func179 rfl ?_
 obtain⟨ev22,he,hk23⟩:=b8 hm
 refine D5.ofL (C8 s c1_0 c1_1) (fun v7=>⟨[(0,lD 5 s c0.c),(1, .fn 164 [] [.ptr [DI c1_0] 0, .ptr [DI c1_1] 0]),(4,DI 0),(7,DI (s.length:Int)),(8,DI v7)], [],0⟩) 0 (i6.of 0 rfl (tA rfl) trivial) he ?_
 rintro fu24 v7 b hm hi25
 apply vb hm<;>intro _ hm
 obtain⟨e27,hx28,hm⟩:=b8 hm
 refine⟨_,u4 (fun _=>rfl) hx28, ?_⟩
 refine cy hm (a7h e27 c1_0 c1_1) fun x29 hm=> ?_
 apply vb hm<;>intro _ hm
 cases hm
 cases hi25
 have hm:=hk23
 exact hm.rr
 cases hm
 exact⟨(_,(W (v7+1))),i6.of 0 rfl (tA rfl) trivial,hi25,Nat.lt_succ_self _⟩
 cases hm
 cases hi25
 have hm:=hk23
 exact hm.rr
def C7 (s:(List c0)) (c1_0:Int) (c1_1:Int):Option Bool:=
 Option.bind (E5 s c1_0 c1_1) fun x1=>
 some (decide (x1≥0))
theorem N2 (s:(List c0)) (c1_0:Int) (c1_1:Int) (r:Bool) (hm:C7 s c1_0 c1_1=some r):k9 Tryz.prog 143 [lD 5 s c0.c, .fn 164 [] [.ptr [DI c1_0] 0, .ptr [DI c1_1] 0]] (fun x=>x=DB r):=by
 refine zn Tryz.func143 rfl ?_
 refine cy hm (O3 s c1_0 c1_1) fun x1 hm=> ?_
 exact hm.rr
def a0W (l:d7) (c_0:Int) (c_1:Int):Option Bool:=
 if(l.Thing==c_0)=true then
  if(decide (l.From≤c_1))=true then
   some (decide (c_1<l.Until))
  else
   some false
 else
  some false
theorem a7f (l:d7) (c_0:Int) (c_1:Int) (r:Bool) (hm:a0W l c_0 c_1=some r):k9 Tryz.prog 166 [.agg (d7.c l), .ptr [DI c_0] 0, .ptr [DI c_1] 0] (fun x=>x=DB r):=by
 refine zn Tryz.func166 rfl ?_
 apply vb hm<;>intro _ hm
 apply vb hm<;>intro _ hm
 exact hm.rr
 exact hm.rr
 exact hm.rr
def E2 (s:(List d7)) (c1_0:Int) (c1_1:Int):Int→Option (Sum Int (Sum Int Int)):=fun v7=>
 if(decide (v7<(s.length:Int)))=true then
  Option.bind (idx s v7) fun e15=>
  Option.bind (a0W e15 c1_0 c1_1) fun x17=>
  if x17=true then
   some (.inr (.inr v7))
  else
   some (.inl (W (v7+1)))
 else
  some (.inr (.inl v7))
def F8 (s:(List d7)) (c1_0:Int) (c1_1:Int):Option Int:=
 Option.bind (A5 (E2 s c1_0 c1_1) 0) fun e=>
 match e with
 | .inl v20=>
  some (-1)
 | .inr rr21=>
  some rr21
theorem P1 (s:(List d7)) (c1_0:Int) (c1_1:Int) (r:Int) (hm:F8 s c1_0 c1_1=some r):k9 Tryz.prog 190 [lD 6 s d7.c, .fn 166 [] [.ptr [DI c1_0] 0, .ptr [DI c1_1] 0]] (fun x=>x=DI r):=by
 refine zn Tryz.func190 rfl ?_
 obtain⟨ev22,he,hk23⟩:=b8 hm
 refine D5.ofL (E2 s c1_0 c1_1) (fun v7=>⟨[(0,lD 6 s d7.c),(1, .fn 166 [] [.ptr [DI c1_0] 0, .ptr [DI c1_1] 0]),(4,DI 0),(7,DI (s.length:Int)),(8,DI v7)], [],0⟩) 0 (i6.of 0 rfl (tA rfl) trivial) he ?_
 rintro fu24 v7 b hm hi25
 apply vb hm<;>intro _ hm
 obtain⟨e27,hx28,hm⟩:=b8 hm
 refine⟨_,u4 (fun _=>rfl) hx28, ?_⟩
 refine cy hm (a7f e27 c1_0 c1_1) fun x29 hm=> ?_
 apply vb hm<;>intro _ hm
 cases hm
 cases hi25
 have hm:=hk23
 exact hm.rr
 cases hm
 exact⟨(_,(W (v7+1))),i6.of 0 rfl (tA rfl) trivial,hi25,Nat.lt_succ_self _⟩
 cases hm
 cases hi25
 have hm:=hk23
 exact hm.rr
def E4 (s:(List d7)) (c1_0:Int) (c1_1:Int):Option Bool:=
 Option.bind (F8 s c1_0 c1_1) fun x1=>
 some (decide (x1≥0))
theorem N7 (s:(List d7)) (c1_0:Int) (c1_1:Int) (r:Bool) (hm:E4 s c1_0 c1_1=some r):k9 Tryz.prog 165 [lD 6 s d7.c, .fn 166 [] [.ptr [DI c1_0] 0, .ptr [DI c1_1] 0]] (fun x=>x=DB r):=by
 refine zn Tryz.func165 rfl ?_
 refine cy hm (P1 s c1_0 c1_1) fun x1 hm=> ?_
 exact hm.rr
def U4 (p:l8) (thing:Int) (moment:Int):Option Bool:=
 Option.bind (j4 thing) fun x1=>
 if(x1==p.Station.Me)=true then
  Option.bind (C7 p.Station.Now.Leases thing moment) fun x4=>
  some (!x4)
 else
  Option.bind (E4 p.Station.Now.Loans thing moment) fun x6=>
  some x6
theorem a4o (p:l8) (thing:Int) (moment:Int) (r:Bool) (hm:U4 p thing moment=some r):k9 Tryz.prog 98 [.ptr (l8.c p) 0,DI thing,DI moment] (fun x=>x=DB r):=by
 refine zy c6A [] [] [] Tryz.func98 rfl ?_
 refine⟨rfl, ?_⟩
 refine cy hm (n6 thing) fun x1 hm=> ?_
 apply vb hm<;>intro _ hm
 refine co hm (N2 p.Station.Now.Leases thing moment) fun x4 hm=> ?_
 exact hm.rr
 refine co hm (N7 p.Station.Now.Loans thing moment) fun x6 hm=> ?_
 exact hm.rr
def a0g (x:a8) (thing:Int) (moment:Int):Option (Bool×Int):=
 Option.bind (Q7 x) fun⟨x1,x2⟩=>
 b2c x1 (
  if(x2 !=0)=true then
   some (false,x2)
  else
   Option.bind (B2 thing) fun x6=>
   if(!x6)=true then
    some (false,1)
   else
    Option.bind (j5 moment) fun x9=>
    if(!x9)=true then
     some (false,95)
    else
     none) fun p4=>
 if(x2 !=0)=true then
  some (false,x2)
 else
  Option.bind (B2 thing) fun x13=>
  if(!x13)=true then
   some (false,1)
  else
   Option.bind (j5 moment) fun x16=>
   if(!x16)=true then
    some (false,95)
   else
    Option.bind (U4 p4 thing moment) fun x19=>
    some (x19,0)
theorem a3r (x:a8) (thing:Int) (moment:Int) (r:(Bool×Int)) (hm:a0g x thing moment=some r):k9 Tryz.prog 41 [.agg (a8.c x),DI thing,DI moment] (fun x=>x= .tup [DB r.1,DI r.2]):=by
 refine zn Tryz.func41 rfl ?_
 refine cy hm (a2X x) ?_
 rintro⟨x1,x2⟩ hm
 rcases x1 with _|p4
 replace hm:=a8t hm
 apply vb hm<;>intro _ hm
 cases hm
 exact j1.le (leD.refl _)
 refine cy hm (G9 thing) fun x6 hm=> ?_
 apply vb hm<;>intro _ hm
 cases hm
 exact j1.le (leD.refl _)
 refine cy hm (n7 moment) fun x9 hm=> ?_
 apply vb hm<;>intro _ hm
 cases hm
 exact j1.le (leD.refl _)
 cases hm
 replace hm:=a8o hm
 apply vb hm<;>intro _ hm
 cases hm
 exact j1.le (leD.refl _)
 refine cy hm (G9 thing) fun x13 hm=> ?_
 apply vb hm<;>intro _ hm
 cases hm
 exact j1.le (leD.refl _)
 refine cy hm (n7 moment) fun x16 hm=> ?_
 apply vb hm<;>intro _ hm
 cases hm
 exact j1.le (leD.refl _)
 refine cy hm (a4o p4 thing moment) fun x19 hm=> ?_
 cases hm
 exact j1.le (leD.refl _)
def K6 (x:List Int):Option (List Int):=gd (x.length<4611686018427387904) (some (a5c x))
theorem a2B (x r:List Int) (hm:K6 x=some r):c1h Tryz.prog 99 1 x.length (x.flatMap cI) 3 [] r.length (r.flatMap cI):=by
 obtain⟨hg,hm⟩:=n8 hm
 cases hm
 exact b8R c1A x 3 hg
def a2Q (thing:Int) (from_:Int) (p4:l8):(Int×(List Int))→Option (Sum (Int×(List Int)) (Int×(List Int))):=fun(v34,v35)=>
 if(decide (v34<(p4.Station.Now.Leases.length:Int)))=true then
  Option.bind (idx p4.Station.Now.Leases v34) fun e42=>
  if(e42.Thing==thing)=true then
   if(decide (e42.Until>from_))=true then
    gd ((v35.length+([e42.Until]:List Int).length)*8≤140737488355328∧v35.length+([e42.Until]:List Int).length≤9223372036854775807)<|
    some (.inl ((W (v34+1)),(v35++([e42.Until]:List Int))))
   else
    some (.inl ((W (v34+1)),v35))
  else
   some (.inl ((W (v34+1)),v35))
 else
  some (.inr (v34,v35))
def a2L (thing:Int) (from_:Int) (until_:Int) (p4:l8) (x49:(List Int)):Int→Option (Sum Int (Sum Int (Int×Int))):=fun v61=>
 if(decide (v61<(x49.length:Int)))=true then
  Option.bind (idx x49 v61) fun e74=>
  Option.bind (idx x49 v61) fun e76=>
  Option.bind (j5 (W ((W (e76+until_))-from_))) fun x78=>
  if x78=true then
   Option.bind (a0d p4 (⟨0,thing,0,e76,(W ((W (e76+until_))-from_))⟩:c0)) fun x81=>
   if(!x81)=true then
    some (.inr (.inr (e76,0)))
   else
    some (.inl (W (v61+1)))
  else
   some (.inl (W (v61+1)))
 else
  some (.inr (.inl v61))
def a1l (x:a8) (thing:Int) (from_:Int) (until_:Int):Option (Int×Int):=
 Option.bind (Q7 x) fun⟨x1,x2⟩=>
 b2c x1 (
  if(x2 !=0)=true then
   some (0,x2)
  else
   Option.bind (B2 thing) fun x6=>
   if(!x6)=true then
    some (0,1)
   else
    Option.bind (j5 from_) fun x9=>
    if(!x9)=true then
     some (0,95)
    else
     Option.bind (j5 until_) fun x12=>
     if(!x12)=true then
      some (0,95)
     else
      none) fun p4=>
 if(x2 !=0)=true then
  some (0,x2)
 else
  Option.bind (B2 thing) fun x16=>
  if(!x16)=true then
   some (0,1)
  else
   Option.bind (j5 from_) fun x19=>
   if(!x19)=true then
    some (0,95)
   else
    Option.bind (j5 until_) fun x22=>
    if(!x22)=true then
     some (0,95)
    else
     Option.bind (j4 thing) fun x25=>
     if(x25 !=p4.Station.Me)=true then
      some (0,92)
     else
      if(decide (from_>until_))=true then
       some (0,95)
      else
       Option.bind (A5 (a2Q thing from_ p4) (0,([from_]:List Int))) fun(v46,v47)=>
       Option.bind (K6 v47) fun x49=>
       Option.bind (A5 (a2L thing from_ until_ p4 x49) 0) fun e=>
       match e with
       | .inl v84=>
        some (0,3)
       | .inr rr85=>
        some rr85
theorem a7r (x:a8) (thing:Int) (from_:Int) (until_:Int) (r:(Int×Int)) (hm:a1l x thing from_ until_=some r):k9 Tryz.prog 42 [.agg (a8.c x),DI thing,DI from_,DI until_] (fun x=>x= .tup [DI r.1,DI r.2]):=by
 refine zy c6Y [99,106,149,210,211,220] [] [] Tryz.func42 rfl ?_
 refine cy hm (a2X x) ?_
 rintro⟨x1,x2⟩ hm
 rcases x1 with _|p4
 replace hm:=a8t hm
 apply vb hm<;>intro _ hm
 cases hm
 exact j1.le (leD.refl _)
 refine cy hm (G9 thing) fun x6 hm=> ?_
 apply vb hm<;>intro _ hm
 cases hm
 exact j1.le (leD.refl _)
 refine cy hm (n7 from_) fun x9 hm=> ?_
 apply vb hm<;>intro _ hm
 cases hm
 exact j1.le (leD.refl _)
 refine cy hm (n7 until_) fun x12 hm=> ?_
 apply vb hm<;>intro _ hm
 cases hm
 exact j1.le (leD.refl _)
 refine⟨rfl, ?_⟩
 cases hm
 replace hm:=a8o hm
 apply vb hm<;>intro _ hm
 cases hm
 exact j1.le (leD.refl _)
 refine cy hm (G9 thing) fun x16 hm=> ?_
 apply vb hm<;>intro _ hm
 cases hm
 exact j1.le (leD.refl _)
 refine cy hm (n7 from_) fun x19 hm=> ?_
 apply vb hm<;>intro _ hm
 cases hm
 exact j1.le (leD.refl _)
 refine cy hm (n7 until_) fun x22 hm=> ?_
 apply vb hm<;>intro _ hm
 cases hm
 exact j1.le (leD.refl _)
 refine⟨rfl, ?_⟩
 refine cy hm (n6 thing) fun x25 hm=> ?_
 apply vb hm<;>intro _ hm
 cases hm
 exact j1.le (leD.refl _)
 apply vb hm<;>intro _ hm
 cases hm
 exact j1.le (leD.refl _)
 refine⟨([from_]:List Int).flatMap cI,([from_]:List Int).length,⟨rfl,rfl⟩, ?_⟩
 obtain⟨ev101,he,hk102⟩:=b8 hm
 refine D5.ofL (a2Q thing from_ p4) (fun(v34,v35)=>⟨[(0, .agg (a8.c x)),(1,DI thing),(2,DI from_),(3,DI until_),(4, .own 0 0),(8,DI 0),(9,DI 0),(10, .ptr (l8.c p4) 0),(11,DI x2),(12, .row 1 1),(23,DB (x2 !=0)),(27,DB (!x16)),(31,DB (!x22)),(40,DB (x25 !=p4.Station.Me)),(49,DB (decide (from_>until_))),(60,lD 5 p4.Station.Now.Leases c0.c),(61,DI (p4.Station.Now.Leases.length:Int)),(62,DI v34)], [(0, .blk (a8.c x) 30),(1,rE 1 v35 cI 3)],2⟩) (0,([from_]:List Int)) (i6.of 2 rfl (tA rfl) ⟨hR rfl,hW rfl,trivial⟩) he ?_
 rintro fu103 ⟨v34,v35⟩ b hm hi104
 apply vb hm<;>intro _ hm
 obtain⟨e106,hx107,hm⟩:=b8 hm
 refine⟨_,u4 (fun _=>rfl) hx107, ?_⟩
 apply vb hm<;>intro _ hm
 apply vb hm<;>intro _ hm
 refine⟨([e106.Until]:List Int).flatMap cI,([e106.Until]:List Int).length,⟨rfl,rfl⟩, ?_⟩
 obtain⟨hg,hm⟩:=n8 hm
 refine⟨hg,_,_,O9 (c:=cI) (l:=(v35:List Int)) (r:=(([e106.Until]:List Int):List Int)), ?_⟩
 cases hm
 exact⟨(_,((W (v34+1)),(v35++([e106.Until]:List Int)))),i6.of 2 rfl (tA rfl) ⟨hR rfl,hW rfl,trivial⟩,hi104,Nat.lt_succ_self _⟩
 cases hm
 exact⟨(_,((W (v34+1)),v35)),i6.of 2 rfl (tA rfl) ⟨hR rfl,hW rfl,trivial⟩,hi104,Nat.lt_succ_self _⟩
 cases hm
 exact⟨(_,((W (v34+1)),v35)),i6.of 2 rfl (tA rfl) ⟨hR rfl,hW rfl,trivial⟩,hi104,Nat.lt_succ_self _⟩
 cases hm
 cases hi104
 have hm:=hk102
 obtain⟨x111,hx110,hm⟩:=b8 hm
 refine .inr (b8d.mk ⟨_,_,_,_,_,_,rfl,a2B v35 _ hx110, ?_⟩)
 obtain⟨ev148,he,hk149⟩:=b8 hm
 refine D5.ofL (a2L thing from_ until_ p4 x111) (fun v123=>⟨[(0, .agg (a8.c x)),(1,DI thing),(2,DI from_),(3,DI until_),(4, .own 0 0),(8,DI 0),(9,DI 0),(10, .ptr (l8.c p4) 0),(11,DI x2),(12, .row 1 1),(23,DB (x2 !=0)),(27,DB (!x16)),(31,DB (!x22)),(40,DB (x25 !=p4.Station.Me)),(49,DB (decide (from_>until_))),(60,lD 5 p4.Station.Now.Leases c0.c),(61,DI (p4.Station.Now.Leases.length:Int)),(62,DI v34),(63,DB (decide (v34<(p4.Station.Now.Leases.length:Int)))),(84, .row 1 1),(85,DI (x111.length:Int)),(86,DI v123)], [(0, .blk (a8.c x) 30),(1,rE 1 x111 cI 3)],2⟩) 0 (i6.of 2 rfl (tA rfl) ⟨hR rfl,hW rfl,trivial⟩) he ?_
 rintro fu150 v123 b hm hi151
 apply vb hm<;>intro _ hm
 obtain⟨e153,hx154,hm⟩:=b8 hm
 refine⟨S7 hx154, ?_⟩
 obtain⟨e155,hx156,hm⟩:=b8 hm
 refine⟨_,K0 (fun _=>rfl) hx156, ?_⟩
 refine cy hm (n7 (W ((W (e155+until_))-from_))) fun x157 hm=> ?_
 apply vb hm<;>intro _ hm
 refine cy hm (a3L p4 ((⟨0,thing,0,e155,(W ((W (e155+until_))-from_))⟩:c0))) fun x160 hm=> ?_
 apply vb hm<;>intro _ hm
 cases hm
 cases hi151
 have hm:=hk149
 cases hm
 exact j1.le (leD.refl _)
 cases hm
 exact⟨(_,(W (v123+1))),i6.of 2 rfl (tA rfl) ⟨hR rfl,hW rfl,trivial⟩,hi151,Nat.lt_succ_self _⟩
 cases hm
 exact⟨(_,(W (v123+1))),i6.of 2 rfl (tA rfl) ⟨hR rfl,hW rfl,trivial⟩,hi151,Nat.lt_succ_self _⟩
 cases hm
 cases hi151
 have hm:=hk149
 cases hm
 exact j1.le (leD.refl _)
def N1 (s:(List i0)) (i:Int) (v:(List i0)):Option (List i0):=
 gd (0≤i∧i.toNat≤s.length)<|
 if((v.length:Int)==0)=true then
  some s
 else
  if(i==(s.length:Int))=true then
   gd ((s.length+v.length)*48≤140737488355328∧s.length+v.length≤9223372036854775807)<|
   some (s++v)
  else
   gd (0≤i∧i.toNat<s.length∧0<v.length∧(s.length+v.length)*48≤140737488355328∧s.length+v.length≤9223372036854775807) (some (s.take i.toNat++v++s.drop i.toNat))
theorem a2w (s:(List i0)) (i:Int) (v:(List i0)) (r:(List i0)) (hm:N1 s i v=some r):a8z Tryz.prog 149 6 s.length (s.flatMap i0.c) 108 [DI i,lD 6 v i0.c] 6 r.length (r.flatMap i0.c):=by
 obtain⟨hg0,hm⟩:=n8 hm
 refine a6Z (X:=⟨Tryz.prog,tt,Tryz.f149.ntmps, [], [], [], [], [], []⟩) (t:=23) (tI:=3) (tB:=4) (ov:=181) (ty:=108) (args:= [lD 6 v i0.c]) pok Tryz.func149 rfl rfl .mk .mk (Nat.le_of_ble_eq_true rfl) hg0 rfl rfl rfl rfl rfl rfl (by kernel_rfl) ⟨⟨_,4,Tryz.func181,by kernel_rfl,by kernel_rfl,by kernel_rfl,by kernel_rfl⟩⟩ (by decide) ?_
 apply vb hm<;>intro _ hm
 cases hm
 exact⟨rfl,rfl⟩
 apply vb hm<;>intro _ hm
 obtain⟨hg,hm⟩:=n8 hm
 refine⟨hg,_,_,O9 (c:=i0.c) (l:=(s:List i0)) (r:=(v:List i0)), ?_⟩
 cases hm
 exact⟨rfl,rfl⟩
 obtain⟨hg,hm⟩:=n8 hm
 cases hm
 exact b8D (fun _=>rfl) hg
def A8 (x:(List i0)) (target:i0):(Int×Int)→Option (Sum (Int×Int) (Int×Int)):=fun(i7,j8)=>
 if(decide (i7<j8))=true then
  Option.bind (idx x (W ((IntKind.u64.wrap (W (i7+j8))).fdiv (2^(min (1:Int).toNat IntKind.u64.bits))))) fun e16=>
  Option.bind (J2 e16 target) fun x18=>
  if(decide (x18<0))=true then
   some (.inl ((W ((W ((IntKind.u64.wrap (W (i7+j8))).fdiv (2^(min (1:Int).toNat IntKind.u64.bits))))+1)),j8))
  else
   some (.inl (i7,(W ((IntKind.u64.wrap (W (i7+j8))).fdiv (2^(min (1:Int).toNat IntKind.u64.bits))))))
 else
  some (.inr (i7,j8))
def o9 (x:(List i0)) (target:i0):Option (Int×Bool):=
 Option.bind (A5 (A8 x target) (0,(x.length:Int))) fun(i21,j22)=>
 if(decide (i21<(x.length:Int)))=true then
  Option.bind (idx x i21) fun e24=>
  Option.bind (J2 e24 target) fun x26=>
  some (i21,(x26==0))
 else
  some (i21,false)
theorem K5 (x:(List i0)) (target:i0) (r:(Int×Bool)) (hm:o9 x target=some r):k9 Tryz.prog 180 [lD 6 x i0.c, .agg (i0.c target), .fn 89 [] []] (fun x=>x= .tup [DI r.1,DB r.2]):=by
 refine zy c5q [] [] [] Tryz.func180 rfl ?_
 obtain⟨ev28,he,hk29⟩:=b8 hm
 refine D5.ofL (A8 x target) (fun(i7,j8)=>⟨[(0,lD 6 x i0.c),(1, .agg (i0.c target)),(2, .fn 89 [] []),(4, .own 0 0),(6,DI 0),(7,DB false),(8,DI (x.length:Int)),(9,DI i7),(10,DI j8)], [(0, .blk (i0.c target) 108)],1⟩) (0,(x.length:Int)) (i6.of 1 rfl (tA rfl) ⟨hR rfl,trivial⟩) he ?_
 rintro fu30 ⟨i7,j8⟩ b hm hi31
 apply vb hm<;>intro _ hm
 refine⟨by decide, ?_⟩
 refine⟨rfl, ?_⟩
 obtain⟨e33,hx34,hm⟩:=b8 hm
 refine⟨_,u4 (fun _=>rfl) hx34, ?_⟩
 refine cy hm (a0A e33 target) fun x35 hm=> ?_
 apply vb hm<;>intro _ hm
 cases hm
 exact⟨(_,((W ((W ((IntKind.u64.wrap (W (i7+j8))).fdiv (2^(min (1:Int).toNat IntKind.u64.bits))))+1)),j8)),i6.of 1 rfl (tA rfl) ⟨hR rfl,trivial⟩,hi31,Nat.lt_succ_self _⟩
 cases hm
 exact⟨(_,(i7,(W ((IntKind.u64.wrap (W (i7+j8))).fdiv (2^(min (1:Int).toNat IntKind.u64.bits)))))),i6.of 1 rfl (tA rfl) ⟨hR rfl,trivial⟩,hi31,Nat.lt_succ_self _⟩
 cases hm
 cases hi31
 have hm:=hk29
 refine⟨rfl, ?_⟩
 apply vb hm<;>intro _ hm
 obtain⟨e39,hx40,hm⟩:=b8 hm
 refine⟨_,u4 (fun _=>rfl) hx40, ?_⟩
 refine cy hm (a0A e39 target) fun x41 hm=> ?_
 cases hm
 exact j1.le (leD.refl _)
 cases hm
 exact j1.le (leD.refl _)
def B0 (l:(List i0)) (x:i0):Option (Int×Bool):=
 Option.bind (o9 l x) fun⟨x1,x2⟩=>
 some (x1,x2)
theorem a0c (l:(List i0)) (x:i0) (r:(Int×Bool)) (hm:B0 l x=some r):k9 Tryz.prog 148 [lD 6 l i0.c, .agg (i0.c x), .fn 89 [] []] (fun x=>x= .tup [DI r.1,DB r.2]):=by
 refine zn Tryz.func148 rfl ?_
 refine cy hm (K5 l x) ?_
 rintro⟨x1,x2⟩ hm
 cases hm
 exact j1.le (leD.refl _)
def X7 (night:Int) (value:Int) (v10:(List i0)) (x19:Int) (x20:Int):Option (Sum ((List i0)×Int) Unit):=
 Option.bind (B0 v10 (⟨night,(W ((W (6*(W (x20+1))))+x19)),value,0,0,false⟩:i0)) fun⟨x54,x55⟩=>
 if x55=true then
  some (.inl (v10,x54))
 else
  if((v10.length:Int)==12)=true then
   some (.inr ())
  else
   Option.bind (N1 v10 x54 ([(⟨night,(W ((W (6*(W (x20+1))))+x19)),value,0,0,false⟩:i0)]:List i0)) fun x59=>
   some (.inl (x59,x54))
end Go.Proofs.YtcedmbakcchkiaaGreatDoor
