/- Functions of the program as pure Lean functions, and that calls do what these say. Printed by a program out of the given form. -/
import Derived.Test.YtcedmbakcchkiaaGreatDoorL0
set_option linter.unusedVariables false
set_option linter.unusedSimpArgs false
namespace Go.Proofs.YtcedmbakcchkiaaGreatDoor
open Go Go.RowKit Go.Sx
set_option maxRecDepth 100000
set_option maxHeartbeats 20000000
def k9 (n:Int) (lo:Int) (hi:Int):Option Bool:=
 if(decide (lo≤n))=true then
  some (decide (n≤hi))
 else
  some false
theorem o5 (n:Int) (lo:Int) (hi:Int) (r:Bool) (hm:k9 n lo hi=some r):l8 Tryz.prog 117 [DI n,DI lo,DI hi] (fun x=>x=DB r):=by
 refine zn Tryz.func117 rfl ?_
 apply vb hm<;>intro _ hm
 exact hm.rr
 exact hm.rr
def B3 (n:Int):Option Bool:=
 Option.bind (k9 n 0 5) fun x1=>
 some x1
theorem C7 (n:Int) (r:Bool) (hm:B3 n=some r):l8 Tryz.prog 64 [DI n] (fun x=>x=DB r):=by
 refine zn Tryz.func64 rfl ?_
 refine cy hm (o5 n 0 5) fun x1 hm=> ?_
 exact hm.rr
def a1L (x:Int):Option Bool:=
 some (x !=x)
theorem a6k (x:Int) (r:Bool) (hm:a1L x=some r):l8 Tryz.prog 183 [DI x] (fun x=>x=DB r):=by
 refine zn Tryz.func183 rfl ?_
 exact hm.rr
def J6 (x:Int) (y:Int):Option Int:=
 Option.bind (a1L x) fun x1=>
 Option.bind (a1L y) fun x3=>
 if x1=true then
  if x3=true then
   some 0
  else
   some (-1)
 else
  if x3=true then
   some 1
  else
   if(decide (x<y))=true then
    some (-1)
   else
    if(decide (x>y))=true then
     some 1
    else
     some 0
theorem R6 (x:Int) (y:Int) (r:Int) (hm:J6 x y=some r):l8 Tryz.prog 150 [DI x,DI y] (fun x=>x=DI r):=by
 refine zn Tryz.func150 rfl ?_
 refine cy hm (a6k x) fun x1 hm=> ?_
 refine cy hm (a6k y) fun x3 hm=> ?_
 apply vb hm<;>intro _ hm
 apply vb hm<;>intro _ hm
 exact hm.rr
 exact hm.rr
 apply vb hm<;>intro _ hm
 exact hm.rr
 apply vb hm<;>intro _ hm
 exact hm.rr
 apply vb hm<;>intro _ hm
 exact hm.rr
 exact hm.rr
def L1 (a:d9) (b_:d9):Option Int:=
 Option.bind (J6 a.Night b_.Night) fun x1=>
 some x1
theorem a0W (a:d9) (b_:d9) (r:Int) (hm:L1 a b_=some r):l8 Tryz.prog 89 [.agg (d9.c a), .agg (d9.c b_)] (fun x=>x=DI r):=by
 refine zn Tryz.func89 rfl ?_
 refine cy hm (R6 a.Night b_.Night) fun x1 hm=> ?_
 exact hm.rr
def a0G (vals:(List Int)):Int→Option (Sum Int (Sum Int Int)):=fun v5=>
 if(decide (v5<(vals.length:Int)))=true then
  Option.bind (idx vals v5) fun e11=>
  if(e11 !=0)=true then
   some (.inr (.inr e11))
  else
   some (.inl (W (v5+1)))
 else
  some (.inr (.inl v5))
def a2y (vals:(List Int)):Option Int:=
 Option.bind (s9 (a0G vals) 0) fun e=>
 match e with
 | .inl v14=>
  some 0
 | .inr rr15=>
  some rr15
theorem a8p (vals:(List Int)) (r:Int) (hm:a2y vals=some r):l8 Tryz.prog 153 [lD 1 vals cI] (fun x=>x=DI r):=by
 refine zn Tryz.func153 rfl ?_
 obtain⟨ev16,he,hk17⟩:=b9 hm
 refine c8b (a0G vals) (fun v5=>⟨[(0,lD 1 vals cI),(2,DI 0),(3,DI 0),(6,lD 1 vals cI),(7,DI (vals.length:Int)),(8,DI v5)], [],0⟩) 0 (i4.of 0 rfl (tA rfl) trivial) he ?_
 rintro fu18 v5 b hm hi19
 apply vb hm<;>intro _ hm
 obtain⟨e21,hx22,hm⟩:=b9 hm
 refine⟨_,q8 (fun _=>rfl) hx22, ?_⟩
 apply vb hm<;>intro _ hm
 cases hm
 cases hi19
 have hm:=hk17
 exact hm.rr
 cases hm
 exact⟨(_,(W (v5+1))),i4.of 0 rfl (tA rfl) trivial,hi19,Nat.lt_succ_self _⟩
 cases hm
 cases hi19
 have hm:=hk17
 exact hm.rr
def J3 (a:d7) (b_:d7):Option Int:=
 Option.bind (J6 a.Owner b_.Owner) fun x1=>
 Option.bind (J6 a.No b_.No) fun x3=>
 Option.bind (a2y ([x1,x3]:List Int)) fun x5=>
 some x5
theorem a0K (a:d7) (b_:d7) (r:Int) (hm:J3 a b_=some r):l8 Tryz.prog 95 [.agg (d7.c a), .agg (d7.c b_)] (fun x=>x=DI r):=by
 refine zy c6n [] [] [] Tryz.func95 rfl ?_
 refine⟨rfl, ?_⟩
 refine cy hm (R6 a.Owner b_.Owner) fun x1 hm=> ?_
 refine cy hm (R6 a.No b_.No) fun x3 hm=> ?_
 refine⟨([x1,x3]:List Int).flatMap cI,([x1,x3]:List Int).length,⟨rfl,rfl⟩, ?_⟩
 refine co hm (a8p (([x1,x3]:List Int))) fun x5 hm=> ?_
 exact hm.rr
def j4 (n:Int):Option Int:=
 some (n.tmod 6)
theorem m8 (n:Int) (r:Int) (hm:j4 n=some r):l8 Tryz.prog 71 [DI n] (fun x=>x=DI r):=by
 refine zn Tryz.func71 rfl ?_
 refine⟨by decide, ?_⟩
 exact hm.rr
def u6 (n:Int):Option Bool:=
 Option.bind (k9 n 0 100000) fun x1=>
 some x1
theorem B2 (n:Int) (r:Bool) (hm:u6 n=some r):l8 Tryz.prog 86 [DI n] (fun x=>x=DB r):=by
 refine zn Tryz.func86 rfl ?_
 refine cy hm (o5 n 0 100000) fun x1 hm=> ?_
 exact hm.rr
def m9 (n:Int):Option Bool:=
 Option.bind (k9 n 1 1000000) fun x1=>
 some x1
theorem q0 (n:Int) (r:Bool) (hm:m9 n=some r):l8 Tryz.prog 87 [DI n] (fun x=>x=DB r):=by
 refine zn Tryz.func87 rfl ?_
 refine cy hm (o5 n 1 1000000) fun x1 hm=> ?_
 exact hm.rr
def a2c (x:Int):Option Int:=
 some (W ((BitVec.ofInt IntKind.i64.bits (W (IntKind.u64.wrap ((IntKind.u64.wrap ((IntKind.u64.wrap ((IntKind.u64.wrap ((BitVec.ofInt IntKind.u64.bits (IntKind.u64.wrap (((IntKind.u64.wrap ((IntKind.u64.wrap ((BitVec.ofInt IntKind.u64.bits ((IntKind.u64.wrap ((IntKind.u64.wrap ((BitVec.ofInt IntKind.u64.bits (x.fdiv (2^(min (1:Int).toNat IntKind.u64.bits)))&&&BitVec.ofInt IntKind.u64.bits 6148914691236517205).toNat:Int))+(IntKind.u64.wrap ((BitVec.ofInt IntKind.u64.bits x&&&BitVec.ofInt IntKind.u64.bits 6148914691236517205).toNat:Int)))).fdiv (2^(min (2:Int).toNat IntKind.u64.bits)))&&&BitVec.ofInt IntKind.u64.bits 3689348814741910323).toNat:Int))+(IntKind.u64.wrap ((BitVec.ofInt IntKind.u64.bits (IntKind.u64.wrap ((IntKind.u64.wrap ((BitVec.ofInt IntKind.u64.bits (x.fdiv (2^(min (1:Int).toNat IntKind.u64.bits)))&&&BitVec.ofInt IntKind.u64.bits 6148914691236517205).toNat:Int))+(IntKind.u64.wrap ((BitVec.ofInt IntKind.u64.bits x&&&BitVec.ofInt IntKind.u64.bits 6148914691236517205).toNat:Int))))&&&BitVec.ofInt IntKind.u64.bits 3689348814741910323).toNat:Int)))).fdiv (2^(min (4:Int).toNat IntKind.u64.bits)))+(IntKind.u64.wrap ((IntKind.u64.wrap ((BitVec.ofInt IntKind.u64.bits ((IntKind.u64.wrap ((IntKind.u64.wrap ((BitVec.ofInt IntKind.u64.bits (x.fdiv (2^(min (1:Int).toNat IntKind.u64.bits)))&&&BitVec.ofInt IntKind.u64.bits 6148914691236517205).toNat:Int))+(IntKind.u64.wrap ((BitVec.ofInt IntKind.u64.bits x&&&BitVec.ofInt IntKind.u64.bits 6148914691236517205).toNat:Int)))).fdiv (2^(min (2:Int).toNat IntKind.u64.bits)))&&&BitVec.ofInt IntKind.u64.bits 3689348814741910323).toNat:Int))+(IntKind.u64.wrap ((BitVec.ofInt IntKind.u64.bits (IntKind.u64.wrap ((IntKind.u64.wrap ((BitVec.ofInt IntKind.u64.bits (x.fdiv (2^(min (1:Int).toNat IntKind.u64.bits)))&&&BitVec.ofInt IntKind.u64.bits 6148914691236517205).toNat:Int))+(IntKind.u64.wrap ((BitVec.ofInt IntKind.u64.bits x&&&BitVec.ofInt IntKind.u64.bits 6148914691236517205).toNat:Int))))&&&BitVec.ofInt IntKind.u64.bits 3689348814741910323).toNat:Int))))))&&&BitVec.ofInt IntKind.u64.bits 1085102592571150095).toNat:Int))+((IntKind.u64.wrap ((BitVec.ofInt IntKind.u64.bits (IntKind.u64.wrap (((IntKind.u64.wrap ((IntKind.u64.wrap ((BitVec.ofInt IntKind.u64.bits ((IntKind.u64.wrap ((IntKind.u64.wrap ((BitVec.ofInt IntKind.u64.bits (x.fdiv (2^(min (1:Int).toNat IntKind.u64.bits)))&&&BitVec.ofInt IntKind.u64.bits 6148914691236517205).toNat:Int))+(IntKind.u64.wrap ((BitVec.ofInt IntKind.u64.bits x&&&BitVec.ofInt IntKind.u64.bits 6148914691236517205).toNat:Int)))).fdiv (2^(min (2:Int).toNat IntKind.u64.bits)))&&&BitVec.ofInt IntKind.u64.bits 3689348814741910323).toNat:Int))+(IntKind.u64.wrap ((BitVec.ofInt IntKind.u64.bits (IntKind.u64.wrap ((IntKind.u64.wrap ((BitVec.ofInt IntKind.u64.bits (x.fdiv (2^(min (1:Int).toNat IntKind.u64.bits)))&&&BitVec.ofInt IntKind.u64.bits 6148914691236517205).toNat:Int))+(IntKind.u64.wrap ((BitVec.ofInt IntKind.u64.bits x&&&BitVec.ofInt IntKind.u64.bits 6148914691236517205).toNat:Int))))&&&BitVec.ofInt IntKind.u64.bits 3689348814741910323).toNat:Int)))).fdiv (2^(min (4:Int).toNat IntKind.u64.bits)))+(IntKind.u64.wrap ((IntKind.u64.wrap ((BitVec.ofInt IntKind.u64.bits ((IntKind.u64.wrap ((IntKind.u64.wrap ((BitVec.ofInt IntKind.u64.bits (x.fdiv (2^(min (1:Int).toNat IntKind.u64.bits)))&&&BitVec.ofInt IntKind.u64.bits 6148914691236517205).toNat:Int))+(IntKind.u64.wrap ((BitVec.ofInt IntKind.u64.bits x&&&BitVec.ofInt IntKind.u64.bits 6148914691236517205).toNat:Int)))).fdiv (2^(min (2:Int).toNat IntKind.u64.bits)))&&&BitVec.ofInt IntKind.u64.bits 3689348814741910323).toNat:Int))+(IntKind.u64.wrap ((BitVec.ofInt IntKind.u64.bits (IntKind.u64.wrap ((IntKind.u64.wrap ((BitVec.ofInt IntKind.u64.bits (x.fdiv (2^(min (1:Int).toNat IntKind.u64.bits)))&&&BitVec.ofInt IntKind.u64.bits 6148914691236517205).toNat:Int))+(IntKind.u64.wrap ((BitVec.ofInt IntKind.u64.bits x&&&BitVec.ofInt IntKind.u64.bits 6148914691236517205).toNat:Int))))&&&BitVec.ofInt IntKind.u64.bits 3689348814741910323).toNat:Int))))))&&&BitVec.ofInt IntKind.u64.bits 1085102592571150095).toNat:Int)).fdiv (2^(min (8:Int).toNat IntKind.u64.bits)))))+((IntKind.u64.wrap ((IntKind.u64.wrap ((BitVec.ofInt IntKind.u64.bits (IntKind.u64.wrap (((IntKind.u64.wrap ((IntKind.u64.wrap ((BitVec.ofInt IntKind.u64.bits ((IntKind.u64.wrap ((IntKind.u64.wrap ((BitVec.ofInt IntKind.u64.bits (x.fdiv (2^(min (1:Int).toNat IntKind.u64.bits)))&&&BitVec.ofInt IntKind.u64.bits 6148914691236517205).toNat:Int))+(IntKind.u64.wrap ((BitVec.ofInt IntKind.u64.bits x&&&BitVec.ofInt IntKind.u64.bits 6148914691236517205).toNat:Int)))).fdiv (2^(min (2:Int).toNat IntKind.u64.bits)))&&&BitVec.ofInt IntKind.u64.bits 3689348814741910323).toNat:Int))+(IntKind.u64.wrap ((BitVec.ofInt IntKind.u64.bits (IntKind.u64.wrap ((IntKind.u64.wrap ((BitVec.ofInt IntKind.u64.bits (x.fdiv (2^(min (1:Int).toNat IntKind.u64.bits)))&&&BitVec.ofInt IntKind.u64.bits 6148914691236517205).toNat:Int))+(IntKind.u64.wrap ((BitVec.ofInt IntKind.u64.bits x&&&BitVec.ofInt IntKind.u64.bits 6148914691236517205).toNat:Int))))&&&BitVec.ofInt IntKind.u64.bits 3689348814741910323).toNat:Int)))).fdiv (2^(min (4:Int).toNat IntKind.u64.bits)))+(IntKind.u64.wrap ((IntKind.u64.wrap ((BitVec.ofInt IntKind.u64.bits ((IntKind.u64.wrap ((IntKind.u64.wrap ((BitVec.ofInt IntKind.u64.bits (x.fdiv (2^(min (1:Int).toNat IntKind.u64.bits)))&&&BitVec.ofInt IntKind.u64.bits 6148914691236517205).toNat:Int))+(IntKind.u64.wrap ((BitVec.ofInt IntKind.u64.bits x&&&BitVec.ofInt IntKind.u64.bits 6148914691236517205).toNat:Int)))).fdiv (2^(min (2:Int).toNat IntKind.u64.bits)))&&&BitVec.ofInt IntKind.u64.bits 3689348814741910323).toNat:Int))+(IntKind.u64.wrap ((BitVec.ofInt IntKind.u64.bits (IntKind.u64.wrap ((IntKind.u64.wrap ((BitVec.ofInt IntKind.u64.bits (x.fdiv (2^(min (1:Int).toNat IntKind.u64.bits)))&&&BitVec.ofInt IntKind.u64.bits 6148914691236517205).toNat:Int))+(IntKind.u64.wrap ((BitVec.ofInt IntKind.u64.bits x&&&BitVec.ofInt IntKind.u64.bits 6148914691236517205).toNat:Int))))&&&BitVec.ofInt IntKind.u64.bits 3689348814741910323).toNat:Int))))))&&&BitVec.ofInt IntKind.u64.bits 1085102592571150095).toNat:Int))+((IntKind.u64.wrap ((BitVec.ofInt IntKind.u64.bits (IntKind.u64.wrap (((IntKind.u64.wrap ((IntKind.u64.wrap ((BitVec.ofInt IntKind.u64.bits ((IntKind.u64.wrap ((IntKind.u64.wrap ((BitVec.ofInt IntKind.u64.bits (x.fdiv (2^(min (1:Int).toNat IntKind.u64.bits)))&&&BitVec.ofInt IntKind.u64.bits 6148914691236517205).toNat:Int))+(IntKind.u64.wrap ((BitVec.ofInt IntKind.u64.bits x&&&BitVec.ofInt IntKind.u64.bits 6148914691236517205).toNat:Int)))).fdiv (2^(min (2:Int).toNat IntKind.u64.bits)))&&&BitVec.ofInt IntKind.u64.bits 3689348814741910323).toNat:Int))+(IntKind.u64.wrap ((BitVec.ofInt IntKind.u64.bits (IntKind.u64.wrap ((IntKind.u64.wrap ((BitVec.ofInt IntKind.u64.bits (x.fdiv (2^(min (1:Int).toNat IntKind.u64.bits)))&&&BitVec.ofInt IntKind.u64.bits 6148914691236517205).toNat:Int))+(IntKind.u64.wrap ((BitVec.ofInt IntKind.u64.bits x&&&BitVec.ofInt IntKind.u64.bits 6148914691236517205).toNat:Int))))&&&BitVec.ofInt IntKind.u64.bits 3689348814741910323).toNat:Int)))).fdiv (2^(min (4:Int).toNat IntKind.u64.bits)))+(IntKind.u64.wrap ((IntKind.u64.wrap ((BitVec.ofInt IntKind.u64.bits ((IntKind.u64.wrap ((IntKind.u64.wrap ((BitVec.ofInt IntKind.u64.bits (x.fdiv (2^(min (1:Int).toNat IntKind.u64.bits)))&&&BitVec.ofInt IntKind.u64.bits 6148914691236517205).toNat:Int))+(IntKind.u64.wrap ((BitVec.ofInt IntKind.u64.bits x&&&BitVec.ofInt IntKind.u64.bits 6148914691236517205).toNat:Int)))).fdiv (2^(min (2:Int).toNat IntKind.u64.bits)))&&&BitVec.ofInt IntKind.u64.bits 3689348814741910323).toNat:Int))+(IntKind.u64.wrap ((BitVec.ofInt IntKind.u64.bits (IntKind.u64.wrap ((IntKind.u64.wrap ((BitVec.ofInt IntKind.u64.bits (x.fdiv (2^(min (1:Int).toNat IntKind.u64.bits)))&&&BitVec.ofInt IntKind.u64.bits 6148914691236517205).toNat:Int))+(IntKind.u64.wrap ((BitVec.ofInt IntKind.u64.bits x&&&BitVec.ofInt IntKind.u64.bits 6148914691236517205).toNat:Int))))&&&BitVec.ofInt IntKind.u64.bits 3689348814741910323).toNat:Int))))))&&&BitVec.ofInt IntKind.u64.bits 1085102592571150095).toNat:Int)).fdiv (2^(min (8:Int).toNat IntKind.u64.bits))))).fdiv (2^(min (16:Int).toNat IntKind.u64.bits)))))+((IntKind.u64.wrap ((IntKind.u64.wrap ((IntKind.u64.wrap ((BitVec.ofInt IntKind.u64.bits (IntKind.u64.wrap (((IntKind.u64.wrap ((IntKind.u64.wrap ((BitVec.ofInt IntKind.u64.bits ((IntKind.u64.wrap ((IntKind.u64.wrap ((BitVec.ofInt IntKind.u64.bits (x.fdiv (2^(min (1:Int).toNat IntKind.u64.bits)))&&&BitVec.ofInt IntKind.u64.bits 6148914691236517205).toNat:Int))+(IntKind.u64.wrap ((BitVec.ofInt IntKind.u64.bits x&&&BitVec.ofInt IntKind.u64.bits 6148914691236517205).toNat:Int)))).fdiv (2^(min (2:Int).toNat IntKind.u64.bits)))&&&BitVec.ofInt IntKind.u64.bits 3689348814741910323).toNat:Int))+(IntKind.u64.wrap ((BitVec.ofInt IntKind.u64.bits (IntKind.u64.wrap ((IntKind.u64.wrap ((BitVec.ofInt IntKind.u64.bits (x.fdiv (2^(min (1:Int).toNat IntKind.u64.bits)))&&&BitVec.ofInt IntKind.u64.bits 6148914691236517205).toNat:Int))+(IntKind.u64.wrap ((BitVec.ofInt IntKind.u64.bits x&&&BitVec.ofInt IntKind.u64.bits 6148914691236517205).toNat:Int))))&&&BitVec.ofInt IntKind.u64.bits 3689348814741910323).toNat:Int)))).fdiv (2^(min (4:Int).toNat IntKind.u64.bits)))+(IntKind.u64.wrap ((IntKind.u64.wrap ((BitVec.ofInt IntKind.u64.bits ((IntKind.u64.wrap ((IntKind.u64.wrap ((BitVec.ofInt IntKind.u64.bits (x.fdiv (2^(min (1:Int).toNat IntKind.u64.bits)))&&&BitVec.ofInt IntKind.u64.bits 6148914691236517205).toNat:Int))+(IntKind.u64.wrap ((BitVec.ofInt IntKind.u64.bits x&&&BitVec.ofInt IntKind.u64.bits 6148914691236517205).toNat:Int)))).fdiv (2^(min (2:Int).toNat IntKind.u64.bits)))&&&BitVec.ofInt IntKind.u64.bits 3689348814741910323).toNat:Int))+(IntKind.u64.wrap ((BitVec.ofInt IntKind.u64.bits (IntKind.u64.wrap ((IntKind.u64.wrap ((BitVec.ofInt IntKind.u64.bits (x.fdiv (2^(min (1:Int).toNat IntKind.u64.bits)))&&&BitVec.ofInt IntKind.u64.bits 6148914691236517205).toNat:Int))+(IntKind.u64.wrap ((BitVec.ofInt IntKind.u64.bits x&&&BitVec.ofInt IntKind.u64.bits 6148914691236517205).toNat:Int))))&&&BitVec.ofInt IntKind.u64.bits 3689348814741910323).toNat:Int))))))&&&BitVec.ofInt IntKind.u64.bits 1085102592571150095).toNat:Int))+((IntKind.u64.wrap ((BitVec.ofInt IntKind.u64.bits (IntKind.u64.wrap (((IntKind.u64.wrap ((IntKind.u64.wrap ((BitVec.ofInt IntKind.u64.bits ((IntKind.u64.wrap ((IntKind.u64.wrap ((BitVec.ofInt IntKind.u64.bits (x.fdiv (2^(min (1:Int).toNat IntKind.u64.bits)))&&&BitVec.ofInt IntKind.u64.bits 6148914691236517205).toNat:Int))+(IntKind.u64.wrap ((BitVec.ofInt IntKind.u64.bits x&&&BitVec.ofInt IntKind.u64.bits 6148914691236517205).toNat:Int)))).fdiv (2^(min (2:Int).toNat IntKind.u64.bits)))&&&BitVec.ofInt IntKind.u64.bits 3689348814741910323).toNat:Int))+(IntKind.u64.wrap ((BitVec.ofInt IntKind.u64.bits (IntKind.u64.wrap ((IntKind.u64.wrap ((BitVec.ofInt IntKind.u64.bits (x.fdiv (2^(min (1:Int).toNat IntKind.u64.bits)))&&&BitVec.ofInt IntKind.u64.bits 6148914691236517205).toNat:Int))+(IntKind.u64.wrap ((BitVec.ofInt IntKind.u64.bits x&&&BitVec.ofInt IntKind.u64.bits 6148914691236517205).toNat:Int))))&&&BitVec.ofInt IntKind.u64.bits 3689348814741910323).toNat:Int)))).fdiv (2^(min (4:Int).toNat IntKind.u64.bits)))+(IntKind.u64.wrap ((IntKind.u64.wrap ((BitVec.ofInt IntKind.u64.bits ((IntKind.u64.wrap ((IntKind.u64.wrap ((BitVec.ofInt IntKind.u64.bits (x.fdiv (2^(min (1:Int).toNat IntKind.u64.bits)))&&&BitVec.ofInt IntKind.u64.bits 6148914691236517205).toNat:Int))+(IntKind.u64.wrap ((BitVec.ofInt IntKind.u64.bits x&&&BitVec.ofInt IntKind.u64.bits 6148914691236517205).toNat:Int)))).fdiv (2^(min (2:Int).toNat IntKind.u64.bits)))&&&BitVec.ofInt IntKind.u64.bits 3689348814741910323).toNat:Int))+(IntKind.u64.wrap ((BitVec.ofInt IntKind.u64.bits (IntKind.u64.wrap ((IntKind.u64.wrap ((BitVec.ofInt IntKind.u64.bits (x.fdiv (2^(min (1:Int).toNat IntKind.u64.bits)))&&&BitVec.ofInt IntKind.u64.bits 6148914691236517205).toNat:Int))+(IntKind.u64.wrap ((BitVec.ofInt IntKind.u64.bits x&&&BitVec.ofInt IntKind.u64.bits 6148914691236517205).toNat:Int))))&&&BitVec.ofInt IntKind.u64.bits 3689348814741910323).toNat:Int))))))&&&BitVec.ofInt IntKind.u64.bits 1085102592571150095).toNat:Int)).fdiv (2^(min (8:Int).toNat IntKind.u64.bits)))))+((IntKind.u64.wrap ((IntKind.u64.wrap ((BitVec.ofInt IntKind.u64.bits (IntKind.u64.wrap (((IntKind.u64.wrap ((IntKind.u64.wrap ((BitVec.ofInt IntKind.u64.bits ((IntKind.u64.wrap ((IntKind.u64.wrap ((BitVec.ofInt IntKind.u64.bits (x.fdiv (2^(min (1:Int).toNat IntKind.u64.bits)))&&&BitVec.ofInt IntKind.u64.bits 6148914691236517205).toNat:Int))+(IntKind.u64.wrap ((BitVec.ofInt IntKind.u64.bits x&&&BitVec.ofInt IntKind.u64.bits 6148914691236517205).toNat:Int)))).fdiv (2^(min (2:Int).toNat IntKind.u64.bits)))&&&BitVec.ofInt IntKind.u64.bits 3689348814741910323).toNat:Int))+(IntKind.u64.wrap ((BitVec.ofInt IntKind.u64.bits (IntKind.u64.wrap ((IntKind.u64.wrap ((BitVec.ofInt IntKind.u64.bits (x.fdiv (2^(min (1:Int).toNat IntKind.u64.bits)))&&&BitVec.ofInt IntKind.u64.bits 6148914691236517205).toNat:Int))+(IntKind.u64.wrap ((BitVec.ofInt IntKind.u64.bits x&&&BitVec.ofInt IntKind.u64.bits 6148914691236517205).toNat:Int))))&&&BitVec.ofInt IntKind.u64.bits 3689348814741910323).toNat:Int)))).fdiv (2^(min (4:Int).toNat IntKind.u64.bits)))+(IntKind.u64.wrap ((IntKind.u64.wrap ((BitVec.ofInt IntKind.u64.bits ((IntKind.u64.wrap ((IntKind.u64.wrap ((BitVec.ofInt IntKind.u64.bits (x.fdiv (2^(min (1:Int).toNat IntKind.u64.bits)))&&&BitVec.ofInt IntKind.u64.bits 6148914691236517205).toNat:Int))+(IntKind.u64.wrap ((BitVec.ofInt IntKind.u64.bits x&&&BitVec.ofInt IntKind.u64.bits 6148914691236517205).toNat:Int)))).fdiv (2^(min (2:Int).toNat IntKind.u64.bits)))&&&BitVec.ofInt IntKind.u64.bits 3689348814741910323).toNat:Int))+(IntKind.u64.wrap ((BitVec.ofInt IntKind.u64.bits (IntKind.u64.wrap ((IntKind.u64.wrap ((BitVec.ofInt IntKind.u64.bits (x.fdiv (2^(min (1:Int).toNat IntKind.u64.bits)))&&&BitVec.ofInt IntKind.u64.bits 6148914691236517205).toNat:Int))+(IntKind.u64.wrap ((BitVec.ofInt IntKind.u64.bits x&&&BitVec.ofInt IntKind.u64.bits 6148914691236517205).toNat:Int))))&&&BitVec.ofInt IntKind.u64.bits 3689348814741910323).toNat:Int))))))&&&BitVec.ofInt IntKind.u64.bits 1085102592571150095).toNat:Int))+((IntKind.u64.wrap ((BitVec.ofInt IntKind.u64.bits (IntKind.u64.wrap (((IntKind.u64.wrap ((IntKind.u64.wrap ((BitVec.ofInt IntKind.u64.bits ((IntKind.u64.wrap ((IntKind.u64.wrap ((BitVec.ofInt IntKind.u64.bits (x.fdiv (2^(min (1:Int).toNat IntKind.u64.bits)))&&&BitVec.ofInt IntKind.u64.bits 6148914691236517205).toNat:Int))+(IntKind.u64.wrap ((BitVec.ofInt IntKind.u64.bits x&&&BitVec.ofInt IntKind.u64.bits 6148914691236517205).toNat:Int)))).fdiv (2^(min (2:Int).toNat IntKind.u64.bits)))&&&BitVec.ofInt IntKind.u64.bits 3689348814741910323).toNat:Int))+(IntKind.u64.wrap ((BitVec.ofInt IntKind.u64.bits (IntKind.u64.wrap ((IntKind.u64.wrap ((BitVec.ofInt IntKind.u64.bits (x.fdiv (2^(min (1:Int).toNat IntKind.u64.bits)))&&&BitVec.ofInt IntKind.u64.bits 6148914691236517205).toNat:Int))+(IntKind.u64.wrap ((BitVec.ofInt IntKind.u64.bits x&&&BitVec.ofInt IntKind.u64.bits 6148914691236517205).toNat:Int))))&&&BitVec.ofInt IntKind.u64.bits 3689348814741910323).toNat:Int)))).fdiv (2^(min (4:Int).toNat IntKind.u64.bits)))+(IntKind.u64.wrap ((IntKind.u64.wrap ((BitVec.ofInt IntKind.u64.bits ((IntKind.u64.wrap ((IntKind.u64.wrap ((BitVec.ofInt IntKind.u64.bits (x.fdiv (2^(min (1:Int).toNat IntKind.u64.bits)))&&&BitVec.ofInt IntKind.u64.bits 6148914691236517205).toNat:Int))+(IntKind.u64.wrap ((BitVec.ofInt IntKind.u64.bits x&&&BitVec.ofInt IntKind.u64.bits 6148914691236517205).toNat:Int)))).fdiv (2^(min (2:Int).toNat IntKind.u64.bits)))&&&BitVec.ofInt IntKind.u64.bits 3689348814741910323).toNat:Int))+(IntKind.u64.wrap ((BitVec.ofInt IntKind.u64.bits (IntKind.u64.wrap ((IntKind.u64.wrap ((BitVec.ofInt IntKind.u64.bits (x.fdiv (2^(min (1:Int).toNat IntKind.u64.bits)))&&&BitVec.ofInt IntKind.u64.bits 6148914691236517205).toNat:Int))+(IntKind.u64.wrap ((BitVec.ofInt IntKind.u64.bits x&&&BitVec.ofInt IntKind.u64.bits 6148914691236517205).toNat:Int))))&&&BitVec.ofInt IntKind.u64.bits 3689348814741910323).toNat:Int))))))&&&BitVec.ofInt IntKind.u64.bits 1085102592571150095).toNat:Int)).fdiv (2^(min (8:Int).toNat IntKind.u64.bits))))).fdiv (2^(min (16:Int).toNat IntKind.u64.bits))))).fdiv (2^(min (32:Int).toNat IntKind.u64.bits))))))&&&BitVec.ofInt IntKind.i64.bits 127).toNat:Int))
theorem a5f (x:Int) (r:Int) (hm:a2c x=some r):l8 Tryz.prog 203 [.v (.int .u64 x)] (fun x=>x=DI r):=by
 refine zn Tryz.func203 rfl ?_
 refine⟨by decide, ?_⟩
 refine⟨by decide, ?_⟩
 refine⟨by decide, ?_⟩
 refine⟨by decide, ?_⟩
 refine⟨by decide, ?_⟩
 refine⟨by decide, ?_⟩
 exact hm.rr
def a2K (x:Int):Option Int:=
 Option.bind (a2c x) fun x1=>
 some x1
theorem a6o (x:Int) (r:Int) (hm:a2K x=some r):l8 Tryz.prog 169 [.v (.int .u64 x)] (fun x=>x=DI r):=by
 refine zn Tryz.func169 rfl ?_
 refine cy hm (a5f x) fun x1 hm=> ?_
 exact hm.rr
def N7 (m:Int):Option Bool:=
 Option.bind (a2K (IntKind.u64.wrap m)) fun x1=>
 some (decide (x1≥4))
theorem a1e (m:Int) (r:Bool) (hm:N7 m=some r):l8 Tryz.prog 105 [DI m] (fun x=>x=DB r):=by
 refine zn Tryz.func105 rfl ?_
 refine cy hm (a6o (IntKind.u64.wrap m)) fun x1 hm=> ?_
 exact hm.rr
def Z2 (m:Int):Option Bool:=
 Option.bind (k9 m 0 63) fun x1=>
 some x1
theorem a3B (m:Int) (r:Bool) (hm:Z2 m=some r):l8 Tryz.prog 123 [DI m] (fun x=>x=DB r):=by
 refine zn Tryz.func123 rfl ?_
 refine cy hm (o5 m 0 63) fun x1 hm=> ?_
 exact hm.rr
def C9 (n:Int):Option Bool:=
 Option.bind (k9 n 6 59999) fun x1=>
 some x1
theorem J9 (n:Int) (r:Bool) (hm:C9 n=some r):l8 Tryz.prog 125 [DI n] (fun x=>x=DB r):=by
 refine zn Tryz.func125 rfl ?_
 refine cy hm (o5 n 6 59999) fun x1 hm=> ?_
 exact hm.rr
def a1W (h:c9):Option Bool:=
 Option.bind (C9 h.Ballot) fun x1=>
 if x1=true then
  Option.bind (u6 h.Night) fun x4=>
  if x4=true then
   Option.bind (m9 h.Value) fun x7=>
   if x7=true then
    if(h.Mask !=0)=true then
     Option.bind (Z2 h.Mask) fun x11=>
     some x11
    else
     some false
   else
    some false
  else
   some false
 else
  some false
theorem a7U (h:c9) (r:Bool) (hm:a1W h=some r):l8 Tryz.prog 124 [.agg (c9.c h)] (fun x=>x=DB r):=by
 refine zn Tryz.func124 rfl ?_
 refine cy hm (J9 h.Ballot) fun x1 hm=> ?_
 apply vb hm<;>intro _ hm
 refine cy hm (B2 h.Night) fun x4 hm=> ?_
 apply vb hm<;>intro _ hm
 refine cy hm (q0 h.Value) fun x7 hm=> ?_
 apply vb hm<;>intro _ hm
 apply vb hm<;>intro _ hm
 refine cy hm (a3B h.Mask) fun x11 hm=> ?_
 exact hm.rr
 exact hm.rr
 exact hm.rr
 exact hm.rr
 exact hm.rr
def C8 (n:Int):Option Bool:=
 Option.bind (k9 n 1 99) fun x1=>
 some x1
theorem L6 (n:Int) (r:Bool) (hm:C8 n=some r):l8 Tryz.prog 70 [DI n] (fun x=>x=DB r):=by
 refine zn Tryz.func70 rfl ?_
 refine cy hm (o5 n 1 99) fun x1 hm=> ?_
 exact hm.rr
def j6 (n:Int):Option Bool:=
 Option.bind (k9 n 0 144001439) fun x1=>
 some x1
theorem o7 (n:Int) (r:Bool) (hm:j6 n=some r):l8 Tryz.prog 91 [DI n] (fun x=>x=DB r):=by
 refine zn Tryz.func91 rfl ?_
 refine cy hm (o5 n 0 144001439) fun x1 hm=> ?_
 exact hm.rr
def W9 (from_:Int) (until_:Int):Option Bool:=
 Option.bind (j6 from_) fun x1=>
 if x1=true then
  Option.bind (j6 until_) fun x4=>
  if x4=true then
   some (decide (from_≤until_))
  else
   some false
 else
  some false
theorem a1I (from_:Int) (until_:Int) (r:Bool) (hm:W9 from_ until_=some r):l8 Tryz.prog 127 [DI from_,DI until_] (fun x=>x=DB r):=by
 refine zn Tryz.func127 rfl ?_
 refine cy hm (o7 from_) fun x1 hm=> ?_
 apply vb hm<;>intro _ hm
 refine cy hm (o7 until_) fun x4 hm=> ?_
 apply vb hm<;>intro _ hm
 exact hm.rr
 exact hm.rr
 exact hm.rr
def a1J (s:d0):Option Bool:=
 if(s.Ballot==0)=true then
  if(s.Value==0)=true then
   Option.bind (u6 s.Night) fun x3=>
   if x3=true then
    Option.bind (C9 s.Promised) fun x6=>
    if x6=true then
     some true
    else
     some false
   else
    some false
  else
   Option.bind (k9 s.Ballot 6 s.Promised) fun x9=>
   if x9=true then
    Option.bind (m9 s.Value) fun x12=>
    Option.bind (u6 s.Night) fun x14=>
    if x14=true then
     Option.bind (C9 s.Promised) fun x17=>
     if x17=true then
      some x12
     else
      some false
    else
     some false
   else
    Option.bind (u6 s.Night) fun x20=>
    if x20=true then
     Option.bind (C9 s.Promised) fun x23=>
     if x23=true then
      some false
     else
      some false
    else
     some false
 else
  Option.bind (k9 s.Ballot 6 s.Promised) fun x26=>
  if x26=true then
   Option.bind (m9 s.Value) fun x29=>
   Option.bind (u6 s.Night) fun x31=>
   if x31=true then
    Option.bind (C9 s.Promised) fun x34=>
    if x34=true then
     some x29
    else
     some false
   else
    some false
  else
   Option.bind (u6 s.Night) fun x37=>
   if x37=true then
    Option.bind (C9 s.Promised) fun x40=>
    if x40=true then
     some false
    else
     some false
   else
    some false
theorem b0G (s:d0) (r:Bool) (hm:a1J s=some r):l8 Tryz.prog 130 [.agg (d0.c s)] (fun x=>x=DB r):=by
 refine zn Tryz.func130 rfl ?_
 apply vb hm<;>intro _ hm
 apply vb hm<;>intro _ hm
 refine cy hm (B2 s.Night) fun x3 hm=> ?_
 apply vb hm<;>intro _ hm
 refine cy hm (J9 s.Promised) fun x6 hm=> ?_
 apply vb hm<;>intro _ hm
 exact hm.rr
 exact hm.rr
 exact hm.rr
 refine cy hm (o5 s.Ballot 6 s.Promised) fun x9 hm=> ?_
 apply vb hm<;>intro _ hm
 refine cy hm (q0 s.Value) fun x12 hm=> ?_
 refine cy hm (B2 s.Night) fun x14 hm=> ?_
 apply vb hm<;>intro _ hm
 refine cy hm (J9 s.Promised) fun x17 hm=> ?_
 apply vb hm<;>intro _ hm
 exact hm.rr
 exact hm.rr
 exact hm.rr
 refine cy hm (B2 s.Night) fun x20 hm=> ?_
 apply vb hm<;>intro _ hm
 refine cy hm (J9 s.Promised) fun x23 hm=> ?_
 apply vb hm<;>intro _ hm
 exact hm.rr
 exact hm.rr
 exact hm.rr
 refine cy hm (o5 s.Ballot 6 s.Promised) fun x26 hm=> ?_
 apply vb hm<;>intro _ hm
 refine cy hm (q0 s.Value) fun x29 hm=> ?_
 refine cy hm (B2 s.Night) fun x31 hm=> ?_
 apply vb hm<;>intro _ hm
 refine cy hm (J9 s.Promised) fun x34 hm=> ?_
 apply vb hm<;>intro _ hm
 exact hm.rr
 exact hm.rr
 exact hm.rr
 refine cy hm (B2 s.Night) fun x37 hm=> ?_
 apply vb hm<;>intro _ hm
 refine cy hm (J9 s.Promised) fun x40 hm=> ?_
 apply vb hm<;>intro _ hm
 exact hm.rr
 exact hm.rr
 exact hm.rr
def J5 (a:d0) (b_:d0):Option Int:=
 Option.bind (J6 a.Night b_.Night) fun x1=>
 some x1
theorem a0P (a:d0) (b_:d0) (r:Int) (hm:J5 a b_=some r):l8 Tryz.prog 136 [.agg (d0.c a), .agg (d0.c b_)] (fun x=>x=DI r):=by
 refine zn Tryz.func136 rfl ?_
 refine cy hm (R6 a.Night b_.Night) fun x1 hm=> ?_
 exact hm.rr
def J2 (a:c9) (b_:c9):Option Int:=
 Option.bind (J6 a.Ballot b_.Ballot) fun x1=>
 Option.bind (J6 a.Night b_.Night) fun x3=>
 Option.bind (a2y ([x1,x3]:List Int)) fun x5=>
 some x5
theorem a0O (a:c9) (b_:c9) (r:Int) (hm:J2 a b_=some r):l8 Tryz.prog 139 [.agg (c9.c a), .agg (c9.c b_)] (fun x=>x=DI r):=by
 refine zy c4O [] [] [] Tryz.func139 rfl ?_
 refine⟨rfl, ?_⟩
 refine cy hm (R6 a.Ballot b_.Ballot) fun x1 hm=> ?_
 refine cy hm (R6 a.Night b_.Night) fun x3 hm=> ?_
 refine⟨([x1,x3]:List Int).flatMap cI,([x1,x3]:List Int).length,⟨rfl,rfl⟩, ?_⟩
 refine co hm (a8p (([x1,x3]:List Int))) fun x5 hm=> ?_
 exact hm.rr
def a1z (a:c0) (b_:c0):Option Bool:=
 some (decide ((if b_.From>a.From then b_.From else a.From)<(if b_.Until<a.Until then b_.Until else a.Until)))
theorem a7O (a:c0) (b_:c0) (r:Bool) (hm:a1z a b_=some r):l8 Tryz.prog 145 [.agg (c0.c a), .agg (c0.c b_)] (fun x=>x=DB r):=by
 refine zn Tryz.func145 rfl ?_
 exact hm.rr
def K4 (x:d0):Option Bool:=
 Option.bind (a1J x) fun x1=>
 some (!x1)
theorem a0T (x:d0) (r:Bool) (hm:K4 x=some r):l8 Tryz.prog 172 [.agg (d0.c x), .ptr [.fn 130 [] []] 0] (fun x=>x=DB r):=by
 refine zn Tryz.func172 rfl ?_
 refine cy hm (b0G x) fun x1 hm=> ?_
 exact hm.rr
def w6 (s:(List d0)):Int→Option (Sum Int (Sum Int Int)):=fun v7=>
 if(decide (v7<(s.length:Int)))=true then
  Option.bind (idx s v7) fun e15=>
  Option.bind (K4 e15) fun x17=>
  if x17=true then
   some (.inr (.inr v7))
  else
   some (.inl (W (v7+1)))
 else
  some (.inr (.inl v7))
def A0 (s:(List d0)):Option Int:=
 Option.bind (s9 (w6 s) 0) fun e=>
 match e with
 | .inl v20=>
  some (-1)
 | .inr rr21=>
  some rr21
theorem K0 (s:(List d0)) (r:Int) (hm:A0 s=some r):l8 Tryz.prog 205 [lD 4 s d0.c, .fn 172 [] [.ptr [.fn 130 [] []] 0]] (fun x=>x=DI r):=by
 refine zn Tryz.func205 rfl ?_
 obtain⟨ev22,he,hk23⟩:=b9 hm
 refine c8b (w6 s) (fun v7=>⟨[(0,lD 4 s d0.c),(1, .fn 172 [] [.ptr [.fn 130 [] []] 0]),(4,DI 0),(7,DI (s.length:Int)),(8,DI v7)], [],0⟩) 0 (i4.of 0 rfl (tA rfl) trivial) he ?_
 rintro fu24 v7 b hm hi25
 apply vb hm<;>intro _ hm
 obtain⟨e27,hx28,hm⟩:=b9 hm
 refine⟨_,q8 (fun _=>rfl) hx28, ?_⟩
 refine cy hm (a0T e27) fun x29 hm=> ?_
 apply vb hm<;>intro _ hm
 cases hm
 cases hi25
 have hm:=hk23
 exact hm.rr
 cases hm
 exact⟨(_,(W (v7+1))),i4.of 0 rfl (tA rfl) trivial,hi25,Nat.lt_succ_self _⟩
 cases hm
 cases hi25
 have hm:=hk23
 exact hm.rr
def u7 (s:(List d0)):Option Bool:=
 Option.bind (A0 s) fun x1=>
 some (decide (x1≥0))
theorem I1 (s:(List d0)) (r:Bool) (hm:u7 s=some r):l8 Tryz.prog 171 [lD 4 s d0.c, .fn 172 [] [.ptr [.fn 130 [] []] 0]] (fun x=>x=DB r):=by
 refine zn Tryz.func171 rfl ?_
 refine cy hm (K0 s) fun x1 hm=> ?_
 exact hm.rr
def L4 (l:(List d0)) (most:Int):Option Bool:=
 if(decide ((l.length:Int)≤most))=true then
  Option.bind (u7 l) fun x2=>
  some (!x2)
 else
  some false
theorem a1o (l:(List d0)) (most:Int) (r:Bool) (hm:L4 l most=some r):l8 Tryz.prog 129 [lD 4 l d0.c,DI most, .fn 130 [] []] (fun x=>x=DB r):=by
 refine zn Tryz.func129 rfl ?_
 apply vb hm<;>intro _ hm
 refine co hm (I1 l) fun x2 hm=> ?_
 exact hm.rr
 exact hm.rr
def a0r (b_:d9) (c_0:c8) (c_1:Int):Option Bool:=
 Option.bind (u6 b_.Night) fun x1=>
 if x1=true then
  Option.bind (k9 b_.Ballot 6 (W ((W (6*c_0.Round))+c_1))) fun x4=>
  if x4=true then
   Option.bind (j4 b_.Ballot) fun x7=>
   if(x7==c_1)=true then
    Option.bind (m9 b_.Value) fun x10=>
    if x10=true then
     Option.bind (k9 b_.Best 0 (W (b_.Ballot-1))) fun x13=>
     if x13=true then
      Option.bind (Z2 b_.Mask) fun x16=>
      if x16=true then
       Option.bind (N7 b_.Mask) fun x19=>
       some (b_.Asked==x19)
      else
       some false
     else
      some false
    else
     some false
   else
    some false
  else
   some false
 else
  some false
theorem a8g (b_:d9) (c_0:c8) (c_1:Int) (r:Bool) (hm:a0r b_ c_0 c_1=some r):l8 Tryz.prog 122 [.agg (d9.c b_), .ptr (c8.c c_0) 0, .ptr [DI c_1] 0] (fun x=>x=DB r):=by
 refine zy c4E [] [] [] Tryz.func122 rfl ?_
 refine⟨rfl, ?_⟩
 refine cy hm (B2 b_.Night) fun x1 hm=> ?_
 apply vb hm<;>intro _ hm
 refine cy hm (o5 b_.Ballot 6 (W ((W (6*c_0.Round))+c_1))) fun x4 hm=> ?_
 apply vb hm<;>intro _ hm
 refine cy hm (m8 b_.Ballot) fun x7 hm=> ?_
 apply vb hm<;>intro _ hm
 refine cy hm (q0 b_.Value) fun x10 hm=> ?_
 apply vb hm<;>intro _ hm
 refine cy hm (o5 b_.Best 0 (W (b_.Ballot-1))) fun x13 hm=> ?_
 apply vb hm<;>intro _ hm
 refine cy hm (a3B b_.Mask) fun x16 hm=> ?_
 apply vb hm<;>intro _ hm
 refine cy hm (a1e b_.Mask) fun x19 hm=> ?_
 exact hm.rr
 exact hm.rr
 exact hm.rr
 exact hm.rr
 exact hm.rr
 exact hm.rr
 exact hm.rr
def H7 (x:d9) (c_0:c8) (c_1:Int):Option Bool:=
 Option.bind (a0r x c_0 c_1) fun x1=>
 some (!x1)
theorem a0D (x:d9) (c_0:c8) (c_1:Int) (r:Bool) (hm:H7 x c_0 c_1=some r):l8 Tryz.prog 173 [.agg (d9.c x), .ptr [.fn 122 [] [.ptr (c8.c c_0) 0, .ptr [DI c_1] 0]] 0] (fun x=>x=DB r):=by
 refine zn Tryz.func173 rfl ?_
 refine cy hm (a8g x c_0 c_1) fun x1 hm=> ?_
 exact hm.rr
def u9 (s:(List d9)) (c1_0:c8) (c1_1:Int):Int→Option (Sum Int (Sum Int Int)):=fun v7=>
 if(decide (v7<(s.length:Int)))=true then
  Option.bind (idx s v7) fun e15=>
  Option.bind (H7 e15 c1_0 c1_1) fun x17=>
  if x17=true then
   some (.inr (.inr v7))
  else
   some (.inl (W (v7+1)))
 else
  some (.inr (.inl v7))
def z8 (s:(List d9)) (c1_0:c8) (c1_1:Int):Option Int:=
 Option.bind (s9 (u9 s c1_0 c1_1) 0) fun e=>
 match e with
 | .inl v20=>
  some (-1)
 | .inr rr21=>
  some rr21
theorem K3 (s:(List d9)) (c1_0:c8) (c1_1:Int) (r:Int) (hm:z8 s c1_0 c1_1=some r):l8 Tryz.prog 178 [lD 6 s d9.c, .fn 173 [] [.ptr [.fn 122 [] [.ptr (c8.c c1_0) 0, .ptr [DI c1_1] 0]] 0]] (fun x=>x=DI r):=by
 refine zn Tryz.func178 rfl ?_
 obtain⟨ev22,he,hk23⟩:=b9 hm
 refine c8b (u9 s c1_0 c1_1) (fun v7=>⟨[(0,lD 6 s d9.c),(1, .fn 173 [] [.ptr [.fn 122 [] [.ptr (c8.c c1_0) 0, .ptr [DI c1_1] 0]] 0]),(4,DI 0),(7,DI (s.length:Int)),(8,DI v7)], [],0⟩) 0 (i4.of 0 rfl (tA rfl) trivial) he ?_
 rintro fu24 v7 b hm hi25
 apply vb hm<;>intro _ hm
 obtain⟨e27,hx28,hm⟩:=b9 hm
 refine⟨_,q8 (fun _=>rfl) hx28, ?_⟩
 refine cy hm (a0D e27 c1_0 c1_1) fun x29 hm=> ?_
 apply vb hm<;>intro _ hm
 cases hm
 cases hi25
 have hm:=hk23
 exact hm.rr
 cases hm
 exact⟨(_,(W (v7+1))),i4.of 0 rfl (tA rfl) trivial,hi25,Nat.lt_succ_self _⟩
 cases hm
 cases hi25
 have hm:=hk23
 exact hm.rr
def w5 (s:(List d9)) (c1_0:c8) (c1_1:Int):Option Bool:=
 Option.bind (z8 s c1_0 c1_1) fun x1=>
 some (decide (x1≥0))
theorem H6 (s:(List d9)) (c1_0:c8) (c1_1:Int) (r:Bool) (hm:w5 s c1_0 c1_1=some r):l8 Tryz.prog 141 [lD 6 s d9.c, .fn 173 [] [.ptr [.fn 122 [] [.ptr (c8.c c1_0) 0, .ptr [DI c1_1] 0]] 0]] (fun x=>x=DB r):=by
 refine zn Tryz.func141 rfl ?_
 refine cy hm (K3 s c1_0 c1_1) fun x1 hm=> ?_
 exact hm.rr
def K5 (l:(List d9)) (most:Int) (c2_0:c8) (c2_1:Int):Option Bool:=
 if(decide ((l.length:Int)≤most))=true then
  Option.bind (w5 l c2_0 c2_1) fun x2=>
  some (!x2)
 else
  some false
theorem a0S (l:(List d9)) (most:Int) (c2_0:c8) (c2_1:Int) (r:Bool) (hm:K5 l most c2_0 c2_1=some r):l8 Tryz.prog 131 [lD 6 l d9.c,DI most, .fn 122 [] [.ptr (c8.c c2_0) 0, .ptr [DI c2_1] 0]] (fun x=>x=DB r):=by
 refine zn Tryz.func131 rfl ?_
 apply vb hm<;>intro _ hm
 refine co hm (H6 l c2_0 c2_1) fun x2 hm=> ?_
 exact hm.rr
 exact hm.rr
def F7 (x:c9):Option Bool:=
 Option.bind (a1W x) fun x1=>
 some (!x1)
theorem a0h (x:c9) (r:Bool) (hm:F7 x=some r):l8 Tryz.prog 175 [.agg (c9.c x), .ptr [.fn 124 [] []] 0] (fun x=>x=DB r):=by
 refine zn Tryz.func175 rfl ?_
 refine cy hm (a7U x) fun x1 hm=> ?_
 exact hm.rr
def s6 (s:(List c9)):Int→Option (Sum Int (Sum Int Int)):=fun v7=>
 if(decide (v7<(s.length:Int)))=true then
  Option.bind (idx s v7) fun e15=>
  Option.bind (F7 e15) fun x17=>
  if x17=true then
   some (.inr (.inr v7))
  else
   some (.inl (W (v7+1)))
 else
  some (.inr (.inl v7))
def u0 (s:(List c9)):Option Int:=
 Option.bind (s9 (s6 s) 0) fun e=>
 match e with
 | .inl v20=>
  some (-1)
 | .inr rr21=>
  some rr21
theorem F8 (s:(List c9)) (r:Int) (hm:u0 s=some r):l8 Tryz.prog 206 [lD 4 s c9.c, .fn 175 [] [.ptr [.fn 124 [] []] 0]] (fun x=>x=DI r):=by
 refine zn Tryz.func206 rfl ?_
 obtain⟨ev22,he,hk23⟩:=b9 hm
 refine c8b (s6 s) (fun v7=>⟨[(0,lD 4 s c9.c),(1, .fn 175 [] [.ptr [.fn 124 [] []] 0]),(4,DI 0),(7,DI (s.length:Int)),(8,DI v7)], [],0⟩) 0 (i4.of 0 rfl (tA rfl) trivial) he ?_
 rintro fu24 v7 b hm hi25
 apply vb hm<;>intro _ hm
 obtain⟨e27,hx28,hm⟩:=b9 hm
 refine⟨_,q8 (fun _=>rfl) hx28, ?_⟩
 refine cy hm (a0h e27) fun x29 hm=> ?_
 apply vb hm<;>intro _ hm
 cases hm
 cases hi25
 have hm:=hk23
 exact hm.rr
 cases hm
 exact⟨(_,(W (v7+1))),i4.of 0 rfl (tA rfl) trivial,hi25,Nat.lt_succ_self _⟩
 cases hm
 cases hi25
 have hm:=hk23
 exact hm.rr
def r7 (s:(List c9)):Option Bool:=
 Option.bind (u0 s) fun x1=>
 some (decide (x1≥0))
theorem E7 (s:(List c9)) (r:Bool) (hm:r7 s=some r):l8 Tryz.prog 174 [lD 4 s c9.c, .fn 175 [] [.ptr [.fn 124 [] []] 0]] (fun x=>x=DB r):=by
 refine zn Tryz.func174 rfl ?_
 refine cy hm (F8 s) fun x1 hm=> ?_
 exact hm.rr
def H9 (l:(List c9)) (most:Int):Option Bool:=
 if(decide ((l.length:Int)≤most))=true then
  Option.bind (r7 l) fun x2=>
  some (!x2)
 else
  some false
theorem a0F (l:(List c9)) (most:Int) (r:Bool) (hm:H9 l most=some r):l8 Tryz.prog 132 [lD 4 l c9.c,DI most, .fn 124 [] []] (fun x=>x=DB r):=by
 refine zn Tryz.func132 rfl ?_
 apply vb hm<;>intro _ hm
 refine co hm (E7 l) fun x2 hm=> ?_
 exact hm.rr
 exact hm.rr
def a0n (l:c0) (c_0:Int):Option Bool:=
 Option.bind (C8 l.Thing) fun x1=>
 if x1=true then
  Option.bind (j4 l.Thing) fun x4=>
  if(x4==c_0)=true then
   Option.bind (B3 l.To) fun x7=>
   if x7=true then
    if(l.To !=c_0)=true then
     Option.bind (W9 l.From l.Until) fun x11=>
     some x11
    else
     some false
   else
    some false
  else
   some false
 else
  some false
theorem a8i (l:c0) (c_0:Int) (r:Bool) (hm:a0n l c_0=some r):l8 Tryz.prog 126 [.agg (c0.c l), .ptr [DI c_0] 0] (fun x=>x=DB r):=by
 refine zy c5D [] [] [] Tryz.func126 rfl ?_
 refine⟨rfl, ?_⟩
 refine cy hm (L6 l.Thing) fun x1 hm=> ?_
 apply vb hm<;>intro _ hm
 refine cy hm (m8 l.Thing) fun x4 hm=> ?_
 apply vb hm<;>intro _ hm
 refine cy hm (C7 l.To) fun x7 hm=> ?_
 apply vb hm<;>intro _ hm
 apply vb hm<;>intro _ hm
 refine cy hm (a1I l.From l.Until) fun x11 hm=> ?_
 exact hm.rr
 exact hm.rr
 exact hm.rr
 exact hm.rr
 exact hm.rr
def F6 (x:c0) (c_0:Int):Option Bool:=
 Option.bind (a0n x c_0) fun x1=>
 some (!x1)
theorem a0i (x:c0) (c_0:Int) (r:Bool) (hm:F6 x c_0=some r):l8 Tryz.prog 176 [.agg (c0.c x), .ptr [.fn 126 [] [.ptr [DI c_0] 0]] 0] (fun x=>x=DB r):=by
 refine zn Tryz.func176 rfl ?_
 refine cy hm (a8i x c_0) fun x1 hm=> ?_
 exact hm.rr
def s7 (s:(List c0)) (c1_0:Int):Int→Option (Sum Int (Sum Int Int)):=fun v7=>
 if(decide (v7<(s.length:Int)))=true then
  Option.bind (idx s v7) fun e15=>
  Option.bind (F6 e15 c1_0) fun x17=>
  if x17=true then
   some (.inr (.inr v7))
  else
   some (.inl (W (v7+1)))
 else
  some (.inr (.inl v7))
def u4 (s:(List c0)) (c1_0:Int):Option Int:=
 Option.bind (s9 (s7 s c1_0) 0) fun e=>
 match e with
 | .inl v20=>
  some (-1)
 | .inr rr21=>
  some rr21
theorem G0 (s:(List c0)) (c1_0:Int) (r:Int) (hm:u4 s c1_0=some r):l8 Tryz.prog 179 [lD 5 s c0.c, .fn 176 [] [.ptr [.fn 126 [] [.ptr [DI c1_0] 0]] 0]] (fun x=>x=DI r):=by
 refine zn Tryz.func179 rfl ?_
 obtain⟨ev22,he,hk23⟩:=b9 hm
 refine c8b (s7 s c1_0) (fun v7=>⟨[(0,lD 5 s c0.c),(1, .fn 176 [] [.ptr [.fn 126 [] [.ptr [DI c1_0] 0]] 0]),(4,DI 0),(7,DI (s.length:Int)),(8,DI v7)], [],0⟩) 0 (i4.of 0 rfl (tA rfl) trivial) he ?_
 rintro fu24 v7 b hm hi25
 apply vb hm<;>intro _ hm
 obtain⟨e27,hx28,hm⟩:=b9 hm
 refine⟨_,q8 (fun _=>rfl) hx28, ?_⟩
 refine cy hm (a0i e27 c1_0) fun x29 hm=> ?_
 apply vb hm<;>intro _ hm
 cases hm
 cases hi25
 have hm:=hk23
 exact hm.rr
 cases hm
 exact⟨(_,(W (v7+1))),i4.of 0 rfl (tA rfl) trivial,hi25,Nat.lt_succ_self _⟩
 cases hm
 cases hi25
 have hm:=hk23
 exact hm.rr
def r6 (s:(List c0)) (c1_0:Int):Option Bool:=
 Option.bind (u4 s c1_0) fun x1=>
 some (decide (x1≥0))
theorem F3 (s:(List c0)) (c1_0:Int) (r:Bool) (hm:r6 s c1_0=some r):l8 Tryz.prog 143 [lD 5 s c0.c, .fn 176 [] [.ptr [.fn 126 [] [.ptr [DI c1_0] 0]] 0]] (fun x=>x=DB r):=by
 refine zn Tryz.func143 rfl ?_
 refine cy hm (G0 s c1_0) fun x1 hm=> ?_
 exact hm.rr
def H8 (l:(List c0)) (most:Int) (c2_0:Int):Option Bool:=
 if(decide ((l.length:Int)≤most))=true then
  Option.bind (r6 l c2_0) fun x2=>
  some (!x2)
 else
  some false
theorem a0C (l:(List c0)) (most:Int) (c2_0:Int) (r:Bool) (hm:H8 l most c2_0=some r):l8 Tryz.prog 133 [lD 5 l c0.c,DI most, .fn 126 [] [.ptr [DI c2_0] 0]] (fun x=>x=DB r):=by
 refine zn Tryz.func133 rfl ?_
 apply vb hm<;>intro _ hm
 refine co hm (F3 l c2_0) fun x2 hm=> ?_
 exact hm.rr
 exact hm.rr
def a0l (l:d7) (c_0:Int):Option Bool:=
 Option.bind (B3 l.Owner) fun x1=>
 if x1=true then
  if(l.Owner !=c_0)=true then
   Option.bind (k9 l.No 1 40) fun x5=>
   if x5=true then
    Option.bind (C8 l.Thing) fun x8=>
    if x8=true then
     Option.bind (j4 l.Thing) fun x11=>
     if(x11==l.Owner)=true then
      Option.bind (W9 l.From l.Until) fun x14=>
      some x14
     else
      some false
    else
     some false
   else
    some false
  else
   some false
 else
  some false
theorem a8l (l:d7) (c_0:Int) (r:Bool) (hm:a0l l c_0=some r):l8 Tryz.prog 128 [.agg (d7.c l), .ptr [DI c_0] 0] (fun x=>x=DB r):=by
 refine zy c4J [] [] [] Tryz.func128 rfl ?_
 refine⟨rfl, ?_⟩
 refine cy hm (C7 l.Owner) fun x1 hm=> ?_
 apply vb hm<;>intro _ hm
 apply vb hm<;>intro _ hm
 refine cy hm (o5 l.No 1 40) fun x5 hm=> ?_
 apply vb hm<;>intro _ hm
 refine cy hm (L6 l.Thing) fun x8 hm=> ?_
 apply vb hm<;>intro _ hm
 refine cy hm (m8 l.Thing) fun x11 hm=> ?_
 apply vb hm<;>intro _ hm
 refine cy hm (a1I l.From l.Until) fun x14 hm=> ?_
 exact hm.rr
 exact hm.rr
 exact hm.rr
 exact hm.rr
 exact hm.rr
 exact hm.rr
def G7 (x:d7) (c_0:Int):Option Bool:=
 Option.bind (a0l x c_0) fun x1=>
 some (!x1)
theorem a0t (x:d7) (c_0:Int) (r:Bool) (hm:G7 x c_0=some r):l8 Tryz.prog 177 [.agg (d7.c x), .ptr [.fn 128 [] [.ptr [DI c_0] 0]] 0] (fun x=>x=DB r):=by
 refine zn Tryz.func177 rfl ?_
 refine cy hm (a8l x c_0) fun x1 hm=> ?_
 exact hm.rr
def t6 (s:(List d7)) (c1_0:Int):Int→Option (Sum Int (Sum Int Int)):=fun v7=>
 if(decide (v7<(s.length:Int)))=true then
  Option.bind (idx s v7) fun e15=>
  Option.bind (G7 e15 c1_0) fun x17=>
  if x17=true then
   some (.inr (.inr v7))
  else
   some (.inl (W (v7+1)))
 else
  some (.inr (.inl v7))
def w4 (s:(List d7)) (c1_0:Int):Option Int:=
 Option.bind (s9 (t6 s c1_0) 0) fun e=>
 match e with
 | .inl v20=>
  some (-1)
 | .inr rr21=>
  some rr21
theorem I0 (s:(List d7)) (c1_0:Int) (r:Int) (hm:w4 s c1_0=some r):l8 Tryz.prog 190 [lD 6 s d7.c, .fn 177 [] [.ptr [.fn 128 [] [.ptr [DI c1_0] 0]] 0]] (fun x=>x=DI r):=by
 refine zn Tryz.func190 rfl ?_
 obtain⟨ev22,he,hk23⟩:=b9 hm
 refine c8b (t6 s c1_0) (fun v7=>⟨[(0,lD 6 s d7.c),(1, .fn 177 [] [.ptr [.fn 128 [] [.ptr [DI c1_0] 0]] 0]),(4,DI 0),(7,DI (s.length:Int)),(8,DI v7)], [],0⟩) 0 (i4.of 0 rfl (tA rfl) trivial) he ?_
 rintro fu24 v7 b hm hi25
 apply vb hm<;>intro _ hm
 obtain⟨e27,hx28,hm⟩:=b9 hm
 refine⟨_,q8 (fun _=>rfl) hx28, ?_⟩
 refine cy hm (a0t e27 c1_0) fun x29 hm=> ?_
 apply vb hm<;>intro _ hm
 cases hm
 cases hi25
 have hm:=hk23
 exact hm.rr
 cases hm
 exact⟨(_,(W (v7+1))),i4.of 0 rfl (tA rfl) trivial,hi25,Nat.lt_succ_self _⟩
 cases hm
 cases hi25
 have hm:=hk23
 exact hm.rr
def u5 (s:(List d7)) (c1_0:Int):Option Bool:=
 Option.bind (w4 s c1_0) fun x1=>
 some (decide (x1≥0))
theorem F9 (s:(List d7)) (c1_0:Int) (r:Bool) (hm:u5 s c1_0=some r):l8 Tryz.prog 165 [lD 6 s d7.c, .fn 177 [] [.ptr [.fn 128 [] [.ptr [DI c1_0] 0]] 0]] (fun x=>x=DB r):=by
 refine zn Tryz.func165 rfl ?_
 refine cy hm (I0 s c1_0) fun x1 hm=> ?_
 exact hm.rr
def J4 (l:(List d7)) (most:Int) (c2_0:Int):Option Bool:=
 if(decide ((l.length:Int)≤most))=true then
  Option.bind (u5 l c2_0) fun x2=>
  some (!x2)
 else
  some false
theorem a0Q (l:(List d7)) (most:Int) (c2_0:Int) (r:Bool) (hm:J4 l most c2_0=some r):l8 Tryz.prog 134 [lD 6 l d7.c,DI most, .fn 128 [] [.ptr [DI c2_0] 0]] (fun x=>x=DB r):=by
 refine zn Tryz.func134 rfl ?_
 apply vb hm<;>intro _ hm
 refine co hm (F9 l c2_0) fun x2 hm=> ?_
 exact hm.rr
 exact hm.rr
def M2 (l:(List d0)):Int→Option (Sum Int (Sum Int Bool)):=fun i9=>
 if(decide (i9<(l.length:Int)))=true then
  Option.bind (idx l (W (i9-1))) fun e19=>
  Option.bind (idx l i9) fun e21=>
  Option.bind (J5 e19 e21) fun x23=>
  if(decide (x23≥0))=true then
   some (.inr (.inr false))
  else
   some (.inl (W (i9+1)))
 else
  some (.inr (.inl i9))
def E9 (l:(List d0)):Option Bool:=
 Option.bind (s9 (M2 l) 1) fun e=>
 match e with
 | .inl i26=>
  some true
 | .inr rr27=>
  some rr27
theorem Z6 (l:(List d0)) (r:Bool) (hm:E9 l=some r):l8 Tryz.prog 135 [lD 4 l d0.c, .fn 136 [] []] (fun x=>x=DB r):=by
 refine zy c5B [] [] [] Tryz.func135 rfl ?_
 obtain⟨ev28,he,hk29⟩:=b9 hm
 refine c8b (M2 l) (fun i9=>⟨[(0,lD 4 l d0.c),(1, .fn 136 [] []),(4,DB false),(5,DI i9)], [],0⟩) 1 (i4.of 0 rfl (tA rfl) trivial) he ?_
 rintro fu30 i9 b hm hi31
 apply vb hm<;>intro _ hm
 refine⟨rfl, ?_⟩
 obtain⟨e33,hx34,hm⟩:=b9 hm
 refine⟨_,q8 (fun _=>rfl) hx34, ?_⟩
 obtain⟨e35,hx36,hm⟩:=b9 hm
 refine⟨_,q8 (fun _=>rfl) hx36, ?_⟩
 refine cy hm (a0P e33 e35) fun x37 hm=> ?_
 apply vb hm<;>intro _ hm
 cases hm
 cases hi31
 have hm:=hk29
 exact hm.rr
 cases hm
 exact⟨(_,(W (i9+1))),i4.of 0 rfl (tA rfl) trivial,hi31,Nat.lt_succ_self _⟩
 cases hm
 cases hi31
 have hm:=hk29
 exact hm.rr
def M9 (l:(List d9)):Int→Option (Sum Int (Sum Int Bool)):=fun i9=>
 if(decide (i9<(l.length:Int)))=true then
  Option.bind (idx l (W (i9-1))) fun e19=>
  Option.bind (idx l i9) fun e21=>
  Option.bind (L1 e19 e21) fun x23=>
  if(decide (x23≥0))=true then
   some (.inr (.inr false))
  else
   some (.inl (W (i9+1)))
 else
  some (.inr (.inl i9))
def G9 (l:(List d9)):Option Bool:=
 Option.bind (s9 (M9 l) 1) fun e=>
 match e with
 | .inl i26=>
  some true
 | .inr rr27=>
  some rr27
theorem a0o (l:(List d9)) (r:Bool) (hm:G9 l=some r):l8 Tryz.prog 137 [lD 6 l d9.c, .fn 89 [] []] (fun x=>x=DB r):=by
 refine zy c5H [] [] [] Tryz.func137 rfl ?_
 obtain⟨ev28,he,hk29⟩:=b9 hm
 refine c8b (M9 l) (fun i9=>⟨[(0,lD 6 l d9.c),(1, .fn 89 [] []),(4,DB false),(5,DI i9)], [],0⟩) 1 (i4.of 0 rfl (tA rfl) trivial) he ?_
 rintro fu30 i9 b hm hi31
 apply vb hm<;>intro _ hm
 refine⟨rfl, ?_⟩
 obtain⟨e33,hx34,hm⟩:=b9 hm
 refine⟨_,q8 (fun _=>rfl) hx34, ?_⟩
 obtain⟨e35,hx36,hm⟩:=b9 hm
 refine⟨_,q8 (fun _=>rfl) hx36, ?_⟩
 refine cy hm (a0W e33 e35) fun x37 hm=> ?_
 apply vb hm<;>intro _ hm
 cases hm
 cases hi31
 have hm:=hk29
 exact hm.rr
 cases hm
 exact⟨(_,(W (i9+1))),i4.of 0 rfl (tA rfl) trivial,hi31,Nat.lt_succ_self _⟩
 cases hm
 cases hi31
 have hm:=hk29
 exact hm.rr
def L8 (l:(List c9)):Int→Option (Sum Int (Sum Int Bool)):=fun i9=>
 if(decide (i9<(l.length:Int)))=true then
  Option.bind (idx l (W (i9-1))) fun e19=>
  Option.bind (idx l i9) fun e21=>
  Option.bind (J2 e19 e21) fun x23=>
  if(decide (x23≥0))=true then
   some (.inr (.inr false))
  else
   some (.inl (W (i9+1)))
 else
  some (.inr (.inl i9))
def D9 (l:(List c9)):Option Bool:=
 Option.bind (s9 (L8 l) 1) fun e=>
 match e with
 | .inl i26=>
  some true
 | .inr rr27=>
  some rr27
theorem Z1 (l:(List c9)) (r:Bool) (hm:D9 l=some r):l8 Tryz.prog 138 [lD 4 l c9.c, .fn 139 [] []] (fun x=>x=DB r):=by
 refine zy c4T [] [] [] Tryz.func138 rfl ?_
 obtain⟨ev28,he,hk29⟩:=b9 hm
 refine c8b (L8 l) (fun i9=>⟨[(0,lD 4 l c9.c),(1, .fn 139 [] []),(4,DB false),(5,DI i9)], [],0⟩) 1 (i4.of 0 rfl (tA rfl) trivial) he ?_
 rintro fu30 i9 b hm hi31
 apply vb hm<;>intro _ hm
 refine⟨rfl, ?_⟩
 obtain⟨e33,hx34,hm⟩:=b9 hm
 refine⟨_,q8 (fun _=>rfl) hx34, ?_⟩
 obtain⟨e35,hx36,hm⟩:=b9 hm
 refine⟨_,q8 (fun _=>rfl) hx36, ?_⟩
 refine cy hm (a0O e33 e35) fun x37 hm=> ?_
 apply vb hm<;>intro _ hm
 cases hm
 cases hi31
 have hm:=hk29
 exact hm.rr
 cases hm
 exact⟨(_,(W (i9+1))),i4.of 0 rfl (tA rfl) trivial,hi31,Nat.lt_succ_self _⟩
 cases hm
 cases hi31
 have hm:=hk29
 exact hm.rr
def M3 (l:(List d7)):Int→Option (Sum Int (Sum Int Bool)):=fun i9=>
 if(decide (i9<(l.length:Int)))=true then
  Option.bind (idx l (W (i9-1))) fun e19=>
  Option.bind (idx l i9) fun e21=>
  Option.bind (J3 e19 e21) fun x23=>
  if(decide (x23≥0))=true then
   some (.inr (.inr false))
  else
   some (.inl (W (i9+1)))
 else
  some (.inr (.inl i9))
def F2 (l:(List d7)):Option Bool:=
 Option.bind (s9 (M3 l) 1) fun e=>
 match e with
 | .inl i26=>
  some true
 | .inr rr27=>
  some rr27
theorem Z5 (l:(List d7)) (r:Bool) (hm:F2 l=some r):l8 Tryz.prog 140 [lD 6 l d7.c, .fn 95 [] []] (fun x=>x=DB r):=by
 refine zy c6i [] [] [] Tryz.func140 rfl ?_
 obtain⟨ev28,he,hk29⟩:=b9 hm
 refine c8b (M3 l) (fun i9=>⟨[(0,lD 6 l d7.c),(1, .fn 95 [] []),(4,DB false),(5,DI i9)], [],0⟩) 1 (i4.of 0 rfl (tA rfl) trivial) he ?_
 rintro fu30 i9 b hm hi31
 apply vb hm<;>intro _ hm
 refine⟨rfl, ?_⟩
 obtain⟨e33,hx34,hm⟩:=b9 hm
 refine⟨_,q8 (fun _=>rfl) hx34, ?_⟩
 obtain⟨e35,hx36,hm⟩:=b9 hm
 refine⟨_,q8 (fun _=>rfl) hx36, ?_⟩
 refine cy hm (a0K e33 e35) fun x37 hm=> ?_
 apply vb hm<;>intro _ hm
 cases hm
 cases hi31
 have hm:=hk29
 exact hm.rr
 cases hm
 exact⟨(_,(W (i9+1))),i4.of 0 rfl (tA rfl) trivial,hi31,Nat.lt_succ_self _⟩
 cases hm
 cases hi31
 have hm:=hk29
 exact hm.rr
def a1S (c:d9) (c_0:d9):Option Bool:=
 some (c.Ballot==c_0.Ballot)
theorem a7Q (c:d9) (c_0:d9) (r:Bool) (hm:a1S c c_0=some r):l8 Tryz.prog 142 [.agg (d9.c c), .ptr (d9.c c_0) 0] (fun x=>x=DB r):=by
 refine zn Tryz.func142 rfl ?_
 exact hm.rr
def H4 (s:(List d9)) (c1_0:d9):Int→Option (Sum Int (Sum Int Int)):=fun v7=>
 if(decide (v7<(s.length:Int)))=true then
  Option.bind (idx s v7) fun e15=>
  Option.bind (a1S e15 c1_0) fun x17=>
  if x17=true then
   some (.inr (.inr v7))
  else
   some (.inl (W (v7+1)))
 else
  some (.inr (.inl v7))
def K2 (s:(List d9)) (c1_0:d9):Option Int:=
 Option.bind (s9 (H4 s c1_0) 0) fun e=>
 match e with
 | .inl v20=>
  some (-1)
 | .inr rr21=>
  some rr21
theorem S5 (s:(List d9)) (c1_0:d9) (r:Int) (hm:K2 s c1_0=some r):l8 Tryz.prog 178 [lD 6 s d9.c, .fn 142 [] [.ptr (d9.c c1_0) 0]] (fun x=>x=DI r):=by
 refine zn Tryz.func178 rfl ?_
 obtain⟨ev22,he,hk23⟩:=b9 hm
 refine c8b (H4 s c1_0) (fun v7=>⟨[(0,lD 6 s d9.c),(1, .fn 142 [] [.ptr (d9.c c1_0) 0]),(4,DI 0),(7,DI (s.length:Int)),(8,DI v7)], [],0⟩) 0 (i4.of 0 rfl (tA rfl) trivial) he ?_
 rintro fu24 v7 b hm hi25
 apply vb hm<;>intro _ hm
 obtain⟨e27,hx28,hm⟩:=b9 hm
 refine⟨_,q8 (fun _=>rfl) hx28, ?_⟩
 refine cy hm (a7Q e27 c1_0) fun x29 hm=> ?_
 apply vb hm<;>intro _ hm
 cases hm
 cases hi25
 have hm:=hk23
 exact hm.rr
 cases hm
 exact⟨(_,(W (v7+1))),i4.of 0 rfl (tA rfl) trivial,hi25,Nat.lt_succ_self _⟩
 cases hm
 cases hi25
 have hm:=hk23
 exact hm.rr
def H3 (s:(List d9)) (c1_0:d9):Option Bool:=
 Option.bind (K2 s c1_0) fun x1=>
 some (decide (x1≥0))
theorem R4 (s:(List d9)) (c1_0:d9) (r:Bool) (hm:H3 s c1_0=some r):l8 Tryz.prog 141 [lD 6 s d9.c, .fn 142 [] [.ptr (d9.c c1_0) 0]] (fun x=>x=DB r):=by
 refine zn Tryz.func141 rfl ?_
 refine cy hm (S5 s c1_0) fun x1 hm=> ?_
 exact hm.rr
def a1V (o:c0) (c_0:c0):Option Bool:=
 if(o.Thing==c_0.Thing)=true then
  Option.bind (a1z o c_0) fun x2=>
  some x2
 else
  some false
theorem a8n (o:c0) (c_0:c0) (r:Bool) (hm:a1V o c_0=some r):l8 Tryz.prog 144 [.agg (c0.c o), .ptr (c0.c c_0) 0] (fun x=>x=DB r):=by
 refine zn Tryz.func144 rfl ?_
 apply vb hm<;>intro _ hm
 refine cy hm (a7O o c_0) fun x2 hm=> ?_
 exact hm.rr
 exact hm.rr
def E3 (s:(List c0)) (c1_0:c0):Int→Option (Sum Int (Sum Int Int)):=fun v7=>
 if(decide (v7<(s.length:Int)))=true then
  Option.bind (idx s v7) fun e15=>
  Option.bind (a1V e15 c1_0) fun x17=>
  if x17=true then
   some (.inr (.inr v7))
  else
   some (.inl (W (v7+1)))
 else
  some (.inr (.inl v7))
def G3 (s:(List c0)) (c1_0:c0):Option Int:=
 Option.bind (s9 (E3 s c1_0) 0) fun e=>
 match e with
 | .inl v20=>
  some (-1)
 | .inr rr21=>
  some rr21
theorem Q8 (s:(List c0)) (c1_0:c0) (r:Int) (hm:G3 s c1_0=some r):l8 Tryz.prog 179 [lD 5 s c0.c, .fn 144 [] [.ptr (c0.c c1_0) 0]] (fun x=>x=DI r):=by
 refine zn Tryz.func179 rfl ?_
 obtain⟨ev22,he,hk23⟩:=b9 hm
 refine c8b (E3 s c1_0) (fun v7=>⟨[(0,lD 5 s c0.c),(1, .fn 144 [] [.ptr (c0.c c1_0) 0]),(4,DI 0),(7,DI (s.length:Int)),(8,DI v7)], [],0⟩) 0 (i4.of 0 rfl (tA rfl) trivial) he ?_
 rintro fu24 v7 b hm hi25
 apply vb hm<;>intro _ hm
 obtain⟨e27,hx28,hm⟩:=b9 hm
 refine⟨_,q8 (fun _=>rfl) hx28, ?_⟩
 refine cy hm (a8n e27 c1_0) fun x29 hm=> ?_
 apply vb hm<;>intro _ hm
 cases hm
 cases hi25
 have hm:=hk23
 exact hm.rr
 cases hm
 exact⟨(_,(W (v7+1))),i4.of 0 rfl (tA rfl) trivial,hi25,Nat.lt_succ_self _⟩
 cases hm
 cases hi25
 have hm:=hk23
 exact hm.rr
def E2 (s:(List c0)) (c1_0:c0):Option Bool:=
 Option.bind (G3 s c1_0) fun x1=>
 some (decide (x1≥0))
theorem P8 (s:(List c0)) (c1_0:c0) (r:Bool) (hm:E2 s c1_0=some r):l8 Tryz.prog 143 [lD 5 s c0.c, .fn 144 [] [.ptr (c0.c c1_0) 0]] (fun x=>x=DB r):=by
 refine zn Tryz.func143 rfl ?_
 refine cy hm (Q8 s c1_0) fun x1 hm=> ?_
 exact hm.rr
def S3 (s:c8):Int→Option (Sum Int (Sum Int Bool)):=fun v41=>
 if(decide (v41<(s.Bids.length:Int)))=true then
  Option.bind (idx s.Bids v41) fun e50=>
  gd ((0≤v41∧v41≤(s.Bids.length:Int)))<|
  Option.bind (some (sub s.Bids 0 (v41).toNat)) fun sl52=>
  Option.bind (H3 sl52 e50) fun x53=>
  if x53=true then
   some (.inr (.inr false))
  else
   some (.inl (W (v41+1)))
 else
  some (.inr (.inl v41))
def S1 (s:c8):Int→Option (Sum Int (Sum Int Bool)):=fun v65=>
 if(decide (v65<(s.Leases.length:Int)))=true then
  Option.bind (idx s.Leases v65) fun e75=>
  if(e75.No !=(W (v65+1)))=true then
   some (.inr (.inr false))
  else
   gd ((0≤v65∧v65≤(s.Leases.length:Int)))<|
   Option.bind (some (sub s.Leases 0 (v65).toNat)) fun sl78=>
   Option.bind (E2 sl78 e75) fun x79=>
   if x79=true then
    some (.inr (.inr false))
   else
    some (.inl (W (v65+1)))
 else
  some (.inr (.inl v65))
def U2 (me:Int) (s:c8):Option Bool:=
 Option.bind (B3 me) fun x1=>
 if(!x1)=true then
  some false
 else
  Option.bind (k9 s.Round 0 9999) fun x4=>
  if(!x4)=true then
   some false
  else
   Option.bind (L4 s.Slots 12) fun x7=>
   if(!x7)=true then
    some false
   else
    Option.bind (K5 s.Bids 12 s me) fun x10=>
    if(!x10)=true then
     some false
    else
     Option.bind (H9 s.Heard 60) fun x13=>
     if(!x13)=true then
      some false
     else
      Option.bind (H8 s.Leases 40 me) fun x16=>
      if(!x16)=true then
       some false
      else
       Option.bind (J4 s.Loans 60 me) fun x19=>
       if(!x19)=true then
        some false
       else
        Option.bind (E9 s.Slots) fun x22=>
        if(!x22)=true then
         some false
        else
         Option.bind (G9 s.Bids) fun x25=>
         if(!x25)=true then
          some false
         else
          Option.bind (D9 s.Heard) fun x28=>
          if(!x28)=true then
           some false
          else
           Option.bind (F2 s.Loans) fun x31=>
           if(!x31)=true then
            some false
           else
            Option.bind (s9 (S3 s) 0) fun e=>
            match e with
            | .inl v56=>
             Option.bind (s9 (S1 s) 0) fun e=>
             match e with
             | .inl v82=>
              some true
             | .inr rr83=>
              some rr83
            | .inr rr96=>
             some rr96
theorem a2U (me:Int) (s:c8) (r:Bool) (hm:U2 me s=some r):l8 Tryz.prog 73 [DI me, .agg (c8.c s)] (fun x=>x=DB r):=by
 refine zn Tryz.func73 rfl ?_
 refine cy hm (C7 me) fun x1 hm=> ?_
 apply vb hm<;>intro _ hm
 exact hm.rr
 refine cy hm (o5 s.Round 0 9999) fun x4 hm=> ?_
 apply vb hm<;>intro _ hm
 exact hm.rr
 refine cy hm (a1o s.Slots 12) fun x7 hm=> ?_
 apply vb hm<;>intro _ hm
 exact hm.rr
 refine co hm (a0S s.Bids 12 s me) fun x10 hm=> ?_
 apply vb hm<;>intro _ hm
 exact hm.rr
 refine cy hm (a0F s.Heard 60) fun x13 hm=> ?_
 apply vb hm<;>intro _ hm
 exact hm.rr
 refine co hm (a0C s.Leases 40 me) fun x16 hm=> ?_
 apply vb hm<;>intro _ hm
 exact hm.rr
 refine co hm (a0Q s.Loans 60 me) fun x19 hm=> ?_
 apply vb hm<;>intro _ hm
 exact hm.rr
 refine cy hm (Z6 s.Slots) fun x22 hm=> ?_
 apply vb hm<;>intro _ hm
 exact hm.rr
 refine cy hm (a0o s.Bids) fun x25 hm=> ?_
 apply vb hm<;>intro _ hm
 exact hm.rr
 refine cy hm (Z1 s.Heard) fun x28 hm=> ?_
 apply vb hm<;>intro _ hm
 exact hm.rr
 refine cy hm (Z5 s.Loans) fun x31 hm=> ?_
 apply vb hm<;>intro _ hm
 exact hm.rr
 obtain⟨ev97,he,hk98⟩:=b9 hm
 refine c8b (S3 s) (fun v41=>⟨[(0,DI me),(1, .agg (c8.c s)),(2, .own 0 0),(3, .own 1 0),(4,DB false),(5, .fn 122 [] [.own 1 0, .own 0 0]),(6, .fn 124 [] []),(7, .fn 126 [] [.own 0 0]),(8, .fn 128 [] [.own 0 0]),(58,DB (!x19)),(80,DB (!x31)),(82,lD 6 s.Bids d9.c),(83,DI (s.Bids.length:Int)),(84,DI v41)], [(0, .blk [DI me] 3),(1, .blk (c8.c s) 28)],2⟩) 0 (i4.of 2 rfl (tA rfl) ⟨hR rfl,hR rfl,trivial⟩) he ?_
 rintro fu99 v41 b hm hi100
 apply vb hm<;>intro _ hm
 obtain⟨e102,hx103,hm⟩:=b9 hm
 refine⟨_,q8 (fun _=>rfl) hx103, ?_⟩
 obtain⟨hg,hm⟩:=n9 hm
 obtain⟨sl104,hy,hm⟩:=b9 hm
 refine⟨hg,_,(b5M (c:=d9.c) (z:=6) (fun _=>rfl) _ _ _).trans (congrArg _ (Option.some.inj hy)), ?_⟩
 have hl:sl104.length=(v41).toNat-0:=by rw [←Option.some.inj hy];exact b8z (by omega)
 rw [←hl]
 refine co hm (R4 sl104 e102) fun x105 hm=> ?_
 apply vb hm<;>intro _ hm
 cases hm
 cases hi100
 have hm:=hk98
 exact hm.rr
 cases hm
 exact⟨(_,(W (v41+1))),i4.of 2 rfl (tA rfl) ⟨hR rfl,hR rfl,trivial⟩,hi100,Nat.lt_succ_self _⟩
 cases hm
 cases hi100
 have hm:=hk98
 obtain⟨ev135,he,hk136⟩:=b9 hm
 refine c8b (S1 s) (fun v116=>⟨[(0,DI me),(1, .agg (c8.c s)),(2, .own 0 0),(3, .own 1 0),(4,DB false),(5, .fn 122 [] [.own 1 0, .own 0 0]),(6, .fn 124 [] []),(7, .fn 126 [] [.own 0 0]),(8, .fn 128 [] [.own 0 0]),(58,DB (!x19)),(80,DB (!x31)),(82,lD 6 s.Bids d9.c),(83,DI (s.Bids.length:Int)),(84,DI v41),(85,DB (decide (v41<(s.Bids.length:Int)))),(97,lD 5 s.Leases c0.c),(98,DI (s.Leases.length:Int)),(99,DI v116)], [(0, .blk [DI me] 3),(1, .blk (c8.c s) 28)],2⟩) 0 (i4.of 2 rfl (tA rfl) ⟨hR rfl,hR rfl,trivial⟩) he ?_
 rintro fu137 v116 b hm hi138
 apply vb hm<;>intro _ hm
 obtain⟨e140,hx141,hm⟩:=b9 hm
 refine⟨_,q8 (fun _=>rfl) hx141, ?_⟩
 apply vb hm<;>intro _ hm
 cases hm
 cases hi138
 have hm:=hk136
 exact hm.rr
 obtain⟨hg,hm⟩:=n9 hm
 obtain⟨sl143,hy,hm⟩:=b9 hm
 refine⟨hg,_,(b5M (c:=c0.c) (z:=5) (fun _=>rfl) _ _ _).trans (congrArg _ (Option.some.inj hy)), ?_⟩
 have hl:sl143.length=(v116).toNat-0:=by rw [←Option.some.inj hy];exact b8z (by omega)
 rw [←hl]
 refine co hm (P8 sl143 e140) fun x144 hm=> ?_
 apply vb hm<;>intro _ hm
 cases hm
 cases hi138
 have hm:=hk136
 exact hm.rr
 cases hm
 exact⟨(_,(W (v116+1))),i4.of 2 rfl (tA rfl) ⟨hR rfl,hR rfl,trivial⟩,hi138,Nat.lt_succ_self _⟩
 cases hm
 cases hi138
 have hm:=hk136
 exact hm.rr
def a1a (x:a8):Option Int:=
 Option.bind (U2 x.Me x.Now) fun x1=>
 if(!x1)=true then
  some 90
 else
  Option.bind (U2 x.Me x.Safe) fun x4=>
  if(!x4)=true then
   some 90
  else
   some 0
theorem V1 (x:a8) (r:Int) (hm:a1a x=some r):l8 Tryz.prog 27 [.agg (a8.c x)] (fun x=>x=DI r):=by
 refine zn Tryz.func27 rfl ?_
 refine cy hm (a2U x.Me x.Now) fun x1 hm=> ?_
 apply vb hm<;>intro _ hm
 exact hm.rr
 refine cy hm (a2U x.Me x.Safe) fun x4 hm=> ?_
 apply vb hm<;>intro _ hm
 exact hm.rr
 exact hm.rr
def K1 (s:List d0):Option (List d0):=gd (s.length*32≤140737488355328∧s.length≤9223372036854775807) (some s)
theorem a2s (s:List d0) (r:List d0) (hm:K1 s=some r):l8 Tryz.prog 112 [.lst 4 s.length (s.flatMap d0.c)] (fun x=>x= .lst 4 r.length (r.flatMap d0.c)):=by
 obtain⟨hg,hm⟩:=n9 hm
 cases hm
 refine zn Tryz.func112 rfl ?_
 intro b hb
 refine VIf.mk (fun h=> ?_) (fun h=> ?_)
 · have h0:=hb h
   have h1:s= []:=List.eq_nil_of_length_eq_zero h0
   subst h1
   exact c8a c7Z
 · refine⟨[],0,⟨rfl,rfl⟩, ?_⟩
   exact⟨by omega,s.flatMap d0.c,s.length,⟨rfl,Nat.zero_add _⟩,c8a (c7Y _)⟩
theorem a2A (s:List d0) (r:List d0) (hm:K1 s=some r):b0x Tryz.prog 112 [.lst 4 s.length (s.flatMap d0.c)] 4 r.length (r.flatMap d0.c) 110:=by
 obtain⟨hg,hm⟩:=n9 hm
 cases hm
 refine a8O (X:=⟨Tryz.prog,tt,Tryz.f112.ntmps, [], [], [], [], [], []⟩) pok _ Tryz.func112 rfl rfl (Nat.le_of_ble_eq_true rfl) ?_
 intro b hb
 refine VIf.mk (fun h=> ?_) (fun h=> ?_)
 · have h0:=hb h
   have h1:s= []:=List.eq_nil_of_length_eq_zero h0
   subst h1
   exact⟨rfl,rfl⟩
 · refine⟨[],0,⟨rfl,rfl⟩, ?_⟩
   exact⟨by omega,s.flatMap d0.c,s.length,⟨rfl,Nat.zero_add _⟩,⟨rfl,rfl⟩⟩
def L5 (s:List d9):Option (List d9):=gd (s.length*48≤140737488355328∧s.length≤9223372036854775807) (some s)
theorem a2O (s:List d9) (r:List d9) (hm:L5 s=some r):l8 Tryz.prog 113 [.lst 6 s.length (s.flatMap d9.c)] (fun x=>x= .lst 6 r.length (r.flatMap d9.c)):=by
 obtain⟨hg,hm⟩:=n9 hm
 cases hm
 refine zn Tryz.func113 rfl ?_
 intro b hb
 refine VIf.mk (fun h=> ?_) (fun h=> ?_)
 · have h0:=hb h
   have h1:s= []:=List.eq_nil_of_length_eq_zero h0
   subst h1
   exact c8a c7Z
 · refine⟨[],0,⟨rfl,rfl⟩, ?_⟩
   exact⟨by omega,s.flatMap d9.c,s.length,⟨rfl,Nat.zero_add _⟩,c8a (c7Y _)⟩
theorem a2W (s:List d9) (r:List d9) (hm:L5 s=some r):b0x Tryz.prog 113 [.lst 6 s.length (s.flatMap d9.c)] 6 r.length (r.flatMap d9.c) 108:=by
 obtain⟨hg,hm⟩:=n9 hm
 cases hm
 refine a8O (X:=⟨Tryz.prog,tt,Tryz.f113.ntmps, [], [], [], [], [], []⟩) pok _ Tryz.func113 rfl rfl (Nat.le_of_ble_eq_true rfl) ?_
 intro b hb
 refine VIf.mk (fun h=> ?_) (fun h=> ?_)
 · have h0:=hb h
   have h1:s= []:=List.eq_nil_of_length_eq_zero h0
   subst h1
   exact⟨rfl,rfl⟩
 · refine⟨[],0,⟨rfl,rfl⟩, ?_⟩
   exact⟨by omega,s.flatMap d9.c,s.length,⟨rfl,Nat.zero_add _⟩,⟨rfl,rfl⟩⟩
def G6 (s:List c9):Option (List c9):=gd (s.length*32≤140737488355328∧s.length≤9223372036854775807) (some s)
theorem a1O (s:List c9) (r:List c9) (hm:G6 s=some r):l8 Tryz.prog 114 [.lst 4 s.length (s.flatMap c9.c)] (fun x=>x= .lst 4 r.length (r.flatMap c9.c)):=by
 obtain⟨hg,hm⟩:=n9 hm
 cases hm
 refine zn Tryz.func114 rfl ?_
 intro b hb
 refine VIf.mk (fun h=> ?_) (fun h=> ?_)
 · have h0:=hb h
   have h1:s= []:=List.eq_nil_of_length_eq_zero h0
   subst h1
   exact c8a c7Z
 · refine⟨[],0,⟨rfl,rfl⟩, ?_⟩
   exact⟨by omega,s.flatMap c9.c,s.length,⟨rfl,Nat.zero_add _⟩,c8a (c7Y _)⟩
theorem a1U (s:List c9) (r:List c9) (hm:G6 s=some r):b0x Tryz.prog 114 [.lst 4 s.length (s.flatMap c9.c)] 4 r.length (r.flatMap c9.c) 149:=by
 obtain⟨hg,hm⟩:=n9 hm
 cases hm
 refine a8O (X:=⟨Tryz.prog,tt,Tryz.f114.ntmps, [], [], [], [], [], []⟩) pok _ Tryz.func114 rfl rfl (Nat.le_of_ble_eq_true rfl) ?_
 intro b hb
 refine VIf.mk (fun h=> ?_) (fun h=> ?_)
 · have h0:=hb h
   have h1:s= []:=List.eq_nil_of_length_eq_zero h0
   subst h1
   exact⟨rfl,rfl⟩
 · refine⟨[],0,⟨rfl,rfl⟩, ?_⟩
   exact⟨by omega,s.flatMap c9.c,s.length,⟨rfl,Nat.zero_add _⟩,⟨rfl,rfl⟩⟩
def G5 (s:List c0):Option (List c0):=gd (s.length*40≤140737488355328∧s.length≤9223372036854775807) (some s)
theorem a1R (s:List c0) (r:List c0) (hm:G5 s=some r):l8 Tryz.prog 115 [.lst 5 s.length (s.flatMap c0.c)] (fun x=>x= .lst 5 r.length (r.flatMap c0.c)):=by
 obtain⟨hg,hm⟩:=n9 hm
 cases hm
 refine zn Tryz.func115 rfl ?_
 intro b hb
 refine VIf.mk (fun h=> ?_) (fun h=> ?_)
 · have h0:=hb h
   have h1:s= []:=List.eq_nil_of_length_eq_zero h0
   subst h1
   exact c8a c7Z
 · refine⟨[],0,⟨rfl,rfl⟩, ?_⟩
   exact⟨by omega,s.flatMap c0.c,s.length,⟨rfl,Nat.zero_add _⟩,c8a (c7Y _)⟩
theorem a1T (s:List c0) (r:List c0) (hm:G5 s=some r):b0x Tryz.prog 115 [.lst 5 s.length (s.flatMap c0.c)] 5 r.length (r.flatMap c0.c) 112:=by
 obtain⟨hg,hm⟩:=n9 hm
 cases hm
 refine a8O (X:=⟨Tryz.prog,tt,Tryz.f115.ntmps, [], [], [], [], [], []⟩) pok _ Tryz.func115 rfl rfl (Nat.le_of_ble_eq_true rfl) ?_
 intro b hb
 refine VIf.mk (fun h=> ?_) (fun h=> ?_)
 · have h0:=hb h
   have h1:s= []:=List.eq_nil_of_length_eq_zero h0
   subst h1
   exact⟨rfl,rfl⟩
 · refine⟨[],0,⟨rfl,rfl⟩, ?_⟩
   exact⟨by omega,s.flatMap c0.c,s.length,⟨rfl,Nat.zero_add _⟩,⟨rfl,rfl⟩⟩
def J8 (s:List d7):Option (List d7):=gd (s.length*48≤140737488355328∧s.length≤9223372036854775807) (some s)
theorem a2u (s:List d7) (r:List d7) (hm:J8 s=some r):l8 Tryz.prog 116 [.lst 6 s.length (s.flatMap d7.c)] (fun x=>x= .lst 6 r.length (r.flatMap d7.c)):=by
 obtain⟨hg,hm⟩:=n9 hm
 cases hm
 refine zn Tryz.func116 rfl ?_
 intro b hb
 refine VIf.mk (fun h=> ?_) (fun h=> ?_)
 · have h0:=hb h
   have h1:s= []:=List.eq_nil_of_length_eq_zero h0
   subst h1
   exact c8a c7Z
 · refine⟨[],0,⟨rfl,rfl⟩, ?_⟩
   exact⟨by omega,s.flatMap d7.c,s.length,⟨rfl,Nat.zero_add _⟩,c8a (c7Y _)⟩
theorem a2v (s:List d7) (r:List d7) (hm:J8 s=some r):b0x Tryz.prog 116 [.lst 6 s.length (s.flatMap d7.c)] 6 r.length (r.flatMap d7.c) 114:=by
 obtain⟨hg,hm⟩:=n9 hm
 cases hm
 refine a8O (X:=⟨Tryz.prog,tt,Tryz.f116.ntmps, [], [], [], [], [], []⟩) pok _ Tryz.func116 rfl rfl (Nat.le_of_ble_eq_true rfl) ?_
 intro b hb
 refine VIf.mk (fun h=> ?_) (fun h=> ?_)
 · have h0:=hb h
   have h1:s= []:=List.eq_nil_of_length_eq_zero h0
   subst h1
   exact⟨rfl,rfl⟩
 · refine⟨[],0,⟨rfl,rfl⟩, ?_⟩
   exact⟨by omega,s.flatMap d7.c,s.length,⟨rfl,Nat.zero_add _⟩,⟨rfl,rfl⟩⟩
def E5 (s:c8):Option c8:=
 Option.bind (K1 s.Slots) fun x1=>
 Option.bind (L5 s.Bids) fun x3=>
 Option.bind (G6 s.Heard) fun x5=>
 Option.bind (G5 s.Leases) fun x7=>
 Option.bind (J8 s.Loans) fun x9=>
 some (⟨s.Round,x1,x3,x5,x7,x9⟩:c8)
theorem P4 (s:c8) (r:c8) (hm:E5 s=some r):l8 Tryz.prog 62 [.agg (c8.c s)] (fun x=>x= .agg (c8.c r)):=by
 refine zy c6b [] [] [] Tryz.func62 rfl ?_
 refine⟨rfl, ?_⟩
 obtain⟨x1,hx2,hm⟩:=b9 hm
 refine a5u.det (a2s s.Slots _ hx2) ?_
 obtain⟨x3,hx4,hm⟩:=b9 hm
 refine a5u.det (a2O s.Bids _ hx4) ?_
 obtain⟨x5,hx6,hm⟩:=b9 hm
 refine a5u.det (a1O s.Heard _ hx6) ?_
 obtain⟨x7,hx8,hm⟩:=b9 hm
 refine a5u.det (a1R s.Leases _ hx8) ?_
 obtain⟨x9,hx10,hm⟩:=b9 hm
 refine a5u.det (a2u s.Loans _ hx10) ?_
 cases hm
 exact c8a (c7Y _)
theorem N3 (s:c8) (r:c8) (hm:E5 s=some r):b8v Tryz.prog 62 [.agg (c8.c s)] [(4,r.Slots.length,r.Slots.flatMap d0.c,110),(6,r.Bids.length,r.Bids.flatMap d9.c,108),(4,r.Heard.length,r.Heard.flatMap c9.c,149),(5,r.Leases.length,r.Leases.flatMap c0.c,112),(6,r.Loans.length,r.Loans.flatMap d7.c,114)] [DI r.Round, .row 0 4, .row 1 6, .row 2 4, .row 3 5, .row 4 6]:=by
 refine c3j (X:=⟨Tryz.prog,tt,Tryz.f62.ntmps,c6b, [99,106,149,210,211,220], [112,113,114,115,116], [], [], []⟩) pok _ Tryz.func62 rfl rfl (Nat.le_of_ble_eq_true rfl) rfl ?_
 refine⟨rfl, ?_⟩
 obtain⟨x1,hx2,hm⟩:=b9 hm
 refine .inl (b1O.mk ⟨_,_,_,_,a2A s.Slots _ hx2, ?_⟩)
 obtain⟨x3,hx4,hm⟩:=b9 hm
 refine .inl (b1O.mk ⟨_,_,_,_,a2W s.Bids _ hx4, ?_⟩)
 obtain⟨x5,hx6,hm⟩:=b9 hm
 refine .inl (b1O.mk ⟨_,_,_,_,a1U s.Heard _ hx6, ?_⟩)
 obtain⟨x7,hx8,hm⟩:=b9 hm
 refine .inl (b1O.mk ⟨_,_,_,_,a1T s.Leases _ hx8, ?_⟩)
 obtain⟨x9,hx10,hm⟩:=b9 hm
 refine .inl (b1O.mk ⟨_,_,_,_,a2v s.Loans _ hx10, ?_⟩)
 cases hm
 exact⟨rfl,⟨⟨rfl,rfl⟩,⟨⟨rfl,rfl,rfl,rfl⟩,⟨⟨rfl,rfl,rfl,rfl⟩,⟨⟨rfl,rfl,rfl,rfl⟩,⟨⟨rfl,rfl,rfl,rfl⟩,⟨⟨rfl,rfl,rfl,rfl⟩,rfl⟩⟩⟩⟩⟩⟩⟩
def S9 (x:a8):Option ((Option I3)×Int):=
 Option.bind (a1a x) fun x1=>
 if(x1 !=0)=true then
  some (none,x1)
 else
  Option.bind (E5 x.Now) fun x4=>
  Option.bind (E5 x.Safe) fun x6=>
  some ((some (⟨(⟨x.Me,x4,x6⟩:a8)⟩:I3)),0)
theorem a3g (x:a8) (r:((Option I3)×Int)) (hm:S9 x=some r):l8 Tryz.prog 61 [.agg (a8.c x)] (fun x=>x= .tup [c5W I3.c r.1,DI r.2]):=by
 refine zy b7J [] [] [] Tryz.func61 rfl ?_
 refine cy hm (V1 x) fun x1 hm=> ?_
 apply vb hm<;>intro _ hm
 cases hm
 exact c8a (c7Y _)
 refine⟨rfl, ?_⟩
 refine cy hm (P4 x.Now) fun x4 hm=> ?_
 refine cy hm (P4 x.Safe) fun x6 hm=> ?_
 cases hm
 exact c8a (c7Y _)
def U3 (x:a8):Option (Sum Int ((List d0)×(List d9)×(List c9)×(List c0)×(List d7)×(List d0)×(List d9)×(List c9)×(List c0)×(List d7)×Int×Int×Int)):=
 Option.bind (a1a x) fun x22=>
 if(x22 !=0)=true then
  some (.inl x22)
 else
  Option.bind (E5 x.Now) fun x25=>
  Option.bind (E5 x.Safe) fun x27=>
  some (.inr (x25.Slots,x25.Bids,x25.Heard,x25.Leases,x25.Loans,x27.Slots,x27.Bids,x27.Heard,x27.Leases,x27.Loans,x.Me,x25.Round,x27.Round))
def a0x (x:a8):Option (Sum Int (Int×Int×(List d0)×(List d9)×(List c9)×(List c0)×(List d7)×Int×(List d0)×(List d9)×(List c9)×(List c0)×(List d7))):=
 Option.bind (a1a x) fun x22=>
 if(x22 !=0)=true then
  some (.inl x22)
 else
  Option.bind (E5 x.Now) fun x25=>
  Option.bind (E5 x.Safe) fun x27=>
  some (.inr (x.Me,x25.Round,x25.Slots,x25.Bids,x25.Heard,x25.Leases,x25.Loans,x27.Round,x27.Slots,x27.Bids,x27.Heard,x27.Leases,x27.Loans))
def R1 (x:a8):Option (a8×Int):=
 Option.bind (a0x x) fun e=>
 match e with
 | .inl x8=>
  if(x8 !=0)=true then
   some ((⟨0,(⟨0, [], [], [], [], []⟩:c8),(⟨0, [], [], [], [], []⟩:c8)⟩:a8),x8)
  else
   none
 | .inr (x9,x10,x11,x12,x13,x14,x15,x16,x17,x18,x19,x20,x21)=>
  Option.bind (E5 (⟨x10,x11,x12,x13,x14,x15⟩:c8)) fun x32=>
  some ((⟨x9,(⟨x10,x11,x12,x13,x14,x15⟩:c8),x32⟩:a8),0)
theorem Z4 (x:a8) (r:(a8×Int)) (hm:R1 x=some r):l8 Tryz.prog 12 [.agg (a8.c x)] (fun x=>x= .tup [.agg (a8.c r.1),DI r.2]):=by
 refine zy [] [] [] [61] Tryz.func12 rfl ?_
 obtain⟨ev29,he30,hm⟩:=b9 hm
 refine O9.ofZ pok ⟨[(0, .agg (a8.c x)),(1000000, .agg (a8.c x)),(1000001, .own 0 0),(1000002, .own 1 0),(1000003,DI 0)], [(0, .blk (a8.c x) 30),(1, .blk [DI 0,DI 0,nS,nS,nS,nS,nS,DI 0,nS,nS,nS,nS,nS] 30)],2⟩ (match ev29 with| .inl x8=>(⟨[(0, .agg (a8.c x)),(1, .own 0 0),(2, .own 1 0),(3,DI 0),(8, .tup [.v (.pointer none),DI x8])], [(0, .blk (a8.c x) 30),(1, .blk [DI 0,DI 0,nS,nS,nS,nS,nS,DI 0,nS,nS,nS,nS,nS] 30)],2⟩:Sy)| .inr (x9,x10,x11,x12,x13,x14,x15,x16,x17,x18,x19,x20,x21)=>(⟨[(0, .agg (a8.c x)),(1, .own 0 0),(2, .own 1 0),(3,DI 0),(8, .tup [.own 3 0,DI 0])], [(0, .blk (a8.c x) 30),(1, .blk [DI 0,DI 0,nS,nS,nS,nS,nS,DI 0,nS,nS,nS,nS,nS] 30),(3, .blk [DI x9,DI x10,lD 4 x11 d0.c,lD 6 x12 d9.c,lD 4 x13 c9.c,lD 5 x14 c0.c,lD 6 x15 d7.c,DI x16,lD 4 x17 d0.c,lD 6 x18 d9.c,lD 4 x19 c9.c,lD 5 x20 c0.c,lD 6 x21 d7.c] 102)],4⟩:Sy):Sy) b7J [] [] [61] Tryz.func61 rfl rfl rfl (i4.of 2 rfl (tA rfl) ⟨hR rfl,hR rfl,trivial⟩) (fun sv=> ?_) ?_
 have hm:=he30
 refine cy hm (V1 x) fun x34 hm=> ?_
 apply vb hm<;>intro _ hm
 cases hm
 exact i4.of 2 rfl (tA rfl) ⟨hR rfl,hR rfl,trivial⟩
 refine⟨rfl, ?_⟩
 refine cy hm (P4 x.Now) fun x37 hm=> ?_
 refine cy hm (P4 x.Safe) fun x39 hm=> ?_
 cases hm
 exact i4.of 4 rfl (tA rfl) ⟨hR rfl,hR rfl,hR rfl,trivial⟩
 rcases ev29 with x8|⟨x9,x10,x11,x12,x13,x14,x15,x16,x17,x18,x19,x20,x21⟩
 apply vb hm<;>intro _ hm
 cases hm
 exact c8a (⟨_,rfl,⟨⟨_,rfl,⟨c7Y _,c7Y _,c7Z,c7Z,c7Z,c7Z,c7Z,c7Y _,c7Z,c7Z,c7Z,c7Z,c7Z,trivial⟩⟩,c7Y _,trivial⟩⟩)
 cases hm
 refine cy hm (P4 ((⟨x10,x11,x12,x13,x14,x15⟩:c8))) fun x32 hm=> ?_
 cases hm
 exact c8a (c7Y _)
def G4 (n:Int) (m:Int):Option Int:=
 gd (m≠0)<|
 gd (m≠0)<|
 some ((W ((n.tmod m)+m)).tmod m)
theorem E8 (n:Int) (m:Int) (r:Int) (hm:G4 n m=some r):l8 Tryz.prog 40 [DI n,DI m] (fun x=>x=DI r):=by
 refine zn Tryz.func40 rfl ?_
 obtain⟨hg,hm⟩:=n9 hm
 refine⟨hg, ?_⟩
 obtain⟨hg,hm⟩:=n9 hm
 refine⟨hg, ?_⟩
 exact hm.rr
def a5e (depot:Int):Option Int:=
 gd (0≤depot)<|
 some (W (1*(2^(min depot.toNat IntKind.i64.bits))))
theorem b8M (depot:Int) (r:Int) (hm:a5e depot=some r):l8 Tryz.prog 161 [DI depot] (fun x=>x=DI r):=by
 refine zn Tryz.func161 rfl ?_
 obtain⟨hg,hm⟩:=n9 hm
 refine⟨hg, ?_⟩
 exact hm.rr
def a6e (mask:Int):(Int×Int)→Option (Sum (Int×Int) (Int×Int)):=fun(n4,d5)=>
 if(decide (d5<6))=true then
  Option.bind (a5e d5) fun x11=>
  if((W ((BitVec.ofInt IntKind.i64.bits mask&&&BitVec.ofInt IntKind.i64.bits x11).toNat:Int)) !=0)=true then
   some (.inl ((W (n4+1)),(W (d5+1))))
  else
   some (.inl (n4,(W (d5+1))))
 else
  some (.inr (n4,d5))
def a3N (mask:Int):Option Bool:=
 Option.bind (s9 (a6e mask) (0,0)) fun(n14,d15)=>
 some (decide (n14≥4))
theorem c3u (mask:Int) (r:Bool) (hm:a3N mask=some r):l8 Tryz.prog 107 [DI mask] (fun x=>x=DB r):=by
 refine zn Tryz.func107 rfl ?_
 obtain⟨ev16,he,hk17⟩:=b9 hm
 refine c8b (a6e mask) (fun(n4,d5)=>⟨[(0,DI mask),(2,DB false),(3,DI n4),(4,DI d5)], [],0⟩) (0,0) (i4.of 0 rfl (tA rfl) trivial) he ?_
 rintro fu18 ⟨n4,d5⟩ b hm hi19
 apply vb hm<;>intro _ hm
 refine cy hm (b8M d5) fun x21 hm=> ?_
 apply vb hm<;>intro _ hm
 cases hm
 exact⟨(_,((W (n4+1)),(W (d5+1)))),i4.of 0 rfl (tA rfl) trivial,hi19,Nat.lt_succ_self _⟩
 cases hm
 exact⟨(_,(n4,(W (d5+1)))),i4.of 0 rfl (tA rfl) trivial,hi19,Nat.lt_succ_self _⟩
 cases hm
 cases hi19
 have hm:=hk17
 exact hm.rr
def a3h (x:a8):Option (a8×Int):=
 Option.bind (a0x x) fun e=>
 match e with
 | .inl x8=>
  if(x8 !=0)=true then
   some ((⟨0,(⟨0, [], [], [], [], []⟩:c8),(⟨0, [], [], [], [], []⟩:c8)⟩:a8),x8)
  else
   none
 | .inr (x9,x10,x11,x12,x13,x14,x15,x16,x17,x18,x19,x20,x21)=>
  Option.bind (E5 (⟨x16,x17,x18,x19,x20,x21⟩:c8)) fun x32=>
  some ((⟨x9,x32,(⟨x16,x17,x18,x19,x20,x21⟩:c8)⟩:a8),0)
theorem b2Z (x:a8) (r:(a8×Int)) (hm:a3h x=some r):l8 Tryz.prog 14 [.agg (a8.c x)] (fun x=>x= .tup [.agg (a8.c r.1),DI r.2]):=by
 refine zy [] [] [] [61] Tryz.func14 rfl ?_
 obtain⟨ev29,he30,hm⟩:=b9 hm
 refine O9.ofZ pok ⟨[(0, .agg (a8.c x)),(1000000, .agg (a8.c x)),(1000001, .own 0 0),(1000002, .own 1 0),(1000003,DI 0)], [(0, .blk (a8.c x) 30),(1, .blk [DI 0,DI 0,nS,nS,nS,nS,nS,DI 0,nS,nS,nS,nS,nS] 30)],2⟩ (match ev29 with| .inl x8=>(⟨[(0, .agg (a8.c x)),(1, .own 0 0),(2, .own 1 0),(3,DI 0),(8, .tup [.v (.pointer none),DI x8])], [(0, .blk (a8.c x) 30),(1, .blk [DI 0,DI 0,nS,nS,nS,nS,nS,DI 0,nS,nS,nS,nS,nS] 30)],2⟩:Sy)| .inr (x9,x10,x11,x12,x13,x14,x15,x16,x17,x18,x19,x20,x21)=>(⟨[(0, .agg (a8.c x)),(1, .own 0 0),(2, .own 1 0),(3,DI 0),(8, .tup [.own 3 0,DI 0])], [(0, .blk (a8.c x) 30),(1, .blk [DI 0,DI 0,nS,nS,nS,nS,nS,DI 0,nS,nS,nS,nS,nS] 30),(3, .blk [DI x9,DI x10,lD 4 x11 d0.c,lD 6 x12 d9.c,lD 4 x13 c9.c,lD 5 x14 c0.c,lD 6 x15 d7.c,DI x16,lD 4 x17 d0.c,lD 6 x18 d9.c,lD 4 x19 c9.c,lD 5 x20 c0.c,lD 6 x21 d7.c] 102)],4⟩:Sy):Sy) b7J [] [] [61] Tryz.func61 rfl rfl rfl (i4.of 2 rfl (tA rfl) ⟨hR rfl,hR rfl,trivial⟩) (fun sv=> ?_) ?_
 have hm:=he30
 refine cy hm (V1 x) fun x34 hm=> ?_
 apply vb hm<;>intro _ hm
 cases hm
 exact i4.of 2 rfl (tA rfl) ⟨hR rfl,hR rfl,trivial⟩
 refine⟨rfl, ?_⟩
 refine cy hm (P4 x.Now) fun x37 hm=> ?_
 refine cy hm (P4 x.Safe) fun x39 hm=> ?_
 cases hm
 exact i4.of 4 rfl (tA rfl) ⟨hR rfl,hR rfl,hR rfl,trivial⟩
 rcases ev29 with x8|⟨x9,x10,x11,x12,x13,x14,x15,x16,x17,x18,x19,x20,x21⟩
 apply vb hm<;>intro _ hm
 cases hm
 exact c8a (⟨_,rfl,⟨⟨_,rfl,⟨c7Y _,c7Y _,c7Z,c7Z,c7Z,c7Z,c7Z,c7Y _,c7Z,c7Z,c7Z,c7Z,c7Z,trivial⟩⟩,c7Y _,trivial⟩⟩)
 cases hm
 refine cy hm (P4 ((⟨x16,x17,x18,x19,x20,x21⟩:c8))) fun x32 hm=> ?_
 cases hm
 exact c8a (c7Y _)
def a2w (p:I3) (to_:Int):Option (I3×Int):=
 some (p,to_)
theorem a9f (p:I3) (to_:Int) (r:(I3×Int)) (hm:a2w p to_=some r):l8 Tryz.prog 66 [.ptr (I3.c p) 0,DI to_] (fun x=>x= .fn 119 [] [.ptr [.ptr (I3.c r.1) 0] 0, .ptr [DI r.2] 0]):=by
 refine zn Tryz.func66 rfl ?_
 cases hm
 exact c8a (c7Y _)
def j9 (x:b8):List D:= [.agg (b8.c x)]
def N5 (c_0:I3) (c_1:Int):Int→Option (List b8×Sum Int Int):=fun v7=>
 if(decide (v7<(c_0.Station.Safe.Bids.length:Int)))=true then
  Option.bind (idx c_0.Station.Safe.Bids v7) fun e15=>
  if e15.Asked=true then
   emit (⟨3,c_0.Station.Me,c_1,e15.Night,e15.Ballot,0,e15.Value,0,0,0,0⟩:b8)<|
   some ([], .inl (W (v7+1)))
  else
   emit (⟨1,c_0.Station.Me,c_1,e15.Night,e15.Ballot,0,0,0,0,0,0⟩:b8)<|
   some ([], .inl (W (v7+1)))
 else
  some ([], .inr v7)
def N2 (c_0:I3) (c_1:Int):Int→Option (List b8×Sum Int Int):=fun v35=>
 if(decide (v35<(c_0.Station.Safe.Slots.length:Int)))=true then
  Option.bind (idx c_0.Station.Safe.Slots v35) fun e51=>
  Option.bind (j4 e51.Promised) fun x53=>
  if(x53==c_1)=true then
   if(decide (e51.Promised>e51.Ballot))=true then
    emit (⟨2,c_0.Station.Me,c_1,e51.Night,e51.Promised,e51.Ballot,e51.Value,0,0,0,0⟩:b8)<|
    if(e51.Ballot !=0)=true then
     emit (⟨4,c_0.Station.Me,c_1,e51.Night,e51.Ballot,0,e51.Value,0,0,0,0⟩:b8)<|
     some ([], .inl (W (v35+1)))
    else
     some ([], .inl (W (v35+1)))
   else
    if(e51.Ballot !=0)=true then
     emit (⟨4,c_0.Station.Me,c_1,e51.Night,e51.Ballot,0,e51.Value,0,0,0,0⟩:b8)<|
     some ([], .inl (W (v35+1)))
    else
     some ([], .inl (W (v35+1)))
  else
   if(e51.Ballot !=0)=true then
    emit (⟨4,c_0.Station.Me,c_1,e51.Night,e51.Ballot,0,e51.Value,0,0,0,0⟩:b8)<|
    some ([], .inl (W (v35+1)))
   else
    some ([], .inl (W (v35+1)))
 else
  some ([], .inr v35)
def O2 (c_0:I3) (c_1:Int):Int→Option (List b8×Sum Int Int):=fun v70=>
 if(decide (v70<(c_0.Station.Safe.Leases.length:Int)))=true then
  Option.bind (idx c_0.Station.Safe.Leases v70) fun e77=>
  if(e77.To==c_1)=true then
   emit (⟨5,c_0.Station.Me,c_1,0,0,0,0,e77.No,e77.Thing,e77.From,e77.Until⟩:b8)<|
   some ([], .inl (W (v70+1)))
  else
   some ([], .inl (W (v70+1)))
 else
  some ([], .inr v70)
def N6 (c_0:I3) (c_1:Int):Int→Option (List b8×Sum Int Int):=fun v88=>
 if(decide (v88<(c_0.Station.Safe.Loans.length:Int)))=true then
  Option.bind (idx c_0.Station.Safe.Loans v88) fun e96=>
  if(e96.Owner==c_1)=true then
   if e96.Back=true then
    emit (⟨6,c_0.Station.Me,c_1,0,0,0,0,e96.No,e96.Thing,0,e96.Until⟩:b8)<|
    some ([], .inl (W (v88+1)))
   else
    some ([], .inl (W (v88+1)))
  else
   some ([], .inl (W (v88+1)))
 else
  some ([], .inr v88)
def X7 (c_0:I3) (c_1:Int):Option (List b8×Unit):=
 b2y (a5W (N5 c_0 c_1) 0) fun v20=>
 b2y (a5W (N2 c_0 c_1) 0) fun v64=>
 b2y (a5W (O2 c_0 c_1) 0) fun v81=>
 b2y (a5W (N6 c_0 c_1) 0) fun v101=>
 some ([],())
def c3O:List (Nat×PT):= [(3, .of [(0, [],true),(1, [],false),(2, [],false),(3, [],false),(4, [],true),(5, [],true),(6, [],false),(7, [],true),(8, [],false),(9, [],true),(10, [],false),(11, [],false),(12, [],false)]),(5, .of [(0, [],false),(1, [],false),(2, [],false),(3, [1],false),(4, [],false),(5, [],false)]),(11, .of [(0, [],false),(1, [],false),(3, [],false),(2, [3],true),(4, [],false),(5, [],false),(6, [],false),(7, [],false),(8, [],false),(9, [],false),(10, [],false),(11, [],false),(12, [],false),(13, [],false),(14, [],false),(15, [],false),(16, [],false),(17, [],false),(18, [],false),(19, [],false),(20, [],false),(21, [],false),(22, [],false),(23, [],false),(24, [],false),(25, [],false),(26, [],false),(27, [],false),(28, [],false)]),(12, .of [(0, [],false),(1, [],false),(2, [],false),(3, [],false),(4, [],false),(5, [],false),(6, [],false),(7, [],false),(8, [],false),(9, [],false),(10, [],false),(11, [],false),(12, [],false),(13, [],false),(14, [],false),(15, [],false),(16, [],false),(17, [],false)]),(17, .of [(0, [],false),(1, [],false),(2, [],false),(3, [],false),(4, [],false),(5, [],false),(6, [],false),(7, [],false),(8, [],false),(9, [],false),(10, [],false),(11, [],false),(12, [],false),(13, [],false),(14, [],false),(15, [],false),(16, [],false),(17, [],false),(18, [],false),(19, [],false),(20, [],false)]),(22, .of [(0, [],false),(1, [],false),(2, [],false),(3, [],false),(4, [],false),(5, [],false),(6, [],false),(7, [],false),(8, [],false),(9, [],false),(10, [],false),(11, [],false),(12, [],false),(13, [],false),(14, [],false),(15, [],false),(16, [],false),(17, [],false),(18, [],false),(19, [],false),(20, [],false),(21, [],false),(22, [],false)])]
theorem a7w (c_0:I3) (c_1:Int) (xs:List b8) (hm:X7 c_0 c_1=some (xs,())):a7Z Tryz.prog 119 [.ptr [.ptr (I3.c c_0) 0] 0, .ptr [DI c_1] 0] (xs.map j9):=by
 refine c0d (X:=⟨Tryz.prog,tt,Tryz.f119.ntmps,c3O, [], [], [], [], []⟩) pok _ _ [(11,29),(12,18),(17,21),(22,23)] Tryz.func119 rfl rfl (Nat.le_of_ble_eq_true rfl) rfl ?_
 intro l
 obtain⟨r,hr⟩:∃r:List b8×Unit,r=(xs,()):=⟨_,rfl⟩
 rw [←hr]at hm
 have hp:Hp3 j9 [] r.1 [] (xs.map j9):=⟨by rw [hr];simp⟩
 clear hr
 obtain⟨ev290,rr294,he,hk291,hb1,hb2⟩:=a5J hm
 replace hp:=hp.in1 hb1
 clear hb1 hb2
 refine a7H.of (fun(lpx:Nat×Int)=>match lpx with|(fu292,v7)=>(⟨[(0, .v (.func (.yield l) #[] #[])),(1, .ptr [.ptr (I3.c c_0) 0] 0),(2, .ptr [DI c_1] 0),(18,lD 6 c_0.Station.Safe.Bids d9.c),(19,DI (c_0.Station.Safe.Bids.length:Int)),(20,DI v7)], [],0⟩:Sy)) (fun lpx q=>∃e,a3w (N5 c_0 c_1) lpx.1 lpx.2=some e∧Hp3 j9 q e.1 _ _∧e.2=ev290.2) (fun lpx=>lpx.1) (a3k,0) ⟨_,he,hp,rfl⟩ (i4.of 0 rfl (tA rfl) trivial) ?_
 clear hp he
 rintro⟨fu292,v7⟩ q ⟨el296,hi293,hp,hx297⟩
 obtain⟨fu292,b,tl,rfl,hm,hb1,hi293⟩:=a5E hi293
 replace hp:=hp.in1 hb1
 clear hb1
 have hq:b.2=b.2:=rfl
 apply vb hm<;>intro _ hm
 obtain⟨e300,hx301,hm⟩:=b9 hm
 refine⟨_,q8 (fun _=>rfl) hx301, ?_⟩
 refine⟨rfl, ?_⟩
 apply vb hm<;>intro _ hm
 refine⟨rfl, ?_⟩
 obtain⟨rb303,hm,hb1,hb2⟩:=a2n hm
 refine a1t.of (x':=j9 (⟨3,c_0.Station.Me,c_1,e300.Night,e300.Ballot,0,e300.Value,0,0,0,0⟩:b8)) rfl rfl (c8a (c7Y _)) (hp.pre hb1) ?_ ?_
 replace hp:=hp.emit hb1
 replace hq:=hq.trans hb2
 cases hm
 rw [hq]at hi293
 obtain⟨e2,hm,rfl,ht⟩:=hi293
 exact⟨(fu292,(W (v7+1))),_,i4.of 0 rfl (tA rfl) trivial,rfl,⟨_,hm,hp.out rfl,ht.symm.trans hx297⟩,Nat.lt_succ_self _⟩
 exact .inl rfl
 obtain⟨rb304,hm,hb1,hb2⟩:=a2n hm
 refine a1t.of (x':=j9 (⟨1,c_0.Station.Me,c_1,e300.Night,e300.Ballot,0,0,0,0,0,0⟩:b8)) rfl rfl (c8a (c7Y _)) (hp.pre hb1) ?_ ?_
 replace hp:=hp.emit hb1
 replace hq:=hq.trans hb2
 cases hm
 rw [hq]at hi293
 obtain⟨e2,hm,rfl,ht⟩:=hi293
 exact⟨(fu292,(W (v7+1))),_,i4.of 0 rfl (tA rfl) trivial,rfl,⟨_,hm,hp.out rfl,ht.symm.trans hx297⟩,Nat.lt_succ_self _⟩
 exact .inl rfl
 cases hm
 rw [hq]at hi293
 obtain⟨rfl,ht⟩:=hi293
 replace hp:=(hp.out (l':= []) rfl).out rfl
 have hm:=hk291
 try rw [←hx297,ht]at hm
 clear hq
 obtain⟨ev450,rr454,he,hk451,hb1,hb2⟩:=a5J hm
 replace hp:=hp.in1 hb1
 clear hb1 hb2
 refine a7H.of (fun(lpx:Nat×Int)=>match lpx with|(fu452,v319)=>(⟨[(0, .v (.func (.yield l) #[] #[])),(1, .ptr [.ptr (I3.c c_0) 0] 0),(2, .ptr [DI c_1] 0),(18,lD 6 c_0.Station.Safe.Bids d9.c),(19,DI (c_0.Station.Safe.Bids.length:Int)),(20,DI v7),(21,DB (decide (v7<(c_0.Station.Safe.Bids.length:Int)))),(51,lD 4 c_0.Station.Safe.Slots d0.c),(52,DI (c_0.Station.Safe.Slots.length:Int)),(53,DI v319)], [],0⟩:Sy)) (fun lpx q=>∃e,a3w (N2 c_0 c_1) lpx.1 lpx.2=some e∧Hp3 j9 q e.1 _ _∧e.2=ev450.2) (fun lpx=>lpx.1) (a3k,0) ⟨_,he,hp,rfl⟩ (i4.of 0 rfl (tA rfl) trivial) ?_
 clear hp he
 rintro⟨fu452,v319⟩ q ⟨el456,hi453,hp,hx457⟩
 obtain⟨fu452,b,tl,rfl,hm,hb1,hi453⟩:=a5E hi453
 replace hp:=hp.in1 hb1
 clear hb1
 have hq:b.2=b.2:=rfl
 apply vb hm<;>intro _ hm
 obtain⟨e460,hx461,hm⟩:=b9 hm
 refine⟨_,q8 (fun _=>rfl) hx461, ?_⟩
 refine⟨rfl,rfl, ?_⟩
 refine cy hm (m8 e460.Promised) fun x462 hm=> ?_
 apply vb hm<;>intro _ hm
 apply vb hm<;>intro _ hm
 obtain⟨rb468,hm,hb1,hb2⟩:=a2n hm
 refine a1t.fz [0] rfl (a7V.of (x':=j9 (⟨2,c_0.Station.Me,c_1,e460.Night,e460.Promised,e460.Ballot,e460.Value,0,0,0,0⟩:b8)) rfl rfl (c8a (c7Y _)) (hp.pre hb1) ?_ ?_)
 replace hp:=hp.emit hb1
 replace hq:=hq.trans hb2
 refine⟨rfl,rfl, ?_⟩
 apply vb hm<;>intro _ hm
 obtain⟨rb467,hm,hb1,hb2⟩:=a2n hm
 refine a1t.of (x':=j9 (⟨4,c_0.Station.Me,c_1,e460.Night,e460.Ballot,0,e460.Value,0,0,0,0⟩:b8)) rfl rfl (c8a (c7Y _)) (hp.pre hb1) ?_ ?_
 replace hp:=hp.emit hb1
 replace hq:=hq.trans hb2
 cases hm
 rw [hq]at hi453
 obtain⟨e2,hm,rfl,ht⟩:=hi453
 exact⟨(fu452,(W (v319+1))),_,i4.of 0 rfl (tA rfl) trivial,rfl,⟨_,hm,hp.out rfl,ht.symm.trans hx457⟩,Nat.lt_succ_self _⟩
 exact .inl rfl
 cases hm
 rw [hq]at hi453
 obtain⟨e2,hm,rfl,ht⟩:=hi453
 exact⟨(fu452,(W (v319+1))),_,i4.of 0 rfl (tA rfl) trivial,rfl,⟨_,hm,hp.out rfl,ht.symm.trans hx457⟩,Nat.lt_succ_self _⟩
 exact .inl rfl
 refine⟨rfl,rfl, ?_⟩
 apply vb hm<;>intro _ hm
 obtain⟨rb470,hm,hb1,hb2⟩:=a2n hm
 refine a1t.of (x':=j9 (⟨4,c_0.Station.Me,c_1,e460.Night,e460.Ballot,0,e460.Value,0,0,0,0⟩:b8)) rfl rfl (c8a (c7Y _)) (hp.pre hb1) ?_ ?_
 replace hp:=hp.emit hb1
 replace hq:=hq.trans hb2
 cases hm
 rw [hq]at hi453
 obtain⟨e2,hm,rfl,ht⟩:=hi453
 exact⟨(fu452,(W (v319+1))),_,i4.of 0 rfl (tA rfl) trivial,rfl,⟨_,hm,hp.out rfl,ht.symm.trans hx457⟩,Nat.lt_succ_self _⟩
 exact .inl rfl
 cases hm
 rw [hq]at hi453
 obtain⟨e2,hm,rfl,ht⟩:=hi453
 exact⟨(fu452,(W (v319+1))),_,i4.of 0 rfl (tA rfl) trivial,rfl,⟨_,hm,hp.out rfl,ht.symm.trans hx457⟩,Nat.lt_succ_self _⟩
 refine⟨rfl,rfl, ?_⟩
 apply vb hm<;>intro _ hm
 obtain⟨rb472,hm,hb1,hb2⟩:=a2n hm
 refine a1t.of (x':=j9 (⟨4,c_0.Station.Me,c_1,e460.Night,e460.Ballot,0,e460.Value,0,0,0,0⟩:b8)) rfl rfl (c8a (c7Y _)) (hp.pre hb1) ?_ ?_
 replace hp:=hp.emit hb1
 replace hq:=hq.trans hb2
 cases hm
 rw [hq]at hi453
 obtain⟨e2,hm,rfl,ht⟩:=hi453
 exact⟨(fu452,(W (v319+1))),_,i4.of 0 rfl (tA rfl) trivial,rfl,⟨_,hm,hp.out rfl,ht.symm.trans hx457⟩,Nat.lt_succ_self _⟩
 exact .inl rfl
 cases hm
 rw [hq]at hi453
 obtain⟨e2,hm,rfl,ht⟩:=hi453
 exact⟨(fu452,(W (v319+1))),_,i4.of 0 rfl (tA rfl) trivial,rfl,⟨_,hm,hp.out rfl,ht.symm.trans hx457⟩,Nat.lt_succ_self _⟩
 cases hm
 rw [hq]at hi453
 obtain⟨rfl,ht⟩:=hi453
 replace hp:=(hp.out (l':= []) rfl).out rfl
 have hm:=hk451
 try rw [←hx457,ht]at hm
 clear hq
 obtain⟨ev525,rr529,he,hk526,hb1,hb2⟩:=a5J hm
 replace hp:=hp.in1 hb1
 clear hb1 hb2
 refine a7H.of (fun(lpx:Nat×Int)=>match lpx with|(fu527,v478)=>(⟨[(0, .v (.func (.yield l) #[] #[])),(1, .ptr [.ptr (I3.c c_0) 0] 0),(2, .ptr [DI c_1] 0),(18,lD 6 c_0.Station.Safe.Bids d9.c),(19,DI (c_0.Station.Safe.Bids.length:Int)),(20,DI v7),(21,DB (decide (v7<(c_0.Station.Safe.Bids.length:Int)))),(51,lD 4 c_0.Station.Safe.Slots d0.c),(52,DI (c_0.Station.Safe.Slots.length:Int)),(53,DI v319),(54,DB (decide (v319<(c_0.Station.Safe.Slots.length:Int)))),(116,lD 5 c_0.Station.Safe.Leases c0.c),(117,DI (c_0.Station.Safe.Leases.length:Int)),(118,DI v478)], [],0⟩:Sy)) (fun lpx q=>∃e,a3w (O2 c_0 c_1) lpx.1 lpx.2=some e∧Hp3 j9 q e.1 _ _∧e.2=ev525.2) (fun lpx=>lpx.1) (a3k,0) ⟨_,he,hp,rfl⟩ (i4.of 0 rfl (tA rfl) trivial) ?_
 clear hp he
 rintro⟨fu527,v478⟩ q ⟨el531,hi528,hp,hx532⟩
 obtain⟨fu527,b,tl,rfl,hm,hb1,hi528⟩:=a5E hi528
 replace hp:=hp.in1 hb1
 clear hb1
 have hq:b.2=b.2:=rfl
 apply vb hm<;>intro _ hm
 obtain⟨e535,hx536,hm⟩:=b9 hm
 refine⟨_,q8 (fun _=>rfl) hx536, ?_⟩
 refine⟨rfl,rfl, ?_⟩
 apply vb hm<;>intro _ hm
 obtain⟨rb538,hm,hb1,hb2⟩:=a2n hm
 refine a1t.of (x':=j9 (⟨5,c_0.Station.Me,c_1,0,0,0,0,e535.No,e535.Thing,e535.From,e535.Until⟩:b8)) rfl rfl (c8a (c7Y _)) (hp.pre hb1) ?_ ?_
 replace hp:=hp.emit hb1
 replace hq:=hq.trans hb2
 cases hm
 rw [hq]at hi528
 obtain⟨e2,hm,rfl,ht⟩:=hi528
 exact⟨(fu527,(W (v478+1))),_,i4.of 0 rfl (tA rfl) trivial,rfl,⟨_,hm,hp.out rfl,ht.symm.trans hx532⟩,Nat.lt_succ_self _⟩
 exact .inl rfl
 cases hm
 rw [hq]at hi528
 obtain⟨e2,hm,rfl,ht⟩:=hi528
 exact⟨(fu527,(W (v478+1))),_,i4.of 0 rfl (tA rfl) trivial,rfl,⟨_,hm,hp.out rfl,ht.symm.trans hx532⟩,Nat.lt_succ_self _⟩
 cases hm
 rw [hq]at hi528
 obtain⟨rfl,ht⟩:=hi528
 replace hp:=(hp.out (l':= []) rfl).out rfl
 have hm:=hk526
 try rw [←hx532,ht]at hm
 clear hq
 obtain⟨ev559,rr563,he,hk560,hb1,hb2⟩:=a5J hm
 replace hp:=hp.in1 hb1
 clear hb1 hb2
 refine a7H.of (fun(lpx:Nat×Int)=>match lpx with|(fu561,v545)=>(⟨[(0, .v (.func (.yield l) #[] #[])),(1, .ptr [.ptr (I3.c c_0) 0] 0),(2, .ptr [DI c_1] 0),(18,lD 6 c_0.Station.Safe.Bids d9.c),(19,DI (c_0.Station.Safe.Bids.length:Int)),(20,DI v7),(21,DB (decide (v7<(c_0.Station.Safe.Bids.length:Int)))),(51,lD 4 c_0.Station.Safe.Slots d0.c),(52,DI (c_0.Station.Safe.Slots.length:Int)),(53,DI v319),(54,DB (decide (v319<(c_0.Station.Safe.Slots.length:Int)))),(116,lD 5 c_0.Station.Safe.Leases c0.c),(117,DI (c_0.Station.Safe.Leases.length:Int)),(118,DI v478),(119,DB (decide (v478<(c_0.Station.Safe.Leases.length:Int)))),(152,lD 6 c_0.Station.Safe.Loans d7.c),(153,DI (c_0.Station.Safe.Loans.length:Int)),(154,DI v545)], [],0⟩:Sy)) (fun lpx q=>∃e,a3w (N6 c_0 c_1) lpx.1 lpx.2=some e∧Hp3 j9 q e.1 _ _∧e.2=ev559.2) (fun lpx=>lpx.1) (a3k,0) ⟨_,he,hp,rfl⟩ (i4.of 0 rfl (tA rfl) trivial) ?_
 clear hp he
 rintro⟨fu561,v545⟩ q ⟨el565,hi562,hp,hx566⟩
 obtain⟨fu561,b,tl,rfl,hm,hb1,hi562⟩:=a5E hi562
 replace hp:=hp.in1 hb1
 clear hb1
 have hq:b.2=b.2:=rfl
 apply vb hm<;>intro _ hm
 obtain⟨e569,hx570,hm⟩:=b9 hm
 refine⟨_,q8 (fun _=>rfl) hx570, ?_⟩
 refine⟨rfl,rfl, ?_⟩
 apply vb hm<;>intro _ hm
 apply vb hm<;>intro _ hm
 obtain⟨rb573,hm,hb1,hb2⟩:=a2n hm
 refine a1t.of (x':=j9 (⟨6,c_0.Station.Me,c_1,0,0,0,0,e569.No,e569.Thing,0,e569.Until⟩:b8)) rfl rfl (c8a (c7Y _)) (hp.pre hb1) ?_ ?_
 replace hp:=hp.emit hb1
 replace hq:=hq.trans hb2
 cases hm
 rw [hq]at hi562
 obtain⟨e2,hm,rfl,ht⟩:=hi562
 exact⟨(fu561,(W (v545+1))),_,i4.of 0 rfl (tA rfl) trivial,rfl,⟨_,hm,hp.out rfl,ht.symm.trans hx566⟩,Nat.lt_succ_self _⟩
 exact .inl rfl
 cases hm
 rw [hq]at hi562
 obtain⟨e2,hm,rfl,ht⟩:=hi562
 exact⟨(fu561,(W (v545+1))),_,i4.of 0 rfl (tA rfl) trivial,rfl,⟨_,hm,hp.out rfl,ht.symm.trans hx566⟩,Nat.lt_succ_self _⟩
 cases hm
 rw [hq]at hi562
 obtain⟨e2,hm,rfl,ht⟩:=hi562
 exact⟨(fu561,(W (v545+1))),_,i4.of 0 rfl (tA rfl) trivial,rfl,⟨_,hm,hp.out rfl,ht.symm.trans hx566⟩,Nat.lt_succ_self _⟩
 cases hm
 rw [hq]at hi562
 obtain⟨rfl,ht⟩:=hi562
 replace hp:=(hp.out (l':= []) rfl).out rfl
 have hm:=hk560
 try rw [←hx566,ht]at hm
 clear hq
 cases hm
 exact .inr (congrArg some (hp.done rfl))
def j1:(List b8)→b8→Option (Sum (List b8) Unit):=fun v2 y1=>
 gd ((v2.length+([y1]:List b8).length)*88≤140737488355328∧v2.length+([y1]:List b8).length≤9223372036854775807)<|
 some (.inl (v2++([y1]:List b8)))
def w7 (c1_0:I3) (c1_1:Int):Option (List b8):=
 Option.bind (X7 c1_0 c1_1) fun l3=>
 Option.bind (a0p j1 l3.1 []) fun e=>
 match e with
 | .inl v4=>
  some v4
 | .inr _=>none
theorem P7 (c1_0:I3) (c1_1:Int) (r:(List b8)) (hm:w7 c1_0 c1_1=some r):l8 Tryz.prog 118 [nS, .fn 119 [] [.ptr [.ptr (I3.c c1_0) 0] 0, .ptr [DI c1_1] 0]] (fun x=>x=lD 11 r b8.c):=by
 refine c2C (X:=⟨Tryz.prog,tt,Tryz.f118.ntmps, [], [], [], [], [], []⟩) pok _ Tryz.func118 rfl rfl (Nat.le_of_ble_eq_true rfl) ?_
 intro ds
 intro ds
 obtain⟨l3,hl6,hm⟩:=b9 hm
 obtain⟨ev5,he,hm⟩:=b9 hm
 refine a5G.ofZ (E:=Unit) j9 l3.1 j1 (fun(lpx:(List b8))=>match lpx with|v2=>(⟨[(0,nS),(1, .fn 119 [] [.ptr [.ptr (I3.c c1_0) 0] 0, .ptr [DI c1_1] 0]),(2, .own 0 0),(4,nS)], [(0, .blk [.row 1 11] 34),(1,rE 11 v2 b8.c 42)],2⟩:Sy)) (fun(_:Unit)=>(⟨[], [],0⟩:Sy)) (fun _=> .ret) [] ev5 [0,1,2,4] (a7w c1_0 c1_1 l3.1 hl6) he (c0T pok Tryz.func119 rfl) rfl rfl (fun _=>rfl) rfl rfl rfl (by rintro v2;rfl) (by intro _;rfl) (i4.of 1 rfl (tA rfl) ⟨hR rfl,⟨rfl,rfl⟩,trivial⟩) ?_ ?_ (fun _=> .inl rfl) ?_
 rintro v4 rfl
 intro ds
 intro ds
 cases hm
 exact c8a (c7Y _)
 rintro _ rfl
 cases hm
 clear he hm
 rintro v2 y1 b hm
 refine⟨([y1]:List b8).flatMap b8.c,([y1]:List b8).length,⟨rfl,rfl⟩, ?_⟩
 obtain⟨hg,hm⟩:=n9 hm
 refine⟨hg,_,_,O1 (c:=b8.c) (l:=(v2:List b8)) (r:=(([y1]:List b8):List b8)), ?_⟩
 cases hm
 exact⟨(v2++([y1]:List b8)),rfl,i4.of 2 rfl (tA rfl) ⟨hR rfl,hW rfl,trivial⟩⟩
def B6 (c0_0:I3) (c0_1:Int):Option (List b8):=
 Option.bind (w7 c0_0 c0_1) fun x1=>
 some x1
theorem a0f (c0_0:I3) (c0_1:Int) (r:(List b8)) (hm:B6 c0_0 c0_1=some r):l8 Tryz.prog 65 [.fn 119 [] [.ptr [.ptr (I3.c c0_0) 0] 0, .ptr [DI c0_1] 0]] (fun x=>x=lD 11 r b8.c):=by
 refine zn Tryz.func65 rfl ?_
 refine cy hm (P7 c0_0 c0_1) fun x1 hm=> ?_
 cases hm
 exact c8a (c7Y _)
def U7 (x:a8) (to_:Int):Option ((List b8)×Int):=
 Option.bind (S9 x) fun⟨x1,x2⟩=>
 b2G x1 (
  if(x2 !=0)=true then
   some ([],x2)
  else
   Option.bind (B3 to_) fun x6=>
   if(!x6)=true then
    some ([],1)
   else
    none) fun p4=>
 if(x2 !=0)=true then
  some ([],x2)
 else
  Option.bind (B3 to_) fun x10=>
  if(!x10)=true then
   some ([],1)
  else
   Option.bind (a2w p4 to_) fun⟨x13,x14⟩=>
   Option.bind (B6 x13 x14) fun x16=>
   some (x16,0)
theorem a1c (x:a8) (to_:Int) (r:((List b8)×Int)) (hm:U7 x to_=some r):l8 Tryz.prog 16 [.agg (a8.c x),DI to_] (fun x=>x= .tup [lD 11 r.1 b8.c,DI r.2]):=by
 refine zn Tryz.func16 rfl ?_
 refine cy hm (a3g x) ?_
 rintro⟨x1,x2⟩ hm
 rcases x1 with _|p4
 replace hm:=a9i hm
 apply vb hm<;>intro _ hm
 cases hm
 exact c8a (⟨_,rfl,⟨c7Z,c7Y _,trivial⟩⟩)
 refine cy hm (C7 to_) fun x6 hm=> ?_
 apply vb hm<;>intro _ hm
 cases hm
 exact c8a (⟨_,rfl,⟨c7Z,c7Y _,trivial⟩⟩)
 cases hm
 replace hm:=a8G hm
 apply vb hm<;>intro _ hm
 cases hm
 exact c8a (⟨_,rfl,⟨c7Z,c7Y _,trivial⟩⟩)
 refine cy hm (C7 to_) fun x10 hm=> ?_
 apply vb hm<;>intro _ hm
 cases hm
 exact c8a (⟨_,rfl,⟨c7Z,c7Y _,trivial⟩⟩)
 refine cy hm (a9f p4 to_) ?_
 rintro⟨x13,x14⟩ hm
 refine cy hm (a0f x13 x14) fun x16 hm=> ?_
 cases hm
 exact c8a (c7Y _)
def a4i (a:(List b8)) (b_:(List b8)):Int→Option (Sum Int (Sum Int Bool)):=fun i8=>
 if(decide (i8<(a.length:Int)))=true then
  Option.bind (idx a i8) fun e16=>
  Option.bind (idx b_ i8) fun e18=>
  if(!((e16.Kind==e18.Kind)&&((e16.From==e18.From)&&((e16.To==e18.To)&&((e16.Night==e18.Night)&&((e16.Ballot==e18.Ballot)&&((e16.Best==e18.Best)&&((e16.Value==e18.Value)&&((e16.No==e18.No)&&((e16.Thing==e18.Thing)&&((e16.Start==e18.Start)&&(e16.Until==e18.Until))))))))))))=true then
   some (.inr (.inr false))
  else
   some (.inl (W (i8+1)))
 else
  some (.inr (.inl i8))
def a1M (a:(List b8)) (b_:(List b8)):Option Bool:=
 if((a.length:Int) !=(b_.length:Int))=true then
  some false
 else
  Option.bind (s9 (a4i a b_) 0) fun e=>
  match e with
  | .inl i21=>
   some true
  | .inr rr22=>
   some rr22
theorem a6b (a:(List b8)) (b_:(List b8)) (r:Bool) (hm:a1M a b_=some r):l8 Tryz.prog 19 [lD 11 a b8.c,lD 11 b_ b8.c] (fun x=>x=DB r):=by
 refine zy c6t [] [] [] Tryz.func19 rfl ?_
 apply vb hm<;>intro _ hm
 exact hm.rr
 obtain⟨ev23,he,hk24⟩:=b9 hm
 refine c8b (a4i a b_) (fun i8=>⟨[(0,lD 11 a b8.c),(1,lD 11 b_ b8.c),(4,DB false),(5,DI i8),(10,DB ((a.length:Int) !=(b_.length:Int)))], [],0⟩) 0 (i4.of 0 rfl (tA rfl) trivial) he ?_
 rintro fu25 i8 b hm hi26
 apply vb hm<;>intro _ hm
 refine⟨rfl, ?_⟩
 obtain⟨e28,hx29,hm⟩:=b9 hm
 refine⟨_,q8 (fun _=>rfl) hx29, ?_⟩
 obtain⟨e30,hx31,hm⟩:=b9 hm
 refine⟨_,q8 (fun _=>rfl) hx31, ?_⟩
 apply vb hm<;>intro _ hm
 cases hm
 cases hi26
 have hm:=hk24
 exact hm.rr
 cases hm
 exact⟨(_,(W (i8+1))),i4.of 0 rfl (tA rfl) trivial,hi26,Nat.lt_succ_self _⟩
 cases hm
 cases hi26
 have hm:=hk24
 exact hm.rr
def a1k (me:Int):Option (a8×Int):=
 Option.bind (B3 me) fun x1=>
 if(!x1)=true then
  some ((⟨0,(⟨0, [], [], [], [], []⟩:c8),(⟨0, [], [], [], [], []⟩:c8)⟩:a8),1)
 else
  some ((⟨me,(⟨0, [], [], [], [], []⟩:c8),(⟨0, [], [], [], [], []⟩:c8)⟩:a8),0)
theorem a3K (me:Int) (r:(a8×Int)) (hm:a1k me=some r):l8 Tryz.prog 21 [DI me] (fun x=>x= .tup [.agg (a8.c r.1),DI r.2]):=by
 refine zn Tryz.func21 rfl ?_
 refine cy hm (C7 me) fun x1 hm=> ?_
 apply vb hm<;>intro _ hm
 cases hm
 exact c8a (⟨_,rfl,⟨⟨_,rfl,⟨c7Y _,c7Y _,c7Z,c7Z,c7Z,c7Z,c7Z,c7Y _,c7Z,c7Z,c7Z,c7Z,c7Z,trivial⟩⟩,c7Y _,trivial⟩⟩)
 cases hm
 exact c8a (⟨_,rfl,⟨⟨_,rfl,⟨c7Y _,c7Y _,c7Z,c7Z,c7Z,c7Z,c7Z,c7Y _,c7Z,c7Z,c7Z,c7Z,c7Z,trivial⟩⟩,c7Y _,trivial⟩⟩)
def a1b (o:c0) (c_0:c0):Option Bool:=
 if(o.Thing==c_0.Thing)=true then
  Option.bind (a1z o c_0) fun x2=>
  some x2
 else
  some false
theorem a6Y (o:c0) (c_0:c0) (r:Bool) (hm:a1b o c_0=some r):l8 Tryz.prog 151 [.agg (c0.c o), .ptr (c0.c c_0) 0] (fun x=>x=DB r):=by
 refine zn Tryz.func151 rfl ?_
 apply vb hm<;>intro _ hm
 refine cy hm (a7O o c_0) fun x2 hm=> ?_
 exact hm.rr
 exact hm.rr
def D1 (s:(List c0)) (c1_0:c0):Int→Option (Sum Int (Sum Int Int)):=fun v7=>
 if(decide (v7<(s.length:Int)))=true then
  Option.bind (idx s v7) fun e15=>
  Option.bind (a1b e15 c1_0) fun x17=>
  if x17=true then
   some (.inr (.inr v7))
  else
   some (.inl (W (v7+1)))
 else
  some (.inr (.inl v7))
def E6 (s:(List c0)) (c1_0:c0):Option Int:=
 Option.bind (s9 (D1 s c1_0) 0) fun e=>
 match e with
 | .inl v20=>
  some (-1)
 | .inr rr21=>
  some rr21
theorem Q3 (s:(List c0)) (c1_0:c0) (r:Int) (hm:E6 s c1_0=some r):l8 Tryz.prog 179 [lD 5 s c0.c, .fn 151 [] [.ptr (c0.c c1_0) 0]] (fun x=>x=DI r):=by
 refine zn Tryz.func179 rfl ?_
 obtain⟨ev22,he,hk23⟩:=b9 hm
 refine c8b (D1 s c1_0) (fun v7=>⟨[(0,lD 5 s c0.c),(1, .fn 151 [] [.ptr (c0.c c1_0) 0]),(4,DI 0),(7,DI (s.length:Int)),(8,DI v7)], [],0⟩) 0 (i4.of 0 rfl (tA rfl) trivial) he ?_
 rintro fu24 v7 b hm hi25
 apply vb hm<;>intro _ hm
 obtain⟨e27,hx28,hm⟩:=b9 hm
 refine⟨_,q8 (fun _=>rfl) hx28, ?_⟩
 refine cy hm (a6Y e27 c1_0) fun x29 hm=> ?_
 apply vb hm<;>intro _ hm
 cases hm
 cases hi25
 have hm:=hk23
 exact hm.rr
 cases hm
 exact⟨(_,(W (v7+1))),i4.of 0 rfl (tA rfl) trivial,hi25,Nat.lt_succ_self _⟩
 cases hm
 cases hi25
 have hm:=hk23
 exact hm.rr
def D2 (s:(List c0)) (c1_0:c0):Option Bool:=
 Option.bind (E6 s c1_0) fun x1=>
 some (decide (x1≥0))
theorem P3 (s:(List c0)) (c1_0:c0) (r:Bool) (hm:D2 s c1_0=some r):l8 Tryz.prog 143 [lD 5 s c0.c, .fn 151 [] [.ptr (c0.c c1_0) 0]] (fun x=>x=DB r):=by
 refine zn Tryz.func143 rfl ?_
 refine cy hm (Q3 s c1_0) fun x1 hm=> ?_
 exact hm.rr
def a0z (p:I3) (l:c0):Option Bool:=
 Option.bind (D2 p.Station.Now.Leases l) fun x1=>
 some x1
theorem a4o (p:I3) (l:c0) (r:Bool) (hm:a0z p l=some r):l8 Tryz.prog 92 [.ptr (I3.c p) 0, .agg (c0.c l)] (fun x=>x=DB r):=by
 refine zn Tryz.func92 rfl ?_
 refine co hm (P3 p.Station.Now.Leases l) fun x1 hm=> ?_
 exact hm.rr
def O7 (x:a8) (thing:Int) (to_:Int) (from_:Int) (until_:Int):Option (a8×Int):=
 Option.bind (U3 x) fun e=>
 match e with
 | .inl x8=>
  if(x8 !=0)=true then
   some ((⟨0,(⟨0, [], [], [], [], []⟩:c8),(⟨0, [], [], [], [], []⟩:c8)⟩:a8),x8)
  else
   Option.bind (C8 thing) fun x32=>
   if(!x32)=true then
    some ((⟨0,(⟨0, [], [], [], [], []⟩:c8),(⟨0, [], [], [], [], []⟩:c8)⟩:a8),1)
   else
    Option.bind (B3 to_) fun x35=>
    if(!x35)=true then
     some ((⟨0,(⟨0, [], [], [], [], []⟩:c8),(⟨0, [], [], [], [], []⟩:c8)⟩:a8),1)
    else
     Option.bind (j6 from_) fun x38=>
     if(!x38)=true then
      some ((⟨0,(⟨0, [], [], [], [], []⟩:c8),(⟨0, [], [], [], [], []⟩:c8)⟩:a8),95)
     else
      Option.bind (j6 until_) fun x41=>
      if(!x41)=true then
       some ((⟨0,(⟨0, [], [], [], [], []⟩:c8),(⟨0, [], [], [], [], []⟩:c8)⟩:a8),95)
      else
       none
 | .inr (v9,v10,v11,v12,v13,v14,v15,v16,v17,v18,x19,x20,x21)=>
  Option.bind (C8 thing) fun x44=>
  if(!x44)=true then
   some ((⟨0,(⟨0, [], [], [], [], []⟩:c8),(⟨0, [], [], [], [], []⟩:c8)⟩:a8),1)
  else
   Option.bind (B3 to_) fun x47=>
   if(!x47)=true then
    some ((⟨0,(⟨0, [], [], [], [], []⟩:c8),(⟨0, [], [], [], [], []⟩:c8)⟩:a8),1)
   else
    Option.bind (j6 from_) fun x50=>
    if(!x50)=true then
     some ((⟨0,(⟨0, [], [], [], [], []⟩:c8),(⟨0, [], [], [], [], []⟩:c8)⟩:a8),95)
    else
     Option.bind (j6 until_) fun x53=>
     if(!x53)=true then
      some ((⟨0,(⟨0, [], [], [], [], []⟩:c8),(⟨0, [], [], [], [], []⟩:c8)⟩:a8),95)
     else
      Option.bind (j4 thing) fun x56=>
      if(x56 !=x19)=true then
       some ((⟨0,(⟨0, [], [], [], [], []⟩:c8),(⟨0, [], [], [], [], []⟩:c8)⟩:a8),92)
      else
       if(to_==x19)=true then
        some ((⟨0,(⟨0, [], [], [], [], []⟩:c8),(⟨0, [], [], [], [], []⟩:c8)⟩:a8),1)
       else
        if(decide (from_>until_))=true then
         some ((⟨0,(⟨0, [], [], [], [], []⟩:c8),(⟨0, [], [], [], [], []⟩:c8)⟩:a8),95)
        else
         Option.bind (a0z (⟨(⟨x19,(⟨x20,v9,v10,v11,v12,v13⟩:c8),(⟨x21,v14,v15,v16,v17,v18⟩:c8)⟩:a8)⟩:I3) (⟨(W ((v12.length:Int)+1)),thing,to_,from_,until_⟩:c0)) fun x61=>
         if x61=true then
          some ((⟨0,(⟨0, [], [], [], [], []⟩:c8),(⟨0, [], [], [], [], []⟩:c8)⟩:a8),93)
         else
          if((v12.length:Int)==40)=true then
           some ((⟨0,(⟨0, [], [], [], [], []⟩:c8),(⟨0, [], [], [], [], []⟩:c8)⟩:a8),2)
          else
           gd ((v12.length+([(⟨(W ((v12.length:Int)+1)),thing,to_,from_,until_⟩:c0)]:List c0).length)*40≤140737488355328∧v12.length+([(⟨(W ((v12.length:Int)+1)),thing,to_,from_,until_⟩:c0)]:List c0).length≤9223372036854775807)<|
           some ((⟨x19,(⟨x20,v9,v10,v11,(v12++([(⟨(W ((v12.length:Int)+1)),thing,to_,from_,until_⟩:c0)]:List c0)),v13⟩:c8),(⟨x21,v14,v15,v16,v17,v18⟩:c8)⟩:a8),0)
theorem a1y (x:a8) (thing:Int) (to_:Int) (from_:Int) (until_:Int) (r:(a8×Int)) (hm:O7 x thing to_ from_ until_=some r):l8 Tryz.prog 33 [.agg (a8.c x),DI thing,DI to_,DI from_,DI until_] (fun x=>x= .tup [.agg (a8.c r.1),DI r.2]):=by
 refine zy c6z [99,106,149,210,211,220] [62] [61] Tryz.func33 rfl ?_
 obtain⟨ev29,he30,hm⟩:=b9 hm
 refine O9.ofZ pok ⟨[(0, .agg (a8.c x)),(1000000, .agg (a8.c x)),(1000001,DI thing),(1000002,DI to_),(1000003,DI from_),(1000004,DI until_),(1000005, .own 0 0),(1000010, .own 1 0),(1000011,DI 0)], [(0, .blk (a8.c x) 30),(1, .blk [DI 0,DI 0,nS,nS,nS,nS,nS,DI 0,nS,nS,nS,nS,nS] 30)],2⟩ (match ev29 with| .inl x8=>(⟨[(0, .agg (a8.c x)),(1,DI thing),(2,DI to_),(3,DI from_),(4,DI until_),(5, .own 0 0),(10, .own 1 0),(11,DI 0),(17, .tup [.v (.pointer none),DI x8])], [(0, .blk (a8.c x) 30),(1, .blk [DI 0,DI 0,nS,nS,nS,nS,nS,DI 0,nS,nS,nS,nS,nS] 30)],2⟩:Sy)| .inr (v9,v10,v11,v12,v13,v14,v15,v16,v17,v18,x19,x20,x21)=>(⟨[(0, .agg (a8.c x)),(1,DI thing),(2,DI to_),(3,DI from_),(4,DI until_),(5, .own 0 0),(10, .own 1 0),(11,DI 0),(17, .tup [.own 13 0,DI 0])], [(0, .blk (a8.c x) 30),(1, .blk [DI 0,DI 0,nS,nS,nS,nS,nS,DI 0,nS,nS,nS,nS,nS] 30),(3,rE 4 v9 d0.c 110),(4,rE 6 v10 d9.c 108),(5,rE 4 v11 c9.c 149),(6,rE 5 v12 c0.c 112),(7,rE 6 v13 d7.c 114),(8,rE 4 v14 d0.c 110),(9,rE 6 v15 d9.c 108),(10,rE 4 v16 c9.c 149),(11,rE 5 v17 c0.c 112),(12,rE 6 v18 d7.c 114),(13, .blk [DI x19,DI x20, .row 3 4, .row 4 6, .row 5 4, .row 6 5, .row 7 6,DI x21, .row 8 4, .row 9 6, .row 10 4, .row 11 5, .row 12 6] 102)],14⟩:Sy):Sy) b7J [99,106,149,210,211,220] [62] [61] Tryz.func61 rfl rfl rfl (i4.of 2 rfl (tA rfl) ⟨hR rfl,hR rfl,trivial⟩) (fun sv=> ?_) ?_
 have hm:=he30
 refine cy hm (V1 x) fun x65 hm=> ?_
 apply vb hm<;>intro _ hm
 cases hm
 exact i4.of 2 rfl (tA rfl) ⟨hR rfl,hR rfl,trivial⟩
 refine⟨rfl, ?_⟩
 obtain⟨x68,hx69,hm⟩:=b9 hm
 refine .inr (a7N.mk ⟨_,_,N3 x.Now _ hx69, ?_⟩)
 obtain⟨x70,hx71,hm⟩:=b9 hm
 refine .inr (a7N.mk ⟨_,_,N3 x.Safe _ hx71, ?_⟩)
 cases hm
 exact i4.of 14 rfl (tA rfl) ⟨hR rfl,hR rfl,hW rfl,hW rfl,hW rfl,hW rfl,hW rfl,hW rfl,hW rfl,hW rfl,hW rfl,hW rfl,hR rfl,trivial⟩
 rcases ev29 with x8|⟨v9,v10,v11,v12,v13,v14,v15,v16,v17,v18,x19,x20,x21⟩
 apply vb hm<;>intro _ hm
 cases hm
 exact c8a (⟨_,rfl,⟨⟨_,rfl,⟨c7Y _,c7Y _,c7Z,c7Z,c7Z,c7Z,c7Z,c7Y _,c7Z,c7Z,c7Z,c7Z,c7Z,trivial⟩⟩,c7Y _,trivial⟩⟩)
 refine cy hm (L6 thing) fun x32 hm=> ?_
 apply vb hm<;>intro _ hm
 cases hm
 exact c8a (⟨_,rfl,⟨⟨_,rfl,⟨c7Y _,c7Y _,c7Z,c7Z,c7Z,c7Z,c7Z,c7Y _,c7Z,c7Z,c7Z,c7Z,c7Z,trivial⟩⟩,c7Y _,trivial⟩⟩)
 refine cy hm (C7 to_) fun x35 hm=> ?_
 apply vb hm<;>intro _ hm
 cases hm
 exact c8a (⟨_,rfl,⟨⟨_,rfl,⟨c7Y _,c7Y _,c7Z,c7Z,c7Z,c7Z,c7Z,c7Y _,c7Z,c7Z,c7Z,c7Z,c7Z,trivial⟩⟩,c7Y _,trivial⟩⟩)
 refine cy hm (o7 from_) fun x38 hm=> ?_
 apply vb hm<;>intro _ hm
 cases hm
 exact c8a (⟨_,rfl,⟨⟨_,rfl,⟨c7Y _,c7Y _,c7Z,c7Z,c7Z,c7Z,c7Z,c7Y _,c7Z,c7Z,c7Z,c7Z,c7Z,trivial⟩⟩,c7Y _,trivial⟩⟩)
 refine cy hm (o7 until_) fun x41 hm=> ?_
 apply vb hm<;>intro _ hm
 cases hm
 exact c8a (⟨_,rfl,⟨⟨_,rfl,⟨c7Y _,c7Y _,c7Z,c7Z,c7Z,c7Z,c7Z,c7Y _,c7Z,c7Z,c7Z,c7Z,c7Z,trivial⟩⟩,c7Y _,trivial⟩⟩)
 refine⟨rfl, ?_⟩
 cases hm
 refine cy hm (L6 thing) fun x44 hm=> ?_
 apply vb hm<;>intro _ hm
 cases hm
 exact c8a (⟨_,rfl,⟨⟨_,rfl,⟨c7Y _,c7Y _,c7Z,c7Z,c7Z,c7Z,c7Z,c7Y _,c7Z,c7Z,c7Z,c7Z,c7Z,trivial⟩⟩,c7Y _,trivial⟩⟩)
 refine cy hm (C7 to_) fun x47 hm=> ?_
 apply vb hm<;>intro _ hm
 cases hm
 exact c8a (⟨_,rfl,⟨⟨_,rfl,⟨c7Y _,c7Y _,c7Z,c7Z,c7Z,c7Z,c7Z,c7Y _,c7Z,c7Z,c7Z,c7Z,c7Z,trivial⟩⟩,c7Y _,trivial⟩⟩)
 refine cy hm (o7 from_) fun x50 hm=> ?_
 apply vb hm<;>intro _ hm
 cases hm
 exact c8a (⟨_,rfl,⟨⟨_,rfl,⟨c7Y _,c7Y _,c7Z,c7Z,c7Z,c7Z,c7Z,c7Y _,c7Z,c7Z,c7Z,c7Z,c7Z,trivial⟩⟩,c7Y _,trivial⟩⟩)
 refine cy hm (o7 until_) fun x53 hm=> ?_
 apply vb hm<;>intro _ hm
 cases hm
 exact c8a (⟨_,rfl,⟨⟨_,rfl,⟨c7Y _,c7Y _,c7Z,c7Z,c7Z,c7Z,c7Z,c7Y _,c7Z,c7Z,c7Z,c7Z,c7Z,trivial⟩⟩,c7Y _,trivial⟩⟩)
 refine⟨rfl, ?_⟩
 refine cy hm (m8 thing) fun x56 hm=> ?_
 apply vb hm<;>intro _ hm
 cases hm
 exact c8a (⟨_,rfl,⟨⟨_,rfl,⟨c7Y _,c7Y _,c7Z,c7Z,c7Z,c7Z,c7Z,c7Y _,c7Z,c7Z,c7Z,c7Z,c7Z,trivial⟩⟩,c7Y _,trivial⟩⟩)
 apply vb hm<;>intro _ hm
 cases hm
 exact c8a (⟨_,rfl,⟨⟨_,rfl,⟨c7Y _,c7Y _,c7Z,c7Z,c7Z,c7Z,c7Z,c7Y _,c7Z,c7Z,c7Z,c7Z,c7Z,trivial⟩⟩,c7Y _,trivial⟩⟩)
 apply vb hm<;>intro _ hm
 cases hm
 exact c8a (⟨_,rfl,⟨⟨_,rfl,⟨c7Y _,c7Y _,c7Z,c7Z,c7Z,c7Z,c7Z,c7Y _,c7Z,c7Z,c7Z,c7Z,c7Z,trivial⟩⟩,c7Y _,trivial⟩⟩)
 refine co hm (a4o ((⟨(⟨x19,(⟨x20,v9,v10,v11,v12,v13⟩:c8),(⟨x21,v14,v15,v16,v17,v18⟩:c8)⟩:a8)⟩:I3)) ((⟨(W ((v12.length:Int)+1)),thing,to_,from_,until_⟩:c0))) fun x61 hm=> ?_
 apply vb hm<;>intro _ hm
 cases hm
 exact c8a (⟨_,rfl,⟨⟨_,rfl,⟨c7Y _,c7Y _,c7Z,c7Z,c7Z,c7Z,c7Z,c7Y _,c7Z,c7Z,c7Z,c7Z,c7Z,trivial⟩⟩,c7Y _,trivial⟩⟩)
 apply vb hm<;>intro _ hm
 cases hm
 exact c8a (⟨_,rfl,⟨⟨_,rfl,⟨c7Y _,c7Y _,c7Z,c7Z,c7Z,c7Z,c7Z,c7Y _,c7Z,c7Z,c7Z,c7Z,c7Z,trivial⟩⟩,c7Y _,trivial⟩⟩)
 refine⟨rfl, ?_⟩
 refine⟨([(⟨(W ((v12.length:Int)+1)),thing,to_,from_,until_⟩:c0)]:List c0).flatMap c0.c,([(⟨(W ((v12.length:Int)+1)),thing,to_,from_,until_⟩:c0)]:List c0).length,⟨rfl,rfl⟩, ?_⟩
 obtain⟨hg,hm⟩:=n9 hm
 refine⟨hg,_,_,O1 (c:=c0.c) (l:=(v12:List c0)) (r:=(([(⟨(W ((v12.length:Int)+1)),thing,to_,from_,until_⟩:c0)]:List c0):List c0)), ?_⟩
 cases hm
 exact c8a (c7Y _)
def a4Y (c:b8):Option (b8×Bool):=
 if(c.Kind==1)=true then
  if(c.Kind==2)=true then
   if(c.Kind !=1)=true then
    some ((⟨c.Kind,c.From,c.To,c.Night,c.Ballot,c.Best,c.Value,0,0,0,0⟩:b8),true)
   else
    some ((⟨c.Kind,c.From,c.To,c.Night,c.Ballot,c.Best,0,0,0,0,0⟩:b8),true)
  else
   if(c.Kind !=1)=true then
    some ((⟨c.Kind,c.From,c.To,c.Night,c.Ballot,0,c.Value,0,0,0,0⟩:b8),true)
   else
    some ((⟨c.Kind,c.From,c.To,c.Night,c.Ballot,0,0,0,0,0,0⟩:b8),true)
 else
  if(c.Kind==2)=true then
   if(c.Kind !=1)=true then
    some ((⟨c.Kind,c.From,c.To,c.Night,c.Ballot,c.Best,c.Value,0,0,0,0⟩:b8),true)
   else
    some ((⟨c.Kind,c.From,c.To,c.Night,c.Ballot,c.Best,0,0,0,0,0⟩:b8),true)
  else
   if(c.Kind==3)=true then
    if(c.Kind !=1)=true then
     some ((⟨c.Kind,c.From,c.To,c.Night,c.Ballot,0,c.Value,0,0,0,0⟩:b8),true)
    else
     some ((⟨c.Kind,c.From,c.To,c.Night,c.Ballot,0,0,0,0,0,0⟩:b8),true)
   else
    if(c.Kind==4)=true then
     if(c.Kind !=1)=true then
      some ((⟨c.Kind,c.From,c.To,c.Night,c.Ballot,0,c.Value,0,0,0,0⟩:b8),true)
     else
      some ((⟨c.Kind,c.From,c.To,c.Night,c.Ballot,0,0,0,0,0,0⟩:b8),true)
    else
     if(c.Kind==5)=true then
      some ((⟨c.Kind,c.From,c.To,0,0,0,0,c.No,c.Thing,c.Start,c.Until⟩:b8),true)
     else
      if(c.Kind==6)=true then
       some ((⟨c.Kind,c.From,c.To,0,0,0,0,c.No,c.Thing,0,c.Until⟩:b8),true)
      else
       some ((⟨c.Kind,c.From,c.To,0,0,0,0,0,0,0,0⟩:b8),false)
theorem b2R (c:b8) (r:(b8×Bool)) (hm:a4Y c=some r):l8 Tryz.prog 147 [.agg (b8.c c)] (fun x=>x= .tup [.agg (b8.c r.1),DB r.2]):=by
 refine zy c5E [] [] [] Tryz.func147 rfl ?_
 apply vb hm<;>intro h1 hm
 refine VIf.t h1 ?_
 refine⟨rfl, ?_⟩
 apply vb hm<;>intro _ hm
 apply vb hm<;>intro _ hm
 cases hm
 exact c8a (c7Y _)
 cases hm
 exact c8a (c7Y _)
 apply vb hm<;>intro _ hm
 cases hm
 exact c8a (c7Y _)
 cases hm
 exact c8a (c7Y _)
 apply vb hm<;>intro h5 hm
 refine VIf.t h5 ?_
 refine⟨rfl, ?_⟩
 refine VIf.t h5 ?_
 apply vb hm<;>intro _ hm
 cases hm
 exact c8a (c7Y _)
 cases hm
 exact c8a (c7Y _)
 apply vb hm<;>intro h7 hm
 refine VIf.t h7 ?_
 refine⟨rfl, ?_⟩
 refine VIf.f h5 ?_
 apply vb hm<;>intro _ hm
 cases hm
 exact c8a (c7Y _)
 cases hm
 exact c8a (c7Y _)
 apply vb hm<;>intro _ hm
 refine⟨rfl, ?_⟩
 refine VIf.f h5 ?_
 apply vb hm<;>intro _ hm
 cases hm
 exact c8a (c7Y _)
 cases hm
 exact c8a (c7Y _)
 apply vb hm<;>intro _ hm
 refine⟨rfl, ?_⟩
 cases hm
 exact c8a (c7Y _)
 apply vb hm<;>intro _ hm
 refine⟨rfl, ?_⟩
 cases hm
 exact c8a (c7Y _)
 cases hm
 exact c8a (c7Y _)
def a0J (c:b8):Option Bool:=
 Option.bind (a4Y c) fun⟨x1,x2⟩=>
 if(!x2)=true then
  some false
 else
  if(!((c.Kind==x1.Kind)&&((c.From==x1.From)&&((c.To==x1.To)&&((c.Night==x1.Night)&&((c.Ballot==x1.Ballot)&&((c.Best==x1.Best)&&((c.Value==x1.Value)&&((c.No==x1.No)&&((c.Thing==x1.Thing)&&((c.Start==x1.Start)&&(c.Until==x1.Until))))))))))))=true then
   some false
  else
   Option.bind (B3 c.From) fun x6=>
   if(!x6)=true then
    some false
   else
    Option.bind (B3 c.To) fun x9=>
    if(!x9)=true then
     some false
    else
     if(c.From !=c.To)=true then
      Option.bind (k9 c.No 1 40) fun x13=>
      if x13=true then
       Option.bind (C8 c.Thing) fun x16=>
       Option.bind (u6 c.Night) fun x18=>
       if x18=true then
        Option.bind (C9 c.Ballot) fun x21=>
        if(c.Kind==1)=true then
         if x21=true then
          Option.bind (j4 c.Ballot) fun x25=>
          some (x25==c.From)
         else
          some false
        else
         if(c.Kind==2)=true then
          if x21=true then
           Option.bind (j4 c.Ballot) fun x29=>
           if(x29==c.To)=true then
            if(c.Best==0)=true then
             if(c.Value==0)=true then
              some true
             else
              Option.bind (k9 c.Best 6 (W (c.Ballot-1))) fun x34=>
              if x34=true then
               Option.bind (m9 c.Value) fun x37=>
               some x37
              else
               some false
            else
             Option.bind (k9 c.Best 6 (W (c.Ballot-1))) fun x39=>
             if x39=true then
              Option.bind (m9 c.Value) fun x42=>
              some x42
             else
              some false
           else
            some false
          else
           some false
         else
          if(c.Kind==3)=true then
           if x21=true then
            Option.bind (j4 c.Ballot) fun x46=>
            if(x46==c.From)=true then
             Option.bind (m9 c.Value) fun x49=>
             some x49
            else
             some false
           else
            some false
          else
           if(c.Kind==4)=true then
            if x21=true then
             Option.bind (m9 c.Value) fun x53=>
             some x53
            else
             some false
           else
            if(c.Kind==5)=true then
             if x16=true then
              Option.bind (j4 c.Thing) fun x57=>
              if(x57==c.From)=true then
               Option.bind (W9 c.Start c.Until) fun x60=>
               some x60
              else
               some false
             else
              some false
            else
             if x16=true then
              Option.bind (j4 c.Thing) fun x63=>
              if(x63==c.To)=true then
               Option.bind (j6 c.Until) fun x66=>
               some x66
              else
               some false
             else
              some false
       else
        if(c.Kind==1)=true then
         some false
        else
         if(c.Kind==2)=true then
          some false
         else
          if(c.Kind==3)=true then
           some false
          else
           if(c.Kind==4)=true then
            some false
           else
            if(c.Kind==5)=true then
             if x16=true then
              Option.bind (j4 c.Thing) fun x74=>
              if(x74==c.From)=true then
               Option.bind (W9 c.Start c.Until) fun x77=>
               some x77
              else
               some false
             else
              some false
            else
             if x16=true then
              Option.bind (j4 c.Thing) fun x80=>
              if(x80==c.To)=true then
               Option.bind (j6 c.Until) fun x83=>
               some x83
              else
               some false
             else
              some false
      else
       Option.bind (u6 c.Night) fun x85=>
       if x85=true then
        Option.bind (C9 c.Ballot) fun x88=>
        if(c.Kind==1)=true then
         if x88=true then
          Option.bind (j4 c.Ballot) fun x92=>
          some (x92==c.From)
         else
          some false
        else
         if(c.Kind==2)=true then
          if x88=true then
           Option.bind (j4 c.Ballot) fun x96=>
           if(x96==c.To)=true then
            if(c.Best==0)=true then
             if(c.Value==0)=true then
              some true
             else
              Option.bind (k9 c.Best 6 (W (c.Ballot-1))) fun x101=>
              if x101=true then
               Option.bind (m9 c.Value) fun x104=>
               some x104
              else
               some false
            else
             Option.bind (k9 c.Best 6 (W (c.Ballot-1))) fun x106=>
             if x106=true then
              Option.bind (m9 c.Value) fun x109=>
              some x109
             else
              some false
           else
            some false
          else
           some false
         else
          if(c.Kind==3)=true then
           if x88=true then
            Option.bind (j4 c.Ballot) fun x113=>
            if(x113==c.From)=true then
             Option.bind (m9 c.Value) fun x116=>
             some x116
            else
             some false
           else
            some false
          else
           if(c.Kind==4)=true then
            if x88=true then
             Option.bind (m9 c.Value) fun x120=>
             some x120
            else
             some false
           else
            if(c.Kind==5)=true then
             some false
            else
             some false
       else
        if(c.Kind==1)=true then
         some false
        else
         if(c.Kind==2)=true then
          some false
         else
          if(c.Kind==3)=true then
           some false
          else
           if(c.Kind==4)=true then
            some false
           else
            if(c.Kind==5)=true then
             some false
            else
             some false
     else
      Option.bind (u6 c.Night) fun x128=>
      if x128=true then
       Option.bind (C9 c.Ballot) fun x131=>
       if(c.Kind==1)=true then
        if x131=true then
         Option.bind (j4 c.Ballot) fun x135=>
         some (x135==c.From)
        else
         some false
       else
        if(c.Kind==2)=true then
         if x131=true then
          Option.bind (j4 c.Ballot) fun x139=>
          if(x139==c.To)=true then
           if(c.Best==0)=true then
            if(c.Value==0)=true then
             some true
            else
             Option.bind (k9 c.Best 6 (W (c.Ballot-1))) fun x144=>
             if x144=true then
              Option.bind (m9 c.Value) fun x147=>
              some x147
             else
              some false
           else
            Option.bind (k9 c.Best 6 (W (c.Ballot-1))) fun x149=>
            if x149=true then
             Option.bind (m9 c.Value) fun x152=>
             some x152
            else
             some false
          else
           some false
         else
          some false
        else
         if(c.Kind==3)=true then
          if x131=true then
           Option.bind (j4 c.Ballot) fun x156=>
           if(x156==c.From)=true then
            Option.bind (m9 c.Value) fun x159=>
            some x159
           else
            some false
          else
           some false
         else
          if(c.Kind==4)=true then
           if x131=true then
            Option.bind (m9 c.Value) fun x163=>
            some x163
           else
            some false
          else
           if(c.Kind==5)=true then
            some false
           else
            some false
      else
       if(c.Kind==1)=true then
        some false
       else
        if(c.Kind==2)=true then
         some false
        else
         if(c.Kind==3)=true then
          some false
         else
          if(c.Kind==4)=true then
           some false
          else
           if(c.Kind==5)=true then
            some false
           else
            some false
theorem a6h (c:b8) (r:Bool) (hm:a0J c=some r):l8 Tryz.prog 80 [.agg (b8.c c)] (fun x=>x=DB r):=by
 refine zy c6v [] [] [] Tryz.func80 rfl ?_
 refine cy hm (b2R c) ?_
 rintro⟨x1,x2⟩ hm
 apply vb hm<;>intro _ hm
 exact hm.rr
 apply vb hm<;>intro _ hm
 exact hm.rr
 refine cy hm (C7 c.From) fun x6 hm=> ?_
 apply vb hm<;>intro _ hm
 exact hm.rr
 refine cy hm (C7 c.To) fun x9 hm=> ?_
 apply vb hm<;>intro _ hm
 exact hm.rr
 apply vb hm<;>intro _ hm
 refine cy hm (o5 c.No 1 40) fun x13 hm=> ?_
 apply vb hm<;>intro _ hm
 refine cy hm (L6 c.Thing) fun x16 hm=> ?_
 refine cy hm (B2 c.Night) fun x18 hm=> ?_
 apply vb hm<;>intro _ hm
 refine cy hm (J9 c.Ballot) fun x21 hm=> ?_
 apply vb hm<;>intro _ hm
 refine⟨rfl, ?_⟩
 apply vb hm<;>intro _ hm
 refine cy hm (m8 c.Ballot) fun x25 hm=> ?_
 exact hm.rr
 exact hm.rr
 apply vb hm<;>intro _ hm
 refine⟨rfl, ?_⟩
 apply vb hm<;>intro _ hm
 refine cy hm (m8 c.Ballot) fun x29 hm=> ?_
 apply vb hm<;>intro _ hm
 apply vb hm<;>intro _ hm
 apply vb hm<;>intro _ hm
 exact hm.rr
 refine cy hm (o5 c.Best 6 (W (c.Ballot-1))) fun x34 hm=> ?_
 apply vb hm<;>intro _ hm
 refine cy hm (q0 c.Value) fun x37 hm=> ?_
 exact hm.rr
 exact hm.rr
 refine cy hm (o5 c.Best 6 (W (c.Ballot-1))) fun x39 hm=> ?_
 apply vb hm<;>intro _ hm
 refine cy hm (q0 c.Value) fun x42 hm=> ?_
 exact hm.rr
 exact hm.rr
 exact hm.rr
 exact hm.rr
 apply vb hm<;>intro _ hm
 refine⟨rfl, ?_⟩
 apply vb hm<;>intro _ hm
 refine cy hm (m8 c.Ballot) fun x46 hm=> ?_
 apply vb hm<;>intro _ hm
 refine cy hm (q0 c.Value) fun x49 hm=> ?_
 exact hm.rr
 exact hm.rr
 exact hm.rr
 apply vb hm<;>intro _ hm
 apply vb hm<;>intro _ hm
 refine cy hm (q0 c.Value) fun x53 hm=> ?_
 exact hm.rr
 exact hm.rr
 apply vb hm<;>intro _ hm
 refine⟨rfl, ?_⟩
 apply vb hm<;>intro _ hm
 refine cy hm (m8 c.Thing) fun x57 hm=> ?_
 apply vb hm<;>intro _ hm
 refine cy hm (a1I c.Start c.Until) fun x60 hm=> ?_
 exact hm.rr
 exact hm.rr
 exact hm.rr
 refine⟨rfl, ?_⟩
 apply vb hm<;>intro _ hm
 refine cy hm (m8 c.Thing) fun x63 hm=> ?_
 apply vb hm<;>intro _ hm
 refine cy hm (o7 c.Until) fun x66 hm=> ?_
 exact hm.rr
 exact hm.rr
 exact hm.rr
 apply vb hm<;>intro _ hm
 refine⟨rfl, ?_⟩
 exact hm.rr
 apply vb hm<;>intro _ hm
 refine⟨rfl, ?_⟩
 exact hm.rr
 apply vb hm<;>intro _ hm
 refine⟨rfl, ?_⟩
 exact hm.rr
 apply vb hm<;>intro _ hm
 exact hm.rr
 apply vb hm<;>intro _ hm
 refine⟨rfl, ?_⟩
 apply vb hm<;>intro _ hm
 refine cy hm (m8 c.Thing) fun x74 hm=> ?_
 apply vb hm<;>intro _ hm
 refine cy hm (a1I c.Start c.Until) fun x77 hm=> ?_
 exact hm.rr
 exact hm.rr
 exact hm.rr
 refine⟨rfl, ?_⟩
 apply vb hm<;>intro _ hm
 refine cy hm (m8 c.Thing) fun x80 hm=> ?_
 apply vb hm<;>intro _ hm
 refine cy hm (o7 c.Until) fun x83 hm=> ?_
 exact hm.rr
 exact hm.rr
 exact hm.rr
 refine cy hm (B2 c.Night) fun x85 hm=> ?_
 apply vb hm<;>intro _ hm
 refine cy hm (J9 c.Ballot) fun x88 hm=> ?_
 apply vb hm<;>intro _ hm
 refine⟨rfl, ?_⟩
 apply vb hm<;>intro _ hm
 refine cy hm (m8 c.Ballot) fun x92 hm=> ?_
 exact hm.rr
 exact hm.rr
 apply vb hm<;>intro _ hm
 refine⟨rfl, ?_⟩
 apply vb hm<;>intro _ hm
 refine cy hm (m8 c.Ballot) fun x96 hm=> ?_
 apply vb hm<;>intro _ hm
 apply vb hm<;>intro _ hm
 apply vb hm<;>intro _ hm
 exact hm.rr
 refine cy hm (o5 c.Best 6 (W (c.Ballot-1))) fun x101 hm=> ?_
 apply vb hm<;>intro _ hm
 refine cy hm (q0 c.Value) fun x104 hm=> ?_
 exact hm.rr
 exact hm.rr
 refine cy hm (o5 c.Best 6 (W (c.Ballot-1))) fun x106 hm=> ?_
 apply vb hm<;>intro _ hm
 refine cy hm (q0 c.Value) fun x109 hm=> ?_
 exact hm.rr
 exact hm.rr
 exact hm.rr
 exact hm.rr
 apply vb hm<;>intro _ hm
 refine⟨rfl, ?_⟩
 apply vb hm<;>intro _ hm
 refine cy hm (m8 c.Ballot) fun x113 hm=> ?_
 apply vb hm<;>intro _ hm
 refine cy hm (q0 c.Value) fun x116 hm=> ?_
 exact hm.rr
 exact hm.rr
 exact hm.rr
 apply vb hm<;>intro _ hm
 apply vb hm<;>intro _ hm
 refine cy hm (q0 c.Value) fun x120 hm=> ?_
 exact hm.rr
 exact hm.rr
 apply vb hm<;>intro _ hm
 refine⟨rfl, ?_⟩
 exact hm.rr
 refine⟨rfl, ?_⟩
 exact hm.rr
 apply vb hm<;>intro _ hm
 refine⟨rfl, ?_⟩
 exact hm.rr
 apply vb hm<;>intro _ hm
 refine⟨rfl, ?_⟩
 exact hm.rr
 apply vb hm<;>intro _ hm
 refine⟨rfl, ?_⟩
 exact hm.rr
 apply vb hm<;>intro _ hm
 exact hm.rr
 apply vb hm<;>intro _ hm
 refine⟨rfl, ?_⟩
 exact hm.rr
 refine⟨rfl, ?_⟩
 exact hm.rr
 refine cy hm (B2 c.Night) fun x128 hm=> ?_
 apply vb hm<;>intro _ hm
 refine cy hm (J9 c.Ballot) fun x131 hm=> ?_
 apply vb hm<;>intro _ hm
 refine⟨rfl, ?_⟩
 apply vb hm<;>intro _ hm
 refine cy hm (m8 c.Ballot) fun x135 hm=> ?_
 exact hm.rr
 exact hm.rr
 apply vb hm<;>intro _ hm
 refine⟨rfl, ?_⟩
 apply vb hm<;>intro _ hm
 refine cy hm (m8 c.Ballot) fun x139 hm=> ?_
 apply vb hm<;>intro _ hm
 apply vb hm<;>intro _ hm
 apply vb hm<;>intro _ hm
 exact hm.rr
 refine cy hm (o5 c.Best 6 (W (c.Ballot-1))) fun x144 hm=> ?_
 apply vb hm<;>intro _ hm
 refine cy hm (q0 c.Value) fun x147 hm=> ?_
 exact hm.rr
 exact hm.rr
 refine cy hm (o5 c.Best 6 (W (c.Ballot-1))) fun x149 hm=> ?_
 apply vb hm<;>intro _ hm
 refine cy hm (q0 c.Value) fun x152 hm=> ?_
 exact hm.rr
 exact hm.rr
 exact hm.rr
 exact hm.rr
 apply vb hm<;>intro _ hm
 refine⟨rfl, ?_⟩
 apply vb hm<;>intro _ hm
 refine cy hm (m8 c.Ballot) fun x156 hm=> ?_
 apply vb hm<;>intro _ hm
 refine cy hm (q0 c.Value) fun x159 hm=> ?_
 exact hm.rr
 exact hm.rr
 exact hm.rr
 apply vb hm<;>intro _ hm
 apply vb hm<;>intro _ hm
 refine cy hm (q0 c.Value) fun x163 hm=> ?_
 exact hm.rr
 exact hm.rr
 apply vb hm<;>intro _ hm
 refine⟨rfl, ?_⟩
 exact hm.rr
 refine⟨rfl, ?_⟩
 exact hm.rr
 apply vb hm<;>intro _ hm
 refine⟨rfl, ?_⟩
 exact hm.rr
 apply vb hm<;>intro _ hm
 refine⟨rfl, ?_⟩
 exact hm.rr
 apply vb hm<;>intro _ hm
 refine⟨rfl, ?_⟩
 exact hm.rr
 apply vb hm<;>intro _ hm
 exact hm.rr
 apply vb hm<;>intro _ hm
 refine⟨rfl, ?_⟩
 exact hm.rr
 refine⟨rfl, ?_⟩
 exact hm.rr
def O5 (s:(List d0)) (i:Int) (v:(List d0)):Option (List d0):=
 gd (0≤i∧i.toNat≤s.length)<|
 if((v.length:Int)==0)=true then
  some s
 else
  if(i==(s.length:Int))=true then
   gd ((s.length+v.length)*32≤140737488355328∧s.length+v.length≤9223372036854775807)<|
   some (s++v)
  else
   gd (0≤i∧i.toNat<s.length∧0<v.length∧(s.length+v.length)*32≤140737488355328∧s.length+v.length≤9223372036854775807) (some (s.take i.toNat++v++s.drop i.toNat))
theorem V7 (s:(List d0)) (i:Int) (v:(List d0)) (r:(List d0)) (hm:O5 s i v=some r):b2z Tryz.prog 220 4 s.length (s.flatMap d0.c) 110 [DI i,lD 4 v d0.c] 4 r.length (r.flatMap d0.c):=by
 obtain⟨hg0,hm⟩:=n9 hm
 refine a7r (X:=⟨Tryz.prog,tt,Tryz.f220.ntmps, [], [], [], [], [], []⟩) (t:=22) (tI:=3) (tB:=4) (ov:=232) (ty:=110) (args:= [lD 4 v d0.c]) pok Tryz.func220 rfl rfl .mk .mk (Nat.le_of_ble_eq_true rfl) hg0 rfl rfl rfl rfl rfl rfl (by kernel_rfl) ⟨⟨_,4,Tryz.func232,by kernel_rfl,by kernel_rfl,by kernel_rfl,by kernel_rfl⟩⟩ (by decide) ?_
 apply vb hm<;>intro _ hm
 cases hm
 exact⟨rfl,rfl⟩
 apply vb hm<;>intro _ hm
 obtain⟨hg,hm⟩:=n9 hm
 refine⟨hg,_,_,O1 (c:=d0.c) (l:=(s:List d0)) (r:=(v:List d0)), ?_⟩
 cases hm
 exact⟨rfl,rfl⟩
 obtain⟨hg,hm⟩:=n9 hm
 cases hm
 exact b7X (fun _=>rfl) hg
def A7 (x:(List d0)) (target:d0):(Int×Int)→Option (Sum (Int×Int) (Int×Int)):=fun(i7,j8)=>
 if(decide (i7<j8))=true then
  Option.bind (idx x (W ((IntKind.u64.wrap (W (i7+j8))).fdiv (2^(min (1:Int).toNat IntKind.u64.bits))))) fun e16=>
  Option.bind (J5 e16 target) fun x18=>
  if(decide (x18<0))=true then
   some (.inl ((W ((W ((IntKind.u64.wrap (W (i7+j8))).fdiv (2^(min (1:Int).toNat IntKind.u64.bits))))+1)),j8))
  else
   some (.inl (i7,(W ((IntKind.u64.wrap (W (i7+j8))).fdiv (2^(min (1:Int).toNat IntKind.u64.bits))))))
 else
  some (.inr (i7,j8))
def n7 (x:(List d0)) (target:d0):Option (Int×Bool):=
 Option.bind (s9 (A7 x target) (0,(x.length:Int))) fun(i21,j22)=>
 if(decide (i21<(x.length:Int)))=true then
  Option.bind (idx x i21) fun e24=>
  Option.bind (J5 e24 target) fun x26=>
  some (i21,(x26==0))
 else
  some (i21,false)
theorem L2 (x:(List d0)) (target:d0) (r:(Int×Bool)) (hm:n7 x target=some r):l8 Tryz.prog 231 [lD 4 x d0.c, .agg (d0.c target), .fn 136 [] []] (fun x=>x= .tup [DI r.1,DB r.2]):=by
 refine zy c5k [] [] [] Tryz.func231 rfl ?_
 obtain⟨ev28,he,hk29⟩:=b9 hm
 refine c8b (A7 x target) (fun(i7,j8)=>⟨[(0,lD 4 x d0.c),(1, .agg (d0.c target)),(2, .fn 136 [] []),(4, .own 0 0),(6,DI 0),(7,DB false),(8,DI (x.length:Int)),(9,DI i7),(10,DI j8)], [(0, .blk (d0.c target) 110)],1⟩) (0,(x.length:Int)) (i4.of 1 rfl (tA rfl) ⟨hR rfl,trivial⟩) he ?_
 rintro fu30 ⟨i7,j8⟩ b hm hi31
 apply vb hm<;>intro _ hm
 refine⟨by decide, ?_⟩
 refine⟨rfl, ?_⟩
 obtain⟨e33,hx34,hm⟩:=b9 hm
 refine⟨_,q8 (fun _=>rfl) hx34, ?_⟩
 refine cy hm (a0P e33 target) fun x35 hm=> ?_
 apply vb hm<;>intro _ hm
 cases hm
 exact⟨(_,((W ((W ((IntKind.u64.wrap (W (i7+j8))).fdiv (2^(min (1:Int).toNat IntKind.u64.bits))))+1)),j8)),i4.of 1 rfl (tA rfl) ⟨hR rfl,trivial⟩,hi31,Nat.lt_succ_self _⟩
 cases hm
 exact⟨(_,(i7,(W ((IntKind.u64.wrap (W (i7+j8))).fdiv (2^(min (1:Int).toNat IntKind.u64.bits)))))),i4.of 1 rfl (tA rfl) ⟨hR rfl,trivial⟩,hi31,Nat.lt_succ_self _⟩
 cases hm
 cases hi31
 have hm:=hk29
 refine⟨rfl, ?_⟩
 apply vb hm<;>intro _ hm
 obtain⟨e39,hx40,hm⟩:=b9 hm
 refine⟨_,q8 (fun _=>rfl) hx40, ?_⟩
 refine cy hm (a0P e39 target) fun x41 hm=> ?_
 cases hm
 exact c8a (c7Y _)
 cases hm
 exact c8a (c7Y _)
def B5 (l:(List d0)) (x:d0):Option (Int×Bool):=
 Option.bind (n7 l x) fun⟨x1,x2⟩=>
 some (x1,x2)
theorem N4 (l:(List d0)) (x:d0) (r:(Int×Bool)) (hm:B5 l x=some r):l8 Tryz.prog 219 [lD 4 l d0.c, .agg (d0.c x), .fn 136 [] []] (fun x=>x= .tup [DI r.1,DB r.2]):=by
 refine zn Tryz.func219 rfl ?_
 refine cy hm (L2 l x) ?_
 rintro⟨x1,x2⟩ hm
 cases hm
 exact c8a (c7Y _)
def X6 (m:Int) (depot:Int):Option Bool:=
 gd (0≤depot)<|
 some ((W ((BitVec.ofInt IntKind.i64.bits (m.fdiv (2^(min depot.toNat IntKind.i64.bits)))&&&BitVec.ofInt IntKind.i64.bits 1).toNat:Int))==1)
theorem a8Q (m:Int) (depot:Int) (r:Bool) (hm:X6 m depot=some r):l8 Tryz.prog 186 [DI m,DI depot] (fun x=>x=DB r):=by
 refine zn Tryz.func186 rfl ?_
 obtain⟨hg,hm⟩:=n9 hm
 refine⟨hg, ?_⟩
 exact hm.rr
def Q1 (m:Int) (depot:Int):Option Int:=
 gd (0≤depot)<|
 some (W ((BitVec.ofInt IntKind.i64.bits m|||BitVec.ofInt IntKind.i64.bits (W (1*(2^(min depot.toNat IntKind.i64.bits))))).toNat:Int))
theorem a4k (m:Int) (depot:Int) (r:Int) (hm:Q1 m depot=some r):l8 Tryz.prog 187 [DI m,DI depot] (fun x=>x=DI r):=by
 refine zn Tryz.func187 rfl ?_
 obtain⟨hg,hm⟩:=n9 hm
 refine⟨hg, ?_⟩
 exact hm.rr
def a0e (b_:d9) (c_0:b8):Option Bool:=
 if(b_.Night==c_0.Night)=true then
  some (b_.Ballot==c_0.Ballot)
 else
  some false
theorem a5i (b_:d9) (c_0:b8) (r:Bool) (hm:a0e b_ c_0=some r):l8 Tryz.prog 185 [.agg (d9.c b_), .ptr (b8.c c_0) 0] (fun x=>x=DB r):=by
 refine zn Tryz.func185 rfl ?_
 apply vb hm<;>intro _ hm
 exact hm.rr
 exact hm.rr
def D8 (s:(List d9)) (c1_0:b8):Int→Option (Sum Int (Sum Int Int)):=fun v7=>
 if(decide (v7<(s.length:Int)))=true then
  Option.bind (idx s v7) fun e15=>
  Option.bind (a0e e15 c1_0) fun x17=>
  if x17=true then
   some (.inr (.inr v7))
  else
   some (.inl (W (v7+1)))
 else
  some (.inr (.inl v7))
def A9 (s:(List d9)) (c1_0:b8):Option Int:=
 Option.bind (s9 (D8 s c1_0) 0) fun e=>
 match e with
 | .inl v20=>
  some (-1)
 | .inr rr21=>
  some rr21
theorem Q7 (s:(List d9)) (c1_0:b8) (r:Int) (hm:A9 s c1_0=some r):l8 Tryz.prog 178 [lD 6 s d9.c, .fn 185 [] [.ptr (b8.c c1_0) 0]] (fun x=>x=DI r):=by
 refine zn Tryz.func178 rfl ?_
 obtain⟨ev22,he,hk23⟩:=b9 hm
 refine c8b (D8 s c1_0) (fun v7=>⟨[(0,lD 6 s d9.c),(1, .fn 185 [] [.ptr (b8.c c1_0) 0]),(4,DI 0),(7,DI (s.length:Int)),(8,DI v7)], [],0⟩) 0 (i4.of 0 rfl (tA rfl) trivial) he ?_
 rintro fu24 v7 b hm hi25
 apply vb hm<;>intro _ hm
 obtain⟨e27,hx28,hm⟩:=b9 hm
 refine⟨_,q8 (fun _=>rfl) hx28, ?_⟩
 refine cy hm (a5i e27 c1_0) fun x29 hm=> ?_
 apply vb hm<;>intro _ hm
 cases hm
 cases hi25
 have hm:=hk23
 exact hm.rr
 cases hm
 exact⟨(_,(W (v7+1))),i4.of 0 rfl (tA rfl) trivial,hi25,Nat.lt_succ_self _⟩
 cases hm
 cases hi25
 have hm:=hk23
 exact hm.rr
def M7 (s:(List c9)) (i:Int) (v:(List c9)):Option (List c9):=
 gd (0≤i∧i.toNat≤s.length)<|
 if((v.length:Int)==0)=true then
  some s
 else
  if(i==(s.length:Int))=true then
   gd ((s.length+v.length)*32≤140737488355328∧s.length+v.length≤9223372036854775807)<|
   some (s++v)
  else
   gd (0≤i∧i.toNat<s.length∧0<v.length∧(s.length+v.length)*32≤140737488355328∧s.length+v.length≤9223372036854775807) (some (s.take i.toNat++v++s.drop i.toNat))
theorem a1D (s:(List c9)) (i:Int) (v:(List c9)) (r:(List c9)) (hm:M7 s i v=some r):b2z Tryz.prog 210 4 s.length (s.flatMap c9.c) 149 [DI i,lD 4 v c9.c] 4 r.length (r.flatMap c9.c):=by
 obtain⟨hg0,hm⟩:=n9 hm
 refine a7r (X:=⟨Tryz.prog,tt,Tryz.f210.ntmps, [], [], [], [], [], []⟩) (t:=24) (tI:=3) (tB:=4) (ov:=222) (ty:=149) (args:= [lD 4 v c9.c]) pok Tryz.func210 rfl rfl .mk .mk (Nat.le_of_ble_eq_true rfl) hg0 rfl rfl rfl rfl rfl rfl (by kernel_rfl) ⟨⟨_,4,Tryz.func222,by kernel_rfl,by kernel_rfl,by kernel_rfl,by kernel_rfl⟩⟩ (by decide) ?_
 apply vb hm<;>intro _ hm
 cases hm
 exact⟨rfl,rfl⟩
 apply vb hm<;>intro _ hm
 obtain⟨hg,hm⟩:=n9 hm
 refine⟨hg,_,_,O1 (c:=c9.c) (l:=(s:List c9)) (r:=(v:List c9)), ?_⟩
 cases hm
 exact⟨rfl,rfl⟩
 obtain⟨hg,hm⟩:=n9 hm
 cases hm
 exact b7X (fun _=>rfl) hg
def w9 (x:(List c9)) (target:c9):(Int×Int)→Option (Sum (Int×Int) (Int×Int)):=fun(i7,j8)=>
 if(decide (i7<j8))=true then
  Option.bind (idx x (W ((IntKind.u64.wrap (W (i7+j8))).fdiv (2^(min (1:Int).toNat IntKind.u64.bits))))) fun e16=>
  Option.bind (J2 e16 target) fun x18=>
  if(decide (x18<0))=true then
   some (.inl ((W ((W ((IntKind.u64.wrap (W (i7+j8))).fdiv (2^(min (1:Int).toNat IntKind.u64.bits))))+1)),j8))
  else
   some (.inl (i7,(W ((IntKind.u64.wrap (W (i7+j8))).fdiv (2^(min (1:Int).toNat IntKind.u64.bits))))))
 else
  some (.inr (i7,j8))
def l9 (x:(List c9)) (target:c9):Option (Int×Bool):=
 Option.bind (s9 (w9 x target) (0,(x.length:Int))) fun(i21,j22)=>
 if(decide (i21<(x.length:Int)))=true then
  Option.bind (idx x i21) fun e24=>
  Option.bind (J2 e24 target) fun x26=>
  some (i21,(x26==0))
 else
  some (i21,false)
theorem K6 (x:(List c9)) (target:c9) (r:(Int×Bool)) (hm:l9 x target=some r):l8 Tryz.prog 221 [lD 4 x c9.c, .agg (c9.c target), .fn 139 [] []] (fun x=>x= .tup [DI r.1,DB r.2]):=by
 refine zy c5I [] [] [] Tryz.func221 rfl ?_
 obtain⟨ev28,he,hk29⟩:=b9 hm
 refine c8b (w9 x target) (fun(i7,j8)=>⟨[(0,lD 4 x c9.c),(1, .agg (c9.c target)),(2, .fn 139 [] []),(4, .own 0 0),(6,DI 0),(7,DB false),(8,DI (x.length:Int)),(9,DI i7),(10,DI j8)], [(0, .blk (c9.c target) 149)],1⟩) (0,(x.length:Int)) (i4.of 1 rfl (tA rfl) ⟨hR rfl,trivial⟩) he ?_
 rintro fu30 ⟨i7,j8⟩ b hm hi31
 apply vb hm<;>intro _ hm
 refine⟨by decide, ?_⟩
 refine⟨rfl, ?_⟩
 obtain⟨e33,hx34,hm⟩:=b9 hm
 refine⟨_,q8 (fun _=>rfl) hx34, ?_⟩
 refine cy hm (a0O e33 target) fun x35 hm=> ?_
 apply vb hm<;>intro _ hm
 cases hm
 exact⟨(_,((W ((W ((IntKind.u64.wrap (W (i7+j8))).fdiv (2^(min (1:Int).toNat IntKind.u64.bits))))+1)),j8)),i4.of 1 rfl (tA rfl) ⟨hR rfl,trivial⟩,hi31,Nat.lt_succ_self _⟩
 cases hm
 exact⟨(_,(i7,(W ((IntKind.u64.wrap (W (i7+j8))).fdiv (2^(min (1:Int).toNat IntKind.u64.bits)))))),i4.of 1 rfl (tA rfl) ⟨hR rfl,trivial⟩,hi31,Nat.lt_succ_self _⟩
 cases hm
 cases hi31
 have hm:=hk29
 refine⟨rfl, ?_⟩
 apply vb hm<;>intro _ hm
 obtain⟨e39,hx40,hm⟩:=b9 hm
 refine⟨_,q8 (fun _=>rfl) hx40, ?_⟩
 refine cy hm (a0O e39 target) fun x41 hm=> ?_
 cases hm
 exact c8a (c7Y _)
 cases hm
 exact c8a (c7Y _)
def B1 (l:(List c9)) (x:c9):Option (Int×Bool):=
 Option.bind (l9 l x) fun⟨x1,x2⟩=>
 some (x1,x2)
theorem Y9 (l:(List c9)) (x:c9) (r:(Int×Bool)) (hm:B1 l x=some r):l8 Tryz.prog 209 [lD 4 l c9.c, .agg (c9.c x), .fn 139 [] []] (fun x=>x= .tup [DI r.1,DB r.2]):=by
 refine zn Tryz.func209 rfl ?_
 refine cy hm (K6 l x) ?_
 rintro⟨x1,x2⟩ hm
 cases hm
 exact c8a (c7Y _)
def O4 (s:(List d7)) (i:Int) (v:(List d7)):Option (List d7):=
 gd (0≤i∧i.toNat≤s.length)<|
 if((v.length:Int)==0)=true then
  some s
 else
  if(i==(s.length:Int))=true then
   gd ((s.length+v.length)*48≤140737488355328∧s.length+v.length≤9223372036854775807)<|
   some (s++v)
  else
   gd (0≤i∧i.toNat<s.length∧0<v.length∧(s.length+v.length)*48≤140737488355328∧s.length+v.length≤9223372036854775807) (some (s.take i.toNat++v++s.drop i.toNat))
theorem a2o (s:(List d7)) (i:Int) (v:(List d7)) (r:(List d7)) (hm:O4 s i v=some r):b2z Tryz.prog 211 6 s.length (s.flatMap d7.c) 114 [DI i,lD 6 v d7.c] 6 r.length (r.flatMap d7.c):=by
 obtain⟨hg0,hm⟩:=n9 hm
 refine a7r (X:=⟨Tryz.prog,tt,Tryz.f211.ntmps, [], [], [], [], [], []⟩) (t:=26) (tI:=3) (tB:=4) (ov:=224) (ty:=114) (args:= [lD 6 v d7.c]) pok Tryz.func211 rfl rfl .mk .mk (Nat.le_of_ble_eq_true rfl) hg0 rfl rfl rfl rfl rfl rfl (by kernel_rfl) ⟨⟨_,4,Tryz.func224,by kernel_rfl,by kernel_rfl,by kernel_rfl,by kernel_rfl⟩⟩ (by decide) ?_
 apply vb hm<;>intro _ hm
 cases hm
 exact⟨rfl,rfl⟩
 apply vb hm<;>intro _ hm
 obtain⟨hg,hm⟩:=n9 hm
 refine⟨hg,_,_,O1 (c:=d7.c) (l:=(s:List d7)) (r:=(v:List d7)), ?_⟩
 cases hm
 exact⟨rfl,rfl⟩
 obtain⟨hg,hm⟩:=n9 hm
 cases hm
 exact b7X (fun _=>rfl) hg
def A8 (x:(List d7)) (target:d7):(Int×Int)→Option (Sum (Int×Int) (Int×Int)):=fun(i7,j8)=>
 if(decide (i7<j8))=true then
  Option.bind (idx x (W ((IntKind.u64.wrap (W (i7+j8))).fdiv (2^(min (1:Int).toNat IntKind.u64.bits))))) fun e16=>
  Option.bind (J3 e16 target) fun x18=>
  if(decide (x18<0))=true then
   some (.inl ((W ((W ((IntKind.u64.wrap (W (i7+j8))).fdiv (2^(min (1:Int).toNat IntKind.u64.bits))))+1)),j8))
  else
   some (.inl (i7,(W ((IntKind.u64.wrap (W (i7+j8))).fdiv (2^(min (1:Int).toNat IntKind.u64.bits))))))
 else
  some (.inr (i7,j8))
def n6 (x:(List d7)) (target:d7):Option (Int×Bool):=
 Option.bind (s9 (A8 x target) (0,(x.length:Int))) fun(i21,j22)=>
 if(decide (i21<(x.length:Int)))=true then
  Option.bind (idx x i21) fun e24=>
  Option.bind (J3 e24 target) fun x26=>
  some (i21,(x26==0))
 else
  some (i21,false)
theorem L3 (x:(List d7)) (target:d7) (r:(Int×Bool)) (hm:n6 x target=some r):l8 Tryz.prog 152 [lD 6 x d7.c, .agg (d7.c target), .fn 95 [] []] (fun x=>x= .tup [DI r.1,DB r.2]):=by
 refine zy c6g [] [] [] Tryz.func152 rfl ?_
 obtain⟨ev28,he,hk29⟩:=b9 hm
 refine c8b (A8 x target) (fun(i7,j8)=>⟨[(0,lD 6 x d7.c),(1, .agg (d7.c target)),(2, .fn 95 [] []),(4, .own 0 0),(6,DI 0),(7,DB false),(8,DI (x.length:Int)),(9,DI i7),(10,DI j8)], [(0, .blk (d7.c target) 114)],1⟩) (0,(x.length:Int)) (i4.of 1 rfl (tA rfl) ⟨hR rfl,trivial⟩) he ?_
 rintro fu30 ⟨i7,j8⟩ b hm hi31
 apply vb hm<;>intro _ hm
 refine⟨by decide, ?_⟩
 refine⟨rfl, ?_⟩
 obtain⟨e33,hx34,hm⟩:=b9 hm
 refine⟨_,q8 (fun _=>rfl) hx34, ?_⟩
 refine cy hm (a0K e33 target) fun x35 hm=> ?_
 apply vb hm<;>intro _ hm
 cases hm
 exact⟨(_,((W ((W ((IntKind.u64.wrap (W (i7+j8))).fdiv (2^(min (1:Int).toNat IntKind.u64.bits))))+1)),j8)),i4.of 1 rfl (tA rfl) ⟨hR rfl,trivial⟩,hi31,Nat.lt_succ_self _⟩
 cases hm
 exact⟨(_,(i7,(W ((IntKind.u64.wrap (W (i7+j8))).fdiv (2^(min (1:Int).toNat IntKind.u64.bits)))))),i4.of 1 rfl (tA rfl) ⟨hR rfl,trivial⟩,hi31,Nat.lt_succ_self _⟩
 cases hm
 cases hi31
 have hm:=hk29
 refine⟨rfl, ?_⟩
 apply vb hm<;>intro _ hm
 obtain⟨e39,hx40,hm⟩:=b9 hm
 refine⟨_,q8 (fun _=>rfl) hx40, ?_⟩
 refine cy hm (a0K e39 target) fun x41 hm=> ?_
 cases hm
 exact c8a (c7Y _)
 cases hm
 exact c8a (c7Y _)
def s8 (l:(List d7)) (x:d7):Option (Int×Bool):=
 Option.bind (n6 l x) fun⟨x1,x2⟩=>
 some (x1,x2)
theorem N8 (l:(List d7)) (x:d7) (r:(Int×Bool)) (hm:s8 l x=some r):l8 Tryz.prog 94 [lD 6 l d7.c, .agg (d7.c x), .fn 95 [] []] (fun x=>x= .tup [DI r.1,DB r.2]):=by
 refine zn Tryz.func94 rfl ?_
 refine cy hm (L3 l x) ?_
 rintro⟨x1,x2⟩ hm
 cases hm
 exact c8a (c7Y _)
theorem b2O:l8 Tryz.prog 96 [] (fun x=>x= .mp [(1,154),(2,155),(3,156),(4,157),(5,158),(6,159)]):=
 c1u (t:=140) (kt:=3) (et:=139) Tryz.func96 rfl (.mk (.cons (.cons (.cons (.cons (.cons (.cons .nil))))))) (by decide) rfl rfl (by kernel_rfl) (by kernel_rfl)
def a1F (c:b8) (v9:(List d0)):Option (Sum ((List d0)×Int) Unit):=
 Option.bind (B5 v9 (⟨c.Night,0,0,0⟩:d0)) fun⟨x122,x123⟩=>
 if x123=true then
  some (.inl (v9,x122))
 else
  if((v9.length:Int)==12)=true then
   some (.inr ())
  else
   Option.bind (O5 v9 x122 ([(⟨c.Night,0,0,0⟩:d0)]:List d0)) fun x127=>
   some (.inl (x127,x122))
def V5 (c:b8) (v9:(List d0)):Option (Sum ((List d0)×Int) Unit):=
 Option.bind (a1F c v9) fun e=>
 match e with
 | .inl (v120,x121)=>
  Option.bind (idx v120 x121) fun e131=>
  some (.inl (v120,x121))
 | .inr _=>
  some (.inr ())
def Y6 (c:b8) (v9:(List d0)):Option ((List d0)×Bool):=
 Option.bind (V5 c v9) fun e=>
 match e with
 | .inl (v111,x112)=>
  Option.bind (idx v111 x112) fun e142=>
  if(decide (c.Ballot>e142.Promised))=true then
   Option.bind (idx v111 x112) fun e145=>
   some ((v111.set x112.toNat (⟨e145.Night,c.Ballot,e145.Ballot,e145.Value⟩:d0)),true)
  else
   some (v111,true)
 | .inr _=>
  some (v9,false)
def Y7 (c:b8) (v10:(List d9)):Option (List d9):=
 Option.bind (A9 v10 c) fun x292=>
 if(decide (x292<0))=true then
  some v10
 else
  Option.bind (idx v10 x292) fun e295=>
  Option.bind (idx v10 x292) fun e297=>
  if e297.Asked=true then
   some v10
  else
   Option.bind (idx v10 x292) fun e300=>
   Option.bind (X6 e300.Mask c.From) fun x302=>
   if x302=true then
    some v10
   else
    Option.bind (idx v10 x292) fun e305=>
    Option.bind (Q1 e305.Mask c.From) fun x307=>
    Option.bind (N7 x307) fun x309=>
    Option.bind (idx v10 x292) fun e311=>
    Option.bind (idx (v10.set x292.toNat (⟨e311.Night,e311.Ballot,e311.Value,e311.Best,x307,e311.Asked⟩:d9)) x292) fun e313=>
    Option.bind (idx ((v10.set x292.toNat (⟨e311.Night,e311.Ballot,e311.Value,e311.Best,x307,e311.Asked⟩:d9)).set x292.toNat (⟨e313.Night,e313.Ballot,e313.Value,e313.Best,e313.Mask,x309⟩:d9)) x292) fun e315=>
    if(decide (c.Best>e315.Best))=true then
     Option.bind (idx ((v10.set x292.toNat (⟨e311.Night,e311.Ballot,e311.Value,e311.Best,x307,e311.Asked⟩:d9)).set x292.toNat (⟨e313.Night,e313.Ballot,e313.Value,e313.Best,e313.Mask,x309⟩:d9)) x292) fun e318=>
     Option.bind (idx (((v10.set x292.toNat (⟨e311.Night,e311.Ballot,e311.Value,e311.Best,x307,e311.Asked⟩:d9)).set x292.toNat (⟨e313.Night,e313.Ballot,e313.Value,e313.Best,e313.Mask,x309⟩:d9)).set x292.toNat (⟨e318.Night,e318.Ballot,e318.Value,c.Best,e318.Mask,e318.Asked⟩:d9)) x292) fun e320=>
     some ((((v10.set x292.toNat (⟨e311.Night,e311.Ballot,e311.Value,e311.Best,x307,e311.Asked⟩:d9)).set x292.toNat (⟨e313.Night,e313.Ballot,e313.Value,e313.Best,e313.Mask,x309⟩:d9)).set x292.toNat (⟨e318.Night,e318.Ballot,e318.Value,c.Best,e318.Mask,e318.Asked⟩:d9)).set x292.toNat (⟨e320.Night,e320.Ballot,c.Value,e320.Best,e320.Mask,e320.Asked⟩:d9))
    else
     some ((v10.set x292.toNat (⟨e311.Night,e311.Ballot,e311.Value,e311.Best,x307,e311.Asked⟩:d9)).set x292.toNat (⟨e313.Night,e313.Ballot,e313.Value,e313.Best,e313.Mask,x309⟩:d9))
def a0a (c:b8) (v9:(List d0)):Option ((List d0)×Bool):=
 Option.bind (V5 c v9) fun e=>
 match e with
 | .inl (v430,x431)=>
  Option.bind (idx v430 x431) fun e461=>
  if(decide (c.Ballot≥e461.Promised))=true then
   Option.bind (idx v430 x431) fun e464=>
   Option.bind (idx (v430.set x431.toNat (⟨e464.Night,c.Ballot,e464.Ballot,e464.Value⟩:d0)) x431) fun e466=>
   Option.bind (idx ((v430.set x431.toNat (⟨e464.Night,c.Ballot,e464.Ballot,e464.Value⟩:d0)).set x431.toNat (⟨e466.Night,e466.Promised,c.Ballot,e466.Value⟩:d0)) x431) fun e468=>
   some ((((v430.set x431.toNat (⟨e464.Night,c.Ballot,e464.Ballot,e464.Value⟩:d0)).set x431.toNat (⟨e466.Night,e466.Promised,c.Ballot,e466.Value⟩:d0)).set x431.toNat (⟨e468.Night,e468.Promised,e468.Ballot,c.Value⟩:d0)),true)
  else
   some (v430,true)
 | .inr _=>
  some (v9,false)
def a1r (c:b8) (v11:(List c9)):Option (Sum ((List c9)×Int) Unit):=
 Option.bind (B1 v11 (⟨c.Night,c.Ballot,c.Value,0⟩:c9)) fun⟨x632,x633⟩=>
 if x633=true then
  some (.inl (v11,x632))
 else
  if((v11.length:Int)==60)=true then
   some (.inr ())
  else
   Option.bind (M7 v11 x632 ([(⟨c.Night,c.Ballot,c.Value,0⟩:c9)]:List c9)) fun x637=>
   some (.inl (x637,x632))
def V8 (c:b8) (v11:(List c9)):Option ((List c9)×Bool):=
 Option.bind (a1r c v11) fun e=>
 match e with
 | .inl (v630,x631)=>
  Option.bind (idx v630 x631) fun e641=>
  Option.bind (idx v630 x631) fun e643=>
  if(e643.Value==c.Value)=true then
   Option.bind (idx v630 x631) fun e646=>
   Option.bind (idx v630 x631) fun e648=>
   Option.bind (Q1 e648.Mask c.From) fun x650=>
   Option.bind (idx v630 x631) fun e652=>
   Option.bind (idx v630 x631) fun e654=>
   some ((v630.set x631.toNat (⟨e654.Night,e654.Ballot,e654.Value,x650⟩:c9)),true)
  else
   some (v630,true)
 | .inr _=>
  some (v11,false)
def a1B (c:b8) (v13:(List d7)):Option (Sum ((List d7)×Int) Unit):=
 Option.bind (s8 v13 (⟨c.From,c.No,c.Thing,c.Start,c.Until,false⟩:d7)) fun⟨x736,x737⟩=>
 if x737=true then
  some (.inl (v13,x736))
 else
  if((v13.length:Int)==60)=true then
   some (.inr ())
  else
   Option.bind (O4 v13 x736 ([(⟨c.From,c.No,c.Thing,c.Start,c.Until,false⟩:d7)]:List d7)) fun x741=>
   some (.inl (x741,x736))
def a0w (c:b8) (v13:(List d7)):Option ((List d7)×Bool):=
 Option.bind (a1B c v13) fun e=>
 match e with
 | .inl (v734,x735)=>
  some (v734,true)
 | .inr _=>
  some (v13,false)
def Q4 (c:b8) (v12:(List c0)):(Int×(List c0))→Option (Sum (Int×(List c0)) (Int×(List c0))):=fun(v840,v841)=>
 if(decide (v840<(v12.length:Int)))=true then
  Option.bind (idx v841 v840) fun e861=>
  Option.bind (idx v841 v840) fun e863=>
  if(e863.No==c.No)=true then
   Option.bind (idx v841 v840) fun e866=>
   if(e866.Thing==c.Thing)=true then
    Option.bind (idx v841 v840) fun e869=>
    if(e869.To==c.From)=true then
     Option.bind (idx v841 v840) fun e872=>
     Option.bind (idx v841 v840) fun e874=>
     Option.bind (idx v841 v840) fun e876=>
     some (.inl ((W (v840+1)),(v841.set v840.toNat (⟨e876.No,e876.Thing,e876.To,e876.From,(if(if e874.From>c.Until then e874.From else c.Until)<e872.Until then(if e874.From>c.Until then e874.From else c.Until)else e872.Until)⟩:c0))))
    else
     some (.inl ((W (v840+1)),v841))
   else
    some (.inl ((W (v840+1)),v841))
  else
   some (.inl ((W (v840+1)),v841))
 else
  some (.inr (v840,v841))
def a0N (c:b8) (v12:(List c0)):Option (List c0):=
 Option.bind (s9 (Q4 c v12) (0,v12)) fun(v878,v879)=>
 some v879
def Q6 (x:a8) (c:b8):Option (a8×Int):=
 Option.bind (U3 x) fun e=>
 match e with
 | .inl x8=>
  if(x8 !=0)=true then
   some ((⟨0,(⟨0, [], [], [], [], []⟩:c8),(⟨0, [], [], [], [], []⟩:c8)⟩:a8),x8)
  else
   Option.bind (a0J c) fun x32=>
   if(!x32)=true then
    some ((⟨0,(⟨0, [], [], [], [], []⟩:c8),(⟨0, [], [], [], [], []⟩:c8)⟩:a8),91)
   else
    none
 | .inr (v9,v10,v11,v12,v13,v14,v15,v16,v17,v18,x19,x20,x21)=>
  Option.bind (a0J c) fun x35=>
  if(!x35)=true then
   some ((⟨0,(⟨0, [], [], [], [], []⟩:c8),(⟨0, [], [], [], [], []⟩:c8)⟩:a8),91)
  else
   if(c.To !=x19)=true then
    some ((⟨0,(⟨0, [], [], [], [], []⟩:c8),(⟨0, [], [], [], [], []⟩:c8)⟩:a8),91)
   else
    if(c.Kind==1)=true then
     Option.bind (Y6 c v9) fun⟨v89,x90⟩=>
     if(!x90)=true then
      some ((⟨0,(⟨0, [], [], [], [], []⟩:c8),(⟨0, [], [], [], [], []⟩:c8)⟩:a8),2)
     else
      some ((⟨x19,(⟨x20,v89,v10,v11,v12,v13⟩:c8),(⟨x21,v14,v15,v16,v17,v18⟩:c8)⟩:a8),0)
    else
     if(c.Kind==2)=true then
      Option.bind (Y7 c v10) fun v291=>
      some ((⟨x19,(⟨x20,v9,v291,v11,v12,v13⟩:c8),(⟨x21,v14,v15,v16,v17,v18⟩:c8)⟩:a8),0)
     else
      if(c.Kind==3)=true then
       Option.bind (a0a c v9) fun⟨v408,x409⟩=>
       if(!x409)=true then
        some ((⟨0,(⟨0, [], [], [], [], []⟩:c8),(⟨0, [], [], [], [], []⟩:c8)⟩:a8),2)
       else
        some ((⟨x19,(⟨x20,v408,v10,v11,v12,v13⟩:c8),(⟨x21,v14,v15,v16,v17,v18⟩:c8)⟩:a8),0)
      else
       if(c.Kind==4)=true then
        Option.bind (V8 c v11) fun⟨v621,x622⟩=>
        if(!x622)=true then
         some ((⟨0,(⟨0, [], [], [], [], []⟩:c8),(⟨0, [], [], [], [], []⟩:c8)⟩:a8),2)
        else
         some ((⟨x19,(⟨x20,v9,v10,v621,v12,v13⟩:c8),(⟨x21,v14,v15,v16,v17,v18⟩:c8)⟩:a8),0)
       else
        if(c.Kind==5)=true then
         Option.bind (a0w c v13) fun⟨v725,x726⟩=>
         if(!x726)=true then
          some ((⟨0,(⟨0, [], [], [], [], []⟩:c8),(⟨0, [], [], [], [], []⟩:c8)⟩:a8),2)
         else
          some ((⟨x19,(⟨x20,v9,v10,v11,v12,v725⟩:c8),(⟨x21,v14,v15,v16,v17,v18⟩:c8)⟩:a8),0)
        else
         if(c.Kind==6)=true then
          Option.bind (a0N c v12) fun v821=>
          some ((⟨x19,(⟨x20,v9,v10,v11,v821,v13⟩:c8),(⟨x21,v14,v15,v16,v17,v18⟩:c8)⟩:a8),0)
         else
          none
theorem Y2 (x:a8) (c:b8) (r:(a8×Int)) (hm:Q6 x c=some r):l8 Tryz.prog 37 [.agg (a8.c x), .agg (b8.c c)] (fun x=>x= .tup [.agg (a8.c r.1),DI r.2]):=by
 refine zy c6y [99,106,149,210,211,220] [62] [61,154,155,156,157,158,159,184,188,189,208] Tryz.func37 rfl ?_
 obtain⟨ev29,he30,hm⟩:=b9 hm
 refine O9.ofZ pok ⟨[(0, .agg (a8.c x)),(1000000, .agg (a8.c x)),(1000001, .agg (b8.c c)),(1000002, .own 0 0),(1000003, .own 1 0),(1000004, .own 2 0),(1000005,DI 0)], [(0, .blk (a8.c x) 30),(1, .blk (b8.c c) 42),(2, .blk [DI 0,DI 0,nS,nS,nS,nS,nS,DI 0,nS,nS,nS,nS,nS] 30)],3⟩ (match ev29 with| .inl x8=>(⟨[(0, .agg (a8.c x)),(1, .agg (b8.c c)),(2, .own 0 0),(3, .own 1 0),(4, .own 2 0),(5,DI 0),(10, .tup [.v (.pointer none),DI x8])], [(0, .blk (a8.c x) 30),(1, .blk (b8.c c) 42),(2, .blk [DI 0,DI 0,nS,nS,nS,nS,nS,DI 0,nS,nS,nS,nS,nS] 30)],3⟩:Sy)| .inr (v9,v10,v11,v12,v13,v14,v15,v16,v17,v18,x19,x20,x21)=>(⟨[(0, .agg (a8.c x)),(1, .agg (b8.c c)),(2, .own 0 0),(3, .own 1 0),(4, .own 2 0),(5,DI 0),(10, .tup [.own 14 0,DI 0])], [(0, .blk (a8.c x) 30),(1, .blk (b8.c c) 42),(2, .blk [DI 0,DI 0,nS,nS,nS,nS,nS,DI 0,nS,nS,nS,nS,nS] 30),(4,rE 4 v9 d0.c 110),(5,rE 6 v10 d9.c 108),(6,rE 4 v11 c9.c 149),(7,rE 5 v12 c0.c 112),(8,rE 6 v13 d7.c 114),(9,rE 4 v14 d0.c 110),(10,rE 6 v15 d9.c 108),(11,rE 4 v16 c9.c 149),(12,rE 5 v17 c0.c 112),(13,rE 6 v18 d7.c 114),(14, .blk [DI x19,DI x20, .row 4 4, .row 5 6, .row 6 4, .row 7 5, .row 8 6,DI x21, .row 9 4, .row 10 6, .row 11 4, .row 12 5, .row 13 6] 102)],15⟩:Sy):Sy) b7J [99,106,149,210,211,220] [62] [61,154,155,156,157,158,159,184,188,189,208] Tryz.func61 rfl rfl rfl (i4.of 3 rfl (tA rfl) ⟨hR rfl,hR rfl,hR rfl,trivial⟩) (fun sv=> ?_) ?_
 have hm:=he30
 refine cy hm (V1 x) fun x984 hm=> ?_
 apply vb hm<;>intro _ hm
 cases hm
 exact i4.of 3 rfl (tA rfl) ⟨hR rfl,hR rfl,hR rfl,trivial⟩
 refine⟨rfl, ?_⟩
 obtain⟨x987,hx988,hm⟩:=b9 hm
 refine .inr (a7N.mk ⟨_,_,N3 x.Now _ hx988, ?_⟩)
 obtain⟨x989,hx990,hm⟩:=b9 hm
 refine .inr (a7N.mk ⟨_,_,N3 x.Safe _ hx990, ?_⟩)
 cases hm
 exact i4.of 15 rfl (tA rfl) ⟨hR rfl,hR rfl,hR rfl,hW rfl,hW rfl,hW rfl,hW rfl,hW rfl,hW rfl,hW rfl,hW rfl,hW rfl,hW rfl,hR rfl,trivial⟩
 rcases ev29 with x8|⟨v9,v10,v11,v12,v13,v14,v15,v16,v17,v18,x19,x20,x21⟩
 apply vb hm<;>intro _ hm
 cases hm
 exact c8a (⟨_,rfl,⟨⟨_,rfl,⟨c7Y _,c7Y _,c7Z,c7Z,c7Z,c7Z,c7Z,c7Y _,c7Z,c7Z,c7Z,c7Z,c7Z,trivial⟩⟩,c7Y _,trivial⟩⟩)
 refine⟨rfl, ?_⟩
 refine cy hm (a6h c) fun x32 hm=> ?_
 apply vb hm<;>intro _ hm
 cases hm
 exact c8a (⟨_,rfl,⟨⟨_,rfl,⟨c7Y _,c7Y _,c7Z,c7Z,c7Z,c7Z,c7Z,c7Y _,c7Z,c7Z,c7Z,c7Z,c7Z,trivial⟩⟩,c7Y _,trivial⟩⟩)
 cases hm
 refine⟨rfl, ?_⟩
 refine cy hm (a6h c) fun x35 hm=> ?_
 apply vb hm<;>intro _ hm
 cases hm
 exact c8a (⟨_,rfl,⟨⟨_,rfl,⟨c7Y _,c7Y _,c7Z,c7Z,c7Z,c7Z,c7Z,c7Y _,c7Z,c7Z,c7Z,c7Z,c7Z,trivial⟩⟩,c7Y _,trivial⟩⟩)
 apply vb hm<;>intro _ hm
 cases hm
 exact c8a (⟨_,rfl,⟨⟨_,rfl,⟨c7Y _,c7Y _,c7Z,c7Z,c7Z,c7Z,c7Z,c7Y _,c7Z,c7Z,c7Z,c7Z,c7Z,trivial⟩⟩,c7Y _,trivial⟩⟩)
 refine⟨rfl, ?_⟩
 refine a5u.det b2O ?_
 cases h39:(c.Kind==1)
 rotate_left
 replace hm:=b8U h39 hm
 refine⟨⟨3,139,by kernel_rfl,by kernel_rfl⟩,154,by simp only [a6D,h39], ?_⟩
 obtain⟨ev174,he175,hm⟩:=b9 hm
 refine O9.ofZ pok ⟨[(0, .own 14 0),(1, .agg (b8.c c)),(1000000, .agg (a8.c x)),(1000001, .agg (b8.c c)),(1000002, .own 0 0),(1000003, .own 1 0),(1000004, .own 2 0),(1000005,DI 0),(1000006, .own 14 0),(1000007,DI 0),(1000013,DB false),(1000018,DB (c.To !=x19))], [(0, .blk (a8.c x) 30),(1, .blk (b8.c c) 42),(2, .blk [DI 0,DI 0,nS,nS,nS,nS,nS,DI 0,nS,nS,nS,nS,nS] 30),(4,rE 4 v9 d0.c 110),(5,rE 6 v10 d9.c 108),(6,rE 4 v11 c9.c 149),(7,rE 5 v12 c0.c 112),(8,rE 6 v13 d7.c 114),(9,rE 4 v14 d0.c 110),(10,rE 6 v15 d9.c 108),(11,rE 4 v16 c9.c 149),(12,rE 5 v17 c0.c 112),(13,rE 6 v18 d7.c 114),(14, .blk [DI x19,DI x20, .row 4 4, .row 5 6, .row 6 4, .row 7 5, .row 8 6,DI x21, .row 9 4, .row 10 6, .row 11 4, .row 12 5, .row 13 6] 102)],15⟩ (match ev174 with|(v89,x90)=>(⟨[(0, .agg (a8.c x)),(1, .agg (b8.c c)),(2, .own 0 0),(3, .own 1 0),(4, .own 2 0),(5,DI 0),(6, .own 14 0),(7,DI 0),(13,DB false),(18,DB (c.To !=x19)),(40,DB x90)], [(0, .blk (a8.c x) 30),(1, .blk (b8.c c) 42),(2, .blk [DI 0,DI 0,nS,nS,nS,nS,nS,DI 0,nS,nS,nS,nS,nS] 30),(4,rE 4 v89 d0.c 110),(5,rE 6 v10 d9.c 108),(6,rE 4 v11 c9.c 149),(7,rE 5 v12 c0.c 112),(8,rE 6 v13 d7.c 114),(9,rE 4 v14 d0.c 110),(10,rE 6 v15 d9.c 108),(11,rE 4 v16 c9.c 149),(12,rE 5 v17 c0.c 112),(13,rE 6 v18 d7.c 114),(14, .blk [DI x19,DI x20, .row 4 4, .row 5 6, .row 6 4, .row 7 5, .row 8 6,DI x21, .row 9 4, .row 10 6, .row 11 4, .row 12 5, .row 13 6] 102)],15⟩:Sy):Sy) c5O [99,106,149,210,211,220] [62] [61,154,155,156,157,158,159,184,188,189,208] Tryz.func154 rfl rfl rfl (i4.of 15 rfl (tA rfl) ⟨hR rfl,hR rfl,hR rfl,hW rfl,hW rfl,hW rfl,hW rfl,hW rfl,hW rfl,hW rfl,hW rfl,hW rfl,hW rfl,hR rfl,trivial⟩) (fun sv=> ?_) ?_
 have hm:=he175
 obtain⟨ev226,he227,hm⟩:=b9 hm
 refine O9.ofZ pok ⟨[(0, .own 14 0),(1,DI c.Night),(1000000, .own 14 0),(1000001, .agg (b8.c c)),(1000003, .own 15 0),(1000004,DB false),(1000030, .agg (a8.c x)),(1000031, .agg (b8.c c)),(1000032, .own 0 0),(1000033, .own 1 0),(1000034, .own 2 0),(1000035,DI 0),(1000036, .own 14 0),(1000037,DI 0),(1000043,DB false),(1000048,DB (c.To !=x19))], [(0, .blk (a8.c x) 30),(1, .blk (b8.c c) 42),(2, .blk [DI 0,DI 0,nS,nS,nS,nS,nS,DI 0,nS,nS,nS,nS,nS] 30),(4,rE 4 v9 d0.c 110),(5,rE 6 v10 d9.c 108),(6,rE 4 v11 c9.c 149),(7,rE 5 v12 c0.c 112),(8,rE 6 v13 d7.c 114),(9,rE 4 v14 d0.c 110),(10,rE 6 v15 d9.c 108),(11,rE 4 v16 c9.c 149),(12,rE 5 v17 c0.c 112),(13,rE 6 v18 d7.c 114),(14, .blk [DI x19,DI x20, .row 4 4, .row 5 6, .row 6 4, .row 7 5, .row 8 6,DI x21, .row 9 4, .row 10 6, .row 11 4, .row 12 5, .row 13 6] 102),(15, .blk (b8.c c) 42)],16⟩ (match ev226 with| .inl (v197,x198)=>(⟨[(0, .own 14 0),(1, .agg (b8.c c)),(3, .own 15 0),(4,DB false),(11, .tup [.elr 4 4 (x198).toNat 0,DB true]),(1000000, .agg (a8.c x)),(1000001, .agg (b8.c c)),(1000002, .own 0 0),(1000003, .own 1 0),(1000004, .own 2 0),(1000005,DI 0),(1000006, .own 14 0),(1000007,DI 0),(1000013,DB false),(1000018,DB (c.To !=x19))], [(0, .blk (a8.c x) 30),(1, .blk (b8.c c) 42),(2, .blk [DI 0,DI 0,nS,nS,nS,nS,nS,DI 0,nS,nS,nS,nS,nS] 30),(4,rE 4 v197 d0.c 110),(5,rE 6 v10 d9.c 108),(6,rE 4 v11 c9.c 149),(7,rE 5 v12 c0.c 112),(8,rE 6 v13 d7.c 114),(9,rE 4 v14 d0.c 110),(10,rE 6 v15 d9.c 108),(11,rE 4 v16 c9.c 149),(12,rE 5 v17 c0.c 112),(13,rE 6 v18 d7.c 114),(14, .blk [DI x19,DI x20, .row 4 4, .row 5 6, .row 6 4, .row 7 5, .row 8 6,DI x21, .row 9 4, .row 10 6, .row 11 4, .row 12 5, .row 13 6] 102),(15, .blk (b8.c c) 42)],16⟩:Sy)| .inr _=>(⟨[(0, .own 14 0),(1, .agg (b8.c c)),(3, .own 15 0),(4,DB false),(11, .tup [.v (.pointer none),DB false]),(1000000, .agg (a8.c x)),(1000001, .agg (b8.c c)),(1000002, .own 0 0),(1000003, .own 1 0),(1000004, .own 2 0),(1000005,DI 0),(1000006, .own 14 0),(1000007,DI 0),(1000013,DB false),(1000018,DB (c.To !=x19))], [(0, .blk (a8.c x) 30),(1, .blk (b8.c c) 42),(2, .blk [DI 0,DI 0,nS,nS,nS,nS,nS,DI 0,nS,nS,nS,nS,nS] 30),(4,rE 4 v9 d0.c 110),(5,rE 6 v10 d9.c 108),(6,rE 4 v11 c9.c 149),(7,rE 5 v12 c0.c 112),(8,rE 6 v13 d7.c 114),(9,rE 4 v14 d0.c 110),(10,rE 6 v15 d9.c 108),(11,rE 4 v16 c9.c 149),(12,rE 5 v17 c0.c 112),(13,rE 6 v18 d7.c 114),(14, .blk [DI x19,DI x20, .row 4 4, .row 5 6, .row 6 4, .row 7 5, .row 8 6,DI x21, .row 9 4, .row 10 6, .row 11 4, .row 12 5, .row 13 6] 102),(15, .blk (b8.c c) 42)],16⟩:Sy):Sy) [] [99,106,149,210,211,220] [62] [61,154,155,156,157,158,159,184,188,189,208] Tryz.func184 rfl rfl rfl (i4.of 16 rfl (tA rfl) ⟨hR rfl,hR rfl,hR rfl,hW rfl,hW rfl,hW rfl,hW rfl,hW rfl,hW rfl,hW rfl,hW rfl,hW rfl,hW rfl,hR rfl,hR rfl,trivial⟩) (fun sv=> ?_) ?_
 have hm:=he227
 obtain⟨ev249,he250,hm⟩:=b9 hm
 refine O9.ofZ pok ⟨[(0, .row 4 4),(1, .agg [DI c.Night,DI 0,DI 0,DI 0]),(2,DI 12),(3, .fn 136 [] []),(1000000, .own 14 0),(1000001,DI c.Night),(1000004, .v (.pointer none)),(1000005,DB false),(1000033, .own 14 0),(1000034, .agg (b8.c c)),(1000036, .own 15 0),(1000037,DB false),(1000063, .agg (a8.c x)),(1000064, .agg (b8.c c)),(1000065, .own 0 0),(1000066, .own 1 0),(1000067, .own 2 0),(1000068,DI 0),(1000069, .own 14 0),(1000070,DI 0),(1000076,DB false),(1000081,DB (c.To !=x19))], [(0, .blk (a8.c x) 30),(1, .blk (b8.c c) 42),(2, .blk [DI 0,DI 0,nS,nS,nS,nS,nS,DI 0,nS,nS,nS,nS,nS] 30),(4,rE 4 v9 d0.c 110),(5,rE 6 v10 d9.c 108),(6,rE 4 v11 c9.c 149),(7,rE 5 v12 c0.c 112),(8,rE 6 v13 d7.c 114),(9,rE 4 v14 d0.c 110),(10,rE 6 v15 d9.c 108),(11,rE 4 v16 c9.c 149),(12,rE 5 v17 c0.c 112),(13,rE 6 v18 d7.c 114),(14, .blk [DI x19,DI x20, .row 4 4, .row 5 6, .row 6 4, .row 7 5, .row 8 6,DI x21, .row 9 4, .row 10 6, .row 11 4, .row 12 5, .row 13 6] 102),(15, .blk (b8.c c) 42)],16⟩ (match ev249 with| .inl (v240,x241)=>(⟨[(0, .own 14 0),(1,DI c.Night),(4, .v (.pointer none)),(5,DB false),(18, .tup [.row 4 4,DI x241,DB true]),(1000000, .own 14 0),(1000001, .agg (b8.c c)),(1000003, .own 15 0),(1000004,DB false),(1000030, .agg (a8.c x)),(1000031, .agg (b8.c c)),(1000032, .own 0 0),(1000033, .own 1 0),(1000034, .own 2 0),(1000035,DI 0),(1000036, .own 14 0),(1000037,DI 0),(1000043,DB false),(1000048,DB (c.To !=x19))], [(0, .blk (a8.c x) 30),(1, .blk (b8.c c) 42),(2, .blk [DI 0,DI 0,nS,nS,nS,nS,nS,DI 0,nS,nS,nS,nS,nS] 30),(4,rE 4 v240 d0.c 110),(5,rE 6 v10 d9.c 108),(6,rE 4 v11 c9.c 149),(7,rE 5 v12 c0.c 112),(8,rE 6 v13 d7.c 114),(9,rE 4 v14 d0.c 110),(10,rE 6 v15 d9.c 108),(11,rE 4 v16 c9.c 149),(12,rE 5 v17 c0.c 112),(13,rE 6 v18 d7.c 114),(14, .blk [DI x19,DI x20, .bad, .row 5 6, .row 6 4, .row 7 5, .row 8 6,DI x21, .row 9 4, .row 10 6, .row 11 4, .row 12 5, .row 13 6] 102),(15, .blk (b8.c c) 42)],16⟩:Sy)| .inr _=>(⟨[(0, .own 14 0),(1,DI c.Night),(4, .v (.pointer none)),(5,DB false),(18, .tup [nS,DI 0,DB false]),(1000000, .own 14 0),(1000001, .agg (b8.c c)),(1000003, .own 15 0),(1000004,DB false),(1000030, .agg (a8.c x)),(1000031, .agg (b8.c c)),(1000032, .own 0 0),(1000033, .own 1 0),(1000034, .own 2 0),(1000035,DI 0),(1000036, .own 14 0),(1000037,DI 0),(1000043,DB false),(1000048,DB (c.To !=x19))], [(0, .blk (a8.c x) 30),(1, .blk (b8.c c) 42),(2, .blk [DI 0,DI 0,nS,nS,nS,nS,nS,DI 0,nS,nS,nS,nS,nS] 30),(4,rE 4 v9 d0.c 110),(5,rE 6 v10 d9.c 108),(6,rE 4 v11 c9.c 149),(7,rE 5 v12 c0.c 112),(8,rE 6 v13 d7.c 114),(9,rE 4 v14 d0.c 110),(10,rE 6 v15 d9.c 108),(11,rE 4 v16 c9.c 149),(12,rE 5 v17 c0.c 112),(13,rE 6 v18 d7.c 114),(14, .blk [DI x19,DI x20, .row 4 4, .row 5 6, .row 6 4, .row 7 5, .row 8 6,DI x21, .row 9 4, .row 10 6, .row 11 4, .row 12 5, .row 13 6] 102),(15, .blk (b8.c c) 42)],16⟩:Sy):Sy) [] [99,106,149,210,211,220] [62] [61,154,155,156,157,158,159,184,188,189,208] Tryz.func208 rfl rfl rfl (i4.of 16 rfl (tA rfl) ⟨hR rfl,hR rfl,hR rfl,hW rfl,hW rfl,hW rfl,hW rfl,hW rfl,hW rfl,hW rfl,hW rfl,hW rfl,hW rfl,hR rfl,hR rfl,trivial⟩) (fun sv=> ?_) ?_
 have hm:=he250
 refine co hm (N4 v9 ((⟨c.Night,0,0,0⟩:d0))) ?_
 rintro⟨x253,x254⟩ hm
 apply vb hm<;>intro _ hm
 cases hm
 exact i4.of 16 rfl (tA rfl) ⟨hR rfl,hR rfl,hR rfl,hW rfl,hW rfl,hW rfl,hW rfl,hW rfl,hW rfl,hW rfl,hW rfl,hW rfl,hW rfl,⟨_,rfl,⟨c7Y _,c7Y _,c7Y _,c7Y _,c7Y _,c7Y _,c7Y _,c7Y _,c7Y _,c7Y _,c7Y _,c7Y _,trivial⟩⟩,hR rfl,trivial⟩
 apply vb hm<;>intro _ hm
 cases hm
 exact i4.of 16 rfl (tA rfl) ⟨hR rfl,hR rfl,hR rfl,hW rfl,hW rfl,hW rfl,hW rfl,hW rfl,hW rfl,hW rfl,hW rfl,hW rfl,hW rfl,hR rfl,hR rfl,trivial⟩
 refine⟨([(⟨c.Night,0,0,0⟩:d0)]:List d0).flatMap d0.c,([(⟨c.Night,0,0,0⟩:d0)]:List d0).length,⟨rfl,rfl⟩, ?_⟩
 obtain⟨x258,hx259,hm⟩:=b9 hm
 refine .inl (b1D.mk ⟨_,_,_,_,_,_,_,rfl,V7 v9 x253 (([(⟨c.Night,0,0,0⟩:d0)]:List d0)) _ hx259, ?_⟩)
 cases hm
 exact i4.of 16 rfl (tA rfl) ⟨hR rfl,hR rfl,hR rfl,hW rfl,hW rfl,hW rfl,hW rfl,hW rfl,hW rfl,hW rfl,hW rfl,hW rfl,hW rfl,hR rfl,hR rfl,trivial⟩
 rcases ev249 with⟨v240,x241⟩|⟨⟩
 obtain⟨e251,hx252,hm⟩:=b9 hm
 refine⟨E1 hx252, ?_⟩
 cases hm
 exact i4.of 16 rfl (tA rfl) ⟨hR rfl,hR rfl,hR rfl,hW rfl,hW rfl,hW rfl,hW rfl,hW rfl,hW rfl,hW rfl,hW rfl,hW rfl,hW rfl,hR rfl,hR rfl,trivial⟩
 cases hm
 exact i4.of 16 rfl (tA rfl) ⟨hR rfl,hR rfl,hR rfl,hW rfl,hW rfl,hW rfl,hW rfl,hW rfl,hW rfl,hW rfl,hW rfl,hW rfl,hW rfl,hR rfl,hR rfl,trivial⟩
 rcases ev226 with⟨v197,x198⟩|⟨⟩
 refine⟨rfl, ?_⟩
 obtain⟨e228,hx229,hm⟩:=b9 hm
 refine⟨_,A5 (fun _=>rfl) hx229, ?_⟩
 apply vb hm<;>intro _ hm
 obtain⟨e231,hx232,hm⟩:=b9 hm
 refine⟨_,A5 (fun _=>rfl) hx232,_,I5 (y:=(⟨e231.Night,c.Ballot,e231.Ballot,e231.Value⟩:d0)) (fun _=>rfl) hx232, ?_⟩
 cases hm
 exact i4.of 15 rfl (tA rfl) ⟨hR rfl,hR rfl,hR rfl,hW rfl,hW rfl,hW rfl,hW rfl,hW rfl,hW rfl,hW rfl,hW rfl,hW rfl,hW rfl,hR rfl,trivial⟩
 cases hm
 exact i4.of 15 rfl (tA rfl) ⟨hR rfl,hR rfl,hR rfl,hW rfl,hW rfl,hW rfl,hW rfl,hW rfl,hW rfl,hW rfl,hW rfl,hW rfl,hW rfl,hR rfl,trivial⟩
 refine⟨rfl, ?_⟩
 cases hm
 exact i4.of 15 rfl (tA rfl) ⟨hR rfl,hR rfl,hR rfl,hW rfl,hW rfl,hW rfl,hW rfl,hW rfl,hW rfl,hW rfl,hW rfl,hW rfl,hW rfl,hR rfl,trivial⟩
 obtain⟨v89,x90⟩:=ev174
 apply vb hm<;>intro _ hm
 cases hm
 exact c8a (⟨_,rfl,⟨⟨_,rfl,⟨c7Y _,c7Y _,c7Z,c7Z,c7Z,c7Z,c7Z,c7Y _,c7Z,c7Z,c7Z,c7Z,c7Z,trivial⟩⟩,c7Y _,trivial⟩⟩)
 cases hm
 exact c8a (c7Y _)
 replace hm:=b9E h39 hm
 cases h260:(c.Kind==2)
 rotate_left
 replace hm:=b8U h260 hm
 refine⟨⟨3,139,by kernel_rfl,by kernel_rfl⟩,155,by simp only [a6D,h39,h260], ?_⟩
 obtain⟨ev322,he323,hm⟩:=b9 hm
 refine O9.ofZ pok ⟨[(0, .own 14 0),(1, .agg (b8.c c)),(1000000, .agg (a8.c x)),(1000001, .agg (b8.c c)),(1000002, .own 0 0),(1000003, .own 1 0),(1000004, .own 2 0),(1000005,DI 0),(1000006, .own 14 0),(1000007,DI 0),(1000013,DB false),(1000018,DB (c.To !=x19))], [(0, .blk (a8.c x) 30),(1, .blk (b8.c c) 42),(2, .blk [DI 0,DI 0,nS,nS,nS,nS,nS,DI 0,nS,nS,nS,nS,nS] 30),(4,rE 4 v9 d0.c 110),(5,rE 6 v10 d9.c 108),(6,rE 4 v11 c9.c 149),(7,rE 5 v12 c0.c 112),(8,rE 6 v13 d7.c 114),(9,rE 4 v14 d0.c 110),(10,rE 6 v15 d9.c 108),(11,rE 4 v16 c9.c 149),(12,rE 5 v17 c0.c 112),(13,rE 6 v18 d7.c 114),(14, .blk [DI x19,DI x20, .row 4 4, .row 5 6, .row 6 4, .row 7 5, .row 8 6,DI x21, .row 9 4, .row 10 6, .row 11 4, .row 12 5, .row 13 6] 102)],15⟩ (match ev322 with|v291=>(⟨[(0, .agg (a8.c x)),(1, .agg (b8.c c)),(2, .own 0 0),(3, .own 1 0),(4, .own 2 0),(5,DI 0),(6, .own 14 0),(7,DI 0),(13,DB false),(18,DB (c.To !=x19)),(40,DB true)], [(0, .blk (a8.c x) 30),(1, .blk (b8.c c) 42),(2, .blk [DI 0,DI 0,nS,nS,nS,nS,nS,DI 0,nS,nS,nS,nS,nS] 30),(4,rE 4 v9 d0.c 110),(5,rE 6 v291 d9.c 108),(6,rE 4 v11 c9.c 149),(7,rE 5 v12 c0.c 112),(8,rE 6 v13 d7.c 114),(9,rE 4 v14 d0.c 110),(10,rE 6 v15 d9.c 108),(11,rE 4 v16 c9.c 149),(12,rE 5 v17 c0.c 112),(13,rE 6 v18 d7.c 114),(14, .blk [DI x19,DI x20, .row 4 4, .row 5 6, .row 6 4, .row 7 5, .row 8 6,DI x21, .row 9 4, .row 10 6, .row 11 4, .row 12 5, .row 13 6] 102)],15⟩:Sy):Sy) c5t [99,106,149,210,211,220] [62] [61,154,155,156,157,158,159,184,188,189,208] Tryz.func155 rfl rfl rfl (i4.of 15 rfl (tA rfl) ⟨hR rfl,hR rfl,hR rfl,hW rfl,hW rfl,hW rfl,hW rfl,hW rfl,hW rfl,hW rfl,hW rfl,hW rfl,hW rfl,hR rfl,trivial⟩) (fun sv=> ?_) ?_
 have hm:=he323
 refine co hm (Q7 v10 c) fun x324 hm=> ?_
 apply vb hm<;>intro _ hm
 cases hm
 exact i4.of 15 rfl (tA rfl) ⟨hR rfl,hR rfl,hR rfl,hW rfl,hW rfl,hW rfl,hW rfl,hW rfl,hW rfl,hW rfl,hW rfl,hW rfl,hW rfl,hR rfl,trivial⟩
 obtain⟨e327,hx328,hm⟩:=b9 hm
 refine⟨E1 hx328, ?_⟩
 refine⟨rfl, ?_⟩
 obtain⟨e329,hx330,hm⟩:=b9 hm
 refine⟨_,A5 (fun _=>rfl) hx330, ?_⟩
 apply vb hm<;>intro _ hm
 cases hm
 exact i4.of 15 rfl (tA rfl) ⟨hR rfl,hR rfl,hR rfl,hW rfl,hW rfl,hW rfl,hW rfl,hW rfl,hW rfl,hW rfl,hW rfl,hW rfl,hW rfl,hR rfl,trivial⟩
 obtain⟨e332,hx333,hm⟩:=b9 hm
 refine⟨_,A5 (fun _=>rfl) hx333, ?_⟩
 refine cy hm (a8Q e332.Mask c.From) fun x334 hm=> ?_
 apply vb hm<;>intro _ hm
 cases hm
 exact i4.of 15 rfl (tA rfl) ⟨hR rfl,hR rfl,hR rfl,hW rfl,hW rfl,hW rfl,hW rfl,hW rfl,hW rfl,hW rfl,hW rfl,hW rfl,hW rfl,hR rfl,trivial⟩
 refine⟨rfl, ?_⟩
 obtain⟨e337,hx338,hm⟩:=b9 hm
 refine⟨_,A5 (fun _=>rfl) hx338, ?_⟩
 refine cy hm (a4k e337.Mask c.From) fun x339 hm=> ?_
 refine cy hm (a1e x339) fun x341 hm=> ?_
 obtain⟨e343,hx344,hm⟩:=b9 hm
 refine⟨_,A5 (fun _=>rfl) hx344,_,I5 (y:=(⟨e343.Night,e343.Ballot,e343.Value,e343.Best,x339,e343.Asked⟩:d9)) (fun _=>rfl) hx344, ?_⟩
 obtain⟨e345,hx346,hm⟩:=b9 hm
 refine⟨_,a5Q (fun _=>rfl) hx346 (by first|rfl|simp only [List.length_set]),_,I5 (y:=(⟨e345.Night,e345.Ballot,e345.Value,e345.Best,e345.Mask,x341⟩:d9)) (fun _=>rfl) hx346, ?_⟩
 refine⟨rfl, ?_⟩
 obtain⟨e347,hx348,hm⟩:=b9 hm
 refine⟨_,a5Q (fun _=>rfl) hx348 (by first|rfl|simp only [List.length_set]), ?_⟩
 apply vb hm<;>intro _ hm
 refine⟨rfl, ?_⟩
 obtain⟨e350,hx351,hm⟩:=b9 hm
 refine⟨_,a5Q (fun _=>rfl) hx351 (by first|rfl|simp only [List.length_set]),_,I5 (y:=(⟨e350.Night,e350.Ballot,e350.Value,c.Best,e350.Mask,e350.Asked⟩:d9)) (fun _=>rfl) hx351, ?_⟩
 obtain⟨e352,hx353,hm⟩:=b9 hm
 refine⟨_,a5Q (fun _=>rfl) hx353 (by first|rfl|simp only [List.length_set]),_,I5 (y:=(⟨e352.Night,e352.Ballot,c.Value,e352.Best,e352.Mask,e352.Asked⟩:d9)) (fun _=>rfl) hx353, ?_⟩
 cases hm
 exact i4.of 15 rfl (tA rfl) ⟨hR rfl,hR rfl,hR rfl,hW rfl,hW rfl,hW rfl,hW rfl,hW rfl,hW rfl,hW rfl,hW rfl,hW rfl,hW rfl,hR rfl,trivial⟩
 cases hm
 exact i4.of 15 rfl (tA rfl) ⟨hR rfl,hR rfl,hR rfl,hW rfl,hW rfl,hW rfl,hW rfl,hW rfl,hW rfl,hW rfl,hW rfl,hW rfl,hW rfl,hR rfl,trivial⟩
 obtain v291:=ev322
 cases hm
 exact c8a (c7Y _)
 replace hm:=b9E h260 hm
 cases h354:(c.Kind==3)
 rotate_left
 replace hm:=b8U h354 hm
 refine⟨⟨3,139,by kernel_rfl,by kernel_rfl⟩,156,by simp only [a6D,h39,h260,h354], ?_⟩
 obtain⟨ev497,he498,hm⟩:=b9 hm
 refine O9.ofZ pok ⟨[(0, .own 14 0),(1, .agg (b8.c c)),(1000000, .agg (a8.c x)),(1000001, .agg (b8.c c)),(1000002, .own 0 0),(1000003, .own 1 0),(1000004, .own 2 0),(1000005,DI 0),(1000006, .own 14 0),(1000007,DI 0),(1000013,DB false),(1000018,DB (c.To !=x19))], [(0, .blk (a8.c x) 30),(1, .blk (b8.c c) 42),(2, .blk [DI 0,DI 0,nS,nS,nS,nS,nS,DI 0,nS,nS,nS,nS,nS] 30),(4,rE 4 v9 d0.c 110),(5,rE 6 v10 d9.c 108),(6,rE 4 v11 c9.c 149),(7,rE 5 v12 c0.c 112),(8,rE 6 v13 d7.c 114),(9,rE 4 v14 d0.c 110),(10,rE 6 v15 d9.c 108),(11,rE 4 v16 c9.c 149),(12,rE 5 v17 c0.c 112),(13,rE 6 v18 d7.c 114),(14, .blk [DI x19,DI x20, .row 4 4, .row 5 6, .row 6 4, .row 7 5, .row 8 6,DI x21, .row 9 4, .row 10 6, .row 11 4, .row 12 5, .row 13 6] 102)],15⟩ (match ev497 with|(v408,x409)=>(⟨[(0, .agg (a8.c x)),(1, .agg (b8.c c)),(2, .own 0 0),(3, .own 1 0),(4, .own 2 0),(5,DI 0),(6, .own 14 0),(7,DI 0),(13,DB false),(18,DB (c.To !=x19)),(40,DB x409)], [(0, .blk (a8.c x) 30),(1, .blk (b8.c c) 42),(2, .blk [DI 0,DI 0,nS,nS,nS,nS,nS,DI 0,nS,nS,nS,nS,nS] 30),(4,rE 4 v408 d0.c 110),(5,rE 6 v10 d9.c 108),(6,rE 4 v11 c9.c 149),(7,rE 5 v12 c0.c 112),(8,rE 6 v13 d7.c 114),(9,rE 4 v14 d0.c 110),(10,rE 6 v15 d9.c 108),(11,rE 4 v16 c9.c 149),(12,rE 5 v17 c0.c 112),(13,rE 6 v18 d7.c 114),(14, .blk [DI x19,DI x20, .row 4 4, .row 5 6, .row 6 4, .row 7 5, .row 8 6,DI x21, .row 9 4, .row 10 6, .row 11 4, .row 12 5, .row 13 6] 102)],15⟩:Sy):Sy) c4G [99,106,149,210,211,220] [62] [61,154,155,156,157,158,159,184,188,189,208] Tryz.func156 rfl rfl rfl (i4.of 15 rfl (tA rfl) ⟨hR rfl,hR rfl,hR rfl,hW rfl,hW rfl,hW rfl,hW rfl,hW rfl,hW rfl,hW rfl,hW rfl,hW rfl,hW rfl,hR rfl,trivial⟩) (fun sv=> ?_) ?_
 have hm:=he498
 obtain⟨ev549,he550,hm⟩:=b9 hm
 refine O9.ofZ pok ⟨[(0, .own 14 0),(1,DI c.Night),(1000000, .own 14 0),(1000001, .agg (b8.c c)),(1000003, .own 15 0),(1000004,DB false),(1000040, .agg (a8.c x)),(1000041, .agg (b8.c c)),(1000042, .own 0 0),(1000043, .own 1 0),(1000044, .own 2 0),(1000045,DI 0),(1000046, .own 14 0),(1000047,DI 0),(1000053,DB false),(1000058,DB (c.To !=x19))], [(0, .blk (a8.c x) 30),(1, .blk (b8.c c) 42),(2, .blk [DI 0,DI 0,nS,nS,nS,nS,nS,DI 0,nS,nS,nS,nS,nS] 30),(4,rE 4 v9 d0.c 110),(5,rE 6 v10 d9.c 108),(6,rE 4 v11 c9.c 149),(7,rE 5 v12 c0.c 112),(8,rE 6 v13 d7.c 114),(9,rE 4 v14 d0.c 110),(10,rE 6 v15 d9.c 108),(11,rE 4 v16 c9.c 149),(12,rE 5 v17 c0.c 112),(13,rE 6 v18 d7.c 114),(14, .blk [DI x19,DI x20, .row 4 4, .row 5 6, .row 6 4, .row 7 5, .row 8 6,DI x21, .row 9 4, .row 10 6, .row 11 4, .row 12 5, .row 13 6] 102),(15, .blk (b8.c c) 42)],16⟩ (match ev549 with| .inl (v520,x521)=>(⟨[(0, .own 14 0),(1, .agg (b8.c c)),(3, .own 15 0),(4,DB false),(11, .tup [.elr 4 4 (x521).toNat 0,DB true]),(1000000, .agg (a8.c x)),(1000001, .agg (b8.c c)),(1000002, .own 0 0),(1000003, .own 1 0),(1000004, .own 2 0),(1000005,DI 0),(1000006, .own 14 0),(1000007,DI 0),(1000013,DB false),(1000018,DB (c.To !=x19))], [(0, .blk (a8.c x) 30),(1, .blk (b8.c c) 42),(2, .blk [DI 0,DI 0,nS,nS,nS,nS,nS,DI 0,nS,nS,nS,nS,nS] 30),(4,rE 4 v520 d0.c 110),(5,rE 6 v10 d9.c 108),(6,rE 4 v11 c9.c 149),(7,rE 5 v12 c0.c 112),(8,rE 6 v13 d7.c 114),(9,rE 4 v14 d0.c 110),(10,rE 6 v15 d9.c 108),(11,rE 4 v16 c9.c 149),(12,rE 5 v17 c0.c 112),(13,rE 6 v18 d7.c 114),(14, .blk [DI x19,DI x20, .row 4 4, .row 5 6, .row 6 4, .row 7 5, .row 8 6,DI x21, .row 9 4, .row 10 6, .row 11 4, .row 12 5, .row 13 6] 102),(15, .blk (b8.c c) 42)],16⟩:Sy)| .inr _=>(⟨[(0, .own 14 0),(1, .agg (b8.c c)),(3, .own 15 0),(4,DB false),(11, .tup [.v (.pointer none),DB false]),(1000000, .agg (a8.c x)),(1000001, .agg (b8.c c)),(1000002, .own 0 0),(1000003, .own 1 0),(1000004, .own 2 0),(1000005,DI 0),(1000006, .own 14 0),(1000007,DI 0),(1000013,DB false),(1000018,DB (c.To !=x19))], [(0, .blk (a8.c x) 30),(1, .blk (b8.c c) 42),(2, .blk [DI 0,DI 0,nS,nS,nS,nS,nS,DI 0,nS,nS,nS,nS,nS] 30),(4,rE 4 v9 d0.c 110),(5,rE 6 v10 d9.c 108),(6,rE 4 v11 c9.c 149),(7,rE 5 v12 c0.c 112),(8,rE 6 v13 d7.c 114),(9,rE 4 v14 d0.c 110),(10,rE 6 v15 d9.c 108),(11,rE 4 v16 c9.c 149),(12,rE 5 v17 c0.c 112),(13,rE 6 v18 d7.c 114),(14, .blk [DI x19,DI x20, .row 4 4, .row 5 6, .row 6 4, .row 7 5, .row 8 6,DI x21, .row 9 4, .row 10 6, .row 11 4, .row 12 5, .row 13 6] 102),(15, .blk (b8.c c) 42)],16⟩:Sy):Sy) [] [99,106,149,210,211,220] [62] [61,154,155,156,157,158,159,184,188,189,208] Tryz.func184 rfl rfl rfl (i4.of 16 rfl (tA rfl) ⟨hR rfl,hR rfl,hR rfl,hW rfl,hW rfl,hW rfl,hW rfl,hW rfl,hW rfl,hW rfl,hW rfl,hW rfl,hW rfl,hR rfl,hR rfl,trivial⟩) (fun sv=> ?_) ?_
 have hm:=he550
 obtain⟨ev576,he577,hm⟩:=b9 hm
 refine O9.ofZ pok ⟨[(0, .row 4 4),(1, .agg [DI c.Night,DI 0,DI 0,DI 0]),(2,DI 12),(3, .fn 136 [] []),(1000000, .own 14 0),(1000001,DI c.Night),(1000004, .v (.pointer none)),(1000005,DB false),(1000033, .own 14 0),(1000034, .agg (b8.c c)),(1000036, .own 15 0),(1000037,DB false),(1000073, .agg (a8.c x)),(1000074, .agg (b8.c c)),(1000075, .own 0 0),(1000076, .own 1 0),(1000077, .own 2 0),(1000078,DI 0),(1000079, .own 14 0),(1000080,DI 0),(1000086,DB false),(1000091,DB (c.To !=x19))], [(0, .blk (a8.c x) 30),(1, .blk (b8.c c) 42),(2, .blk [DI 0,DI 0,nS,nS,nS,nS,nS,DI 0,nS,nS,nS,nS,nS] 30),(4,rE 4 v9 d0.c 110),(5,rE 6 v10 d9.c 108),(6,rE 4 v11 c9.c 149),(7,rE 5 v12 c0.c 112),(8,rE 6 v13 d7.c 114),(9,rE 4 v14 d0.c 110),(10,rE 6 v15 d9.c 108),(11,rE 4 v16 c9.c 149),(12,rE 5 v17 c0.c 112),(13,rE 6 v18 d7.c 114),(14, .blk [DI x19,DI x20, .row 4 4, .row 5 6, .row 6 4, .row 7 5, .row 8 6,DI x21, .row 9 4, .row 10 6, .row 11 4, .row 12 5, .row 13 6] 102),(15, .blk (b8.c c) 42)],16⟩ (match ev576 with| .inl (v567,x568)=>(⟨[(0, .own 14 0),(1,DI c.Night),(4, .v (.pointer none)),(5,DB false),(18, .tup [.row 4 4,DI x568,DB true]),(1000000, .own 14 0),(1000001, .agg (b8.c c)),(1000003, .own 15 0),(1000004,DB false),(1000040, .agg (a8.c x)),(1000041, .agg (b8.c c)),(1000042, .own 0 0),(1000043, .own 1 0),(1000044, .own 2 0),(1000045,DI 0),(1000046, .own 14 0),(1000047,DI 0),(1000053,DB false),(1000058,DB (c.To !=x19))], [(0, .blk (a8.c x) 30),(1, .blk (b8.c c) 42),(2, .blk [DI 0,DI 0,nS,nS,nS,nS,nS,DI 0,nS,nS,nS,nS,nS] 30),(4,rE 4 v567 d0.c 110),(5,rE 6 v10 d9.c 108),(6,rE 4 v11 c9.c 149),(7,rE 5 v12 c0.c 112),(8,rE 6 v13 d7.c 114),(9,rE 4 v14 d0.c 110),(10,rE 6 v15 d9.c 108),(11,rE 4 v16 c9.c 149),(12,rE 5 v17 c0.c 112),(13,rE 6 v18 d7.c 114),(14, .blk [DI x19,DI x20, .bad, .row 5 6, .row 6 4, .row 7 5, .row 8 6,DI x21, .row 9 4, .row 10 6, .row 11 4, .row 12 5, .row 13 6] 102),(15, .blk (b8.c c) 42)],16⟩:Sy)| .inr _=>(⟨[(0, .own 14 0),(1,DI c.Night),(4, .v (.pointer none)),(5,DB false),(18, .tup [nS,DI 0,DB false]),(1000000, .own 14 0),(1000001, .agg (b8.c c)),(1000003, .own 15 0),(1000004,DB false),(1000040, .agg (a8.c x)),(1000041, .agg (b8.c c)),(1000042, .own 0 0),(1000043, .own 1 0),(1000044, .own 2 0),(1000045,DI 0),(1000046, .own 14 0),(1000047,DI 0),(1000053,DB false),(1000058,DB (c.To !=x19))], [(0, .blk (a8.c x) 30),(1, .blk (b8.c c) 42),(2, .blk [DI 0,DI 0,nS,nS,nS,nS,nS,DI 0,nS,nS,nS,nS,nS] 30),(4,rE 4 v9 d0.c 110),(5,rE 6 v10 d9.c 108),(6,rE 4 v11 c9.c 149),(7,rE 5 v12 c0.c 112),(8,rE 6 v13 d7.c 114),(9,rE 4 v14 d0.c 110),(10,rE 6 v15 d9.c 108),(11,rE 4 v16 c9.c 149),(12,rE 5 v17 c0.c 112),(13,rE 6 v18 d7.c 114),(14, .blk [DI x19,DI x20, .row 4 4, .row 5 6, .row 6 4, .row 7 5, .row 8 6,DI x21, .row 9 4, .row 10 6, .row 11 4, .row 12 5, .row 13 6] 102),(15, .blk (b8.c c) 42)],16⟩:Sy):Sy) [] [99,106,149,210,211,220] [62] [61,154,155,156,157,158,159,184,188,189,208] Tryz.func208 rfl rfl rfl (i4.of 16 rfl (tA rfl) ⟨hR rfl,hR rfl,hR rfl,hW rfl,hW rfl,hW rfl,hW rfl,hW rfl,hW rfl,hW rfl,hW rfl,hW rfl,hW rfl,hR rfl,hR rfl,trivial⟩) (fun sv=> ?_) ?_
 have hm:=he577
 refine co hm (N4 v9 ((⟨c.Night,0,0,0⟩:d0))) ?_
 rintro⟨x580,x581⟩ hm
 apply vb hm<;>intro _ hm
 cases hm
 exact i4.of 16 rfl (tA rfl) ⟨hR rfl,hR rfl,hR rfl,hW rfl,hW rfl,hW rfl,hW rfl,hW rfl,hW rfl,hW rfl,hW rfl,hW rfl,hW rfl,⟨_,rfl,⟨c7Y _,c7Y _,c7Y _,c7Y _,c7Y _,c7Y _,c7Y _,c7Y _,c7Y _,c7Y _,c7Y _,c7Y _,trivial⟩⟩,hR rfl,trivial⟩
 apply vb hm<;>intro _ hm
 cases hm
 exact i4.of 16 rfl (tA rfl) ⟨hR rfl,hR rfl,hR rfl,hW rfl,hW rfl,hW rfl,hW rfl,hW rfl,hW rfl,hW rfl,hW rfl,hW rfl,hW rfl,hR rfl,hR rfl,trivial⟩
 refine⟨([(⟨c.Night,0,0,0⟩:d0)]:List d0).flatMap d0.c,([(⟨c.Night,0,0,0⟩:d0)]:List d0).length,⟨rfl,rfl⟩, ?_⟩
 obtain⟨x585,hx586,hm⟩:=b9 hm
 refine .inl (b1D.mk ⟨_,_,_,_,_,_,_,rfl,V7 v9 x580 (([(⟨c.Night,0,0,0⟩:d0)]:List d0)) _ hx586, ?_⟩)
 cases hm
 exact i4.of 16 rfl (tA rfl) ⟨hR rfl,hR rfl,hR rfl,hW rfl,hW rfl,hW rfl,hW rfl,hW rfl,hW rfl,hW rfl,hW rfl,hW rfl,hW rfl,hR rfl,hR rfl,trivial⟩
 rcases ev576 with⟨v567,x568⟩|⟨⟩
 obtain⟨e578,hx579,hm⟩:=b9 hm
 refine⟨E1 hx579, ?_⟩
 cases hm
 exact i4.of 16 rfl (tA rfl) ⟨hR rfl,hR rfl,hR rfl,hW rfl,hW rfl,hW rfl,hW rfl,hW rfl,hW rfl,hW rfl,hW rfl,hW rfl,hW rfl,hR rfl,hR rfl,trivial⟩
 cases hm
 exact i4.of 16 rfl (tA rfl) ⟨hR rfl,hR rfl,hR rfl,hW rfl,hW rfl,hW rfl,hW rfl,hW rfl,hW rfl,hW rfl,hW rfl,hW rfl,hW rfl,hR rfl,hR rfl,trivial⟩
 rcases ev549 with⟨v520,x521⟩|⟨⟩
 refine⟨rfl, ?_⟩
 obtain⟨e551,hx552,hm⟩:=b9 hm
 refine⟨_,A5 (fun _=>rfl) hx552, ?_⟩
 apply vb hm<;>intro _ hm
 refine⟨rfl, ?_⟩
 obtain⟨e554,hx555,hm⟩:=b9 hm
 refine⟨_,A5 (fun _=>rfl) hx555,_,I5 (y:=(⟨e554.Night,c.Ballot,e554.Ballot,e554.Value⟩:d0)) (fun _=>rfl) hx555, ?_⟩
 obtain⟨e556,hx557,hm⟩:=b9 hm
 refine⟨_,a5Q (fun _=>rfl) hx557 (by first|rfl|simp only [List.length_set]),_,I5 (y:=(⟨e556.Night,e556.Promised,c.Ballot,e556.Value⟩:d0)) (fun _=>rfl) hx557, ?_⟩
 obtain⟨e558,hx559,hm⟩:=b9 hm
 refine⟨_,a5Q (fun _=>rfl) hx559 (by first|rfl|simp only [List.length_set]),_,I5 (y:=(⟨e558.Night,e558.Promised,e558.Ballot,c.Value⟩:d0)) (fun _=>rfl) hx559, ?_⟩
 cases hm
 exact i4.of 15 rfl (tA rfl) ⟨hR rfl,hR rfl,hR rfl,hW rfl,hW rfl,hW rfl,hW rfl,hW rfl,hW rfl,hW rfl,hW rfl,hW rfl,hW rfl,hR rfl,trivial⟩
 cases hm
 exact i4.of 15 rfl (tA rfl) ⟨hR rfl,hR rfl,hR rfl,hW rfl,hW rfl,hW rfl,hW rfl,hW rfl,hW rfl,hW rfl,hW rfl,hW rfl,hW rfl,hR rfl,trivial⟩
 refine⟨rfl, ?_⟩
 cases hm
 exact i4.of 15 rfl (tA rfl) ⟨hR rfl,hR rfl,hR rfl,hW rfl,hW rfl,hW rfl,hW rfl,hW rfl,hW rfl,hW rfl,hW rfl,hW rfl,hW rfl,hR rfl,trivial⟩
 obtain⟨v408,x409⟩:=ev497
 apply vb hm<;>intro _ hm
 cases hm
 exact c8a (⟨_,rfl,⟨⟨_,rfl,⟨c7Y _,c7Y _,c7Z,c7Z,c7Z,c7Z,c7Z,c7Y _,c7Z,c7Z,c7Z,c7Z,c7Z,trivial⟩⟩,c7Y _,trivial⟩⟩)
 cases hm
 exact c8a (c7Y _)
 replace hm:=b9E h354 hm
 cases h587:(c.Kind==4)
 rotate_left
 replace hm:=b8U h587 hm
 refine⟨⟨3,139,by kernel_rfl,by kernel_rfl⟩,157,by simp only [a6D,h39,h260,h354,h587], ?_⟩
 obtain⟨ev663,he664,hm⟩:=b9 hm
 refine O9.ofZ pok ⟨[(0, .own 14 0),(1, .agg (b8.c c)),(1000000, .agg (a8.c x)),(1000001, .agg (b8.c c)),(1000002, .own 0 0),(1000003, .own 1 0),(1000004, .own 2 0),(1000005,DI 0),(1000006, .own 14 0),(1000007,DI 0),(1000013,DB false),(1000018,DB (c.To !=x19))], [(0, .blk (a8.c x) 30),(1, .blk (b8.c c) 42),(2, .blk [DI 0,DI 0,nS,nS,nS,nS,nS,DI 0,nS,nS,nS,nS,nS] 30),(4,rE 4 v9 d0.c 110),(5,rE 6 v10 d9.c 108),(6,rE 4 v11 c9.c 149),(7,rE 5 v12 c0.c 112),(8,rE 6 v13 d7.c 114),(9,rE 4 v14 d0.c 110),(10,rE 6 v15 d9.c 108),(11,rE 4 v16 c9.c 149),(12,rE 5 v17 c0.c 112),(13,rE 6 v18 d7.c 114),(14, .blk [DI x19,DI x20, .row 4 4, .row 5 6, .row 6 4, .row 7 5, .row 8 6,DI x21, .row 9 4, .row 10 6, .row 11 4, .row 12 5, .row 13 6] 102)],15⟩ (match ev663 with|(v621,x622)=>(⟨[(0, .agg (a8.c x)),(1, .agg (b8.c c)),(2, .own 0 0),(3, .own 1 0),(4, .own 2 0),(5,DI 0),(6, .own 14 0),(7,DI 0),(13,DB false),(18,DB (c.To !=x19)),(40,DB x622)], [(0, .blk (a8.c x) 30),(1, .blk (b8.c c) 42),(2, .blk [DI 0,DI 0,nS,nS,nS,nS,nS,DI 0,nS,nS,nS,nS,nS] 30),(4,rE 4 v9 d0.c 110),(5,rE 6 v10 d9.c 108),(6,rE 4 v621 c9.c 149),(7,rE 5 v12 c0.c 112),(8,rE 6 v13 d7.c 114),(9,rE 4 v14 d0.c 110),(10,rE 6 v15 d9.c 108),(11,rE 4 v16 c9.c 149),(12,rE 5 v17 c0.c 112),(13,rE 6 v18 d7.c 114),(14, .blk [DI x19,DI x20, .row 4 4, .row 5 6, .row 6 4, .row 7 5, .row 8 6,DI x21, .row 9 4, .row 10 6, .row 11 4, .row 12 5, .row 13 6] 102)],15⟩:Sy):Sy) c4A [99,106,149,210,211,220] [62] [61,154,155,156,157,158,159,184,188,189,208] Tryz.func157 rfl rfl rfl (i4.of 15 rfl (tA rfl) ⟨hR rfl,hR rfl,hR rfl,hW rfl,hW rfl,hW rfl,hW rfl,hW rfl,hW rfl,hW rfl,hW rfl,hW rfl,hW rfl,hR rfl,trivial⟩) (fun sv=> ?_) ?_
 have hm:=he664
 refine⟨rfl, ?_⟩
 obtain⟨ev682,he683,hm⟩:=b9 hm
 refine O9.ofZ pok ⟨[(0, .row 6 4),(1, .agg [DI c.Night,DI c.Ballot,DI c.Value,DI 0]),(2,DI 60),(3, .fn 139 [] []),(1000000, .own 14 0),(1000001, .agg (b8.c c)),(1000003, .own 15 0),(1000004,DB false),(1000054, .agg (a8.c x)),(1000055, .agg (b8.c c)),(1000056, .own 0 0),(1000057, .own 1 0),(1000058, .own 2 0),(1000059,DI 0),(1000060, .own 14 0),(1000061,DI 0),(1000067,DB false),(1000072,DB (c.To !=x19))], [(0, .blk (a8.c x) 30),(1, .blk (b8.c c) 42),(2, .blk [DI 0,DI 0,nS,nS,nS,nS,nS,DI 0,nS,nS,nS,nS,nS] 30),(4,rE 4 v9 d0.c 110),(5,rE 6 v10 d9.c 108),(6,rE 4 v11 c9.c 149),(7,rE 5 v12 c0.c 112),(8,rE 6 v13 d7.c 114),(9,rE 4 v14 d0.c 110),(10,rE 6 v15 d9.c 108),(11,rE 4 v16 c9.c 149),(12,rE 5 v17 c0.c 112),(13,rE 6 v18 d7.c 114),(14, .blk [DI x19,DI x20, .row 4 4, .row 5 6, .row 6 4, .row 7 5, .row 8 6,DI x21, .row 9 4, .row 10 6, .row 11 4, .row 12 5, .row 13 6] 102),(15, .blk (b8.c c) 42)],16⟩ (match ev682 with| .inl (v673,x674)=>(⟨[(0, .own 14 0),(1, .agg (b8.c c)),(3, .own 15 0),(4,DB false),(22, .tup [.row 6 4,DI x674,DB true]),(1000000, .agg (a8.c x)),(1000001, .agg (b8.c c)),(1000002, .own 0 0),(1000003, .own 1 0),(1000004, .own 2 0),(1000005,DI 0),(1000006, .own 14 0),(1000007,DI 0),(1000013,DB false),(1000018,DB (c.To !=x19))], [(0, .blk (a8.c x) 30),(1, .blk (b8.c c) 42),(2, .blk [DI 0,DI 0,nS,nS,nS,nS,nS,DI 0,nS,nS,nS,nS,nS] 30),(4,rE 4 v9 d0.c 110),(5,rE 6 v10 d9.c 108),(6,rE 4 v673 c9.c 149),(7,rE 5 v12 c0.c 112),(8,rE 6 v13 d7.c 114),(9,rE 4 v14 d0.c 110),(10,rE 6 v15 d9.c 108),(11,rE 4 v16 c9.c 149),(12,rE 5 v17 c0.c 112),(13,rE 6 v18 d7.c 114),(14, .blk [DI x19,DI x20, .row 4 4, .row 5 6, .bad, .row 7 5, .row 8 6,DI x21, .row 9 4, .row 10 6, .row 11 4, .row 12 5, .row 13 6] 102),(15, .blk (b8.c c) 42)],16⟩:Sy)| .inr _=>(⟨[(0, .own 14 0),(1, .agg (b8.c c)),(3, .own 15 0),(4,DB false),(22, .tup [nS,DI 0,DB false]),(1000000, .agg (a8.c x)),(1000001, .agg (b8.c c)),(1000002, .own 0 0),(1000003, .own 1 0),(1000004, .own 2 0),(1000005,DI 0),(1000006, .own 14 0),(1000007,DI 0),(1000013,DB false),(1000018,DB (c.To !=x19))], [(0, .blk (a8.c x) 30),(1, .blk (b8.c c) 42),(2, .blk [DI 0,DI 0,nS,nS,nS,nS,nS,DI 0,nS,nS,nS,nS,nS] 30),(4,rE 4 v9 d0.c 110),(5,rE 6 v10 d9.c 108),(6,rE 4 v11 c9.c 149),(7,rE 5 v12 c0.c 112),(8,rE 6 v13 d7.c 114),(9,rE 4 v14 d0.c 110),(10,rE 6 v15 d9.c 108),(11,rE 4 v16 c9.c 149),(12,rE 5 v17 c0.c 112),(13,rE 6 v18 d7.c 114),(14, .blk [DI x19,DI x20, .row 4 4, .row 5 6, .row 6 4, .row 7 5, .row 8 6,DI x21, .row 9 4, .row 10 6, .row 11 4, .row 12 5, .row 13 6] 102),(15, .blk (b8.c c) 42)],16⟩:Sy):Sy) [] [99,106,149,210,211,220] [62] [61,154,155,156,157,158,159,184,188,189,208] Tryz.func188 rfl rfl rfl (i4.of 16 rfl (tA rfl) ⟨hR rfl,hR rfl,hR rfl,hW rfl,hW rfl,hW rfl,hW rfl,hW rfl,hW rfl,hW rfl,hW rfl,hW rfl,hW rfl,hR rfl,hR rfl,trivial⟩) (fun sv=> ?_) ?_
 have hm:=he683
 refine co hm (Y9 v11 ((⟨c.Night,c.Ballot,c.Value,0⟩:c9))) ?_
 rintro⟨x699,x700⟩ hm
 apply vb hm<;>intro _ hm
 cases hm
 exact i4.of 16 rfl (tA rfl) ⟨hR rfl,hR rfl,hR rfl,hW rfl,hW rfl,hW rfl,hW rfl,hW rfl,hW rfl,hW rfl,hW rfl,hW rfl,hW rfl,⟨_,rfl,⟨c7Y _,c7Y _,c7Y _,c7Y _,c7Y _,c7Y _,c7Y _,c7Y _,c7Y _,c7Y _,c7Y _,c7Y _,trivial⟩⟩,hR rfl,trivial⟩
 apply vb hm<;>intro _ hm
 cases hm
 exact i4.of 16 rfl (tA rfl) ⟨hR rfl,hR rfl,hR rfl,hW rfl,hW rfl,hW rfl,hW rfl,hW rfl,hW rfl,hW rfl,hW rfl,hW rfl,hW rfl,hR rfl,hR rfl,trivial⟩
 refine⟨([(⟨c.Night,c.Ballot,c.Value,0⟩:c9)]:List c9).flatMap c9.c,([(⟨c.Night,c.Ballot,c.Value,0⟩:c9)]:List c9).length,⟨rfl,rfl⟩, ?_⟩
 obtain⟨x704,hx705,hm⟩:=b9 hm
 refine .inl (b1D.mk ⟨_,_,_,_,_,_,_,rfl,a1D v11 x699 (([(⟨c.Night,c.Ballot,c.Value,0⟩:c9)]:List c9)) _ hx705, ?_⟩)
 cases hm
 exact i4.of 16 rfl (tA rfl) ⟨hR rfl,hR rfl,hR rfl,hW rfl,hW rfl,hW rfl,hW rfl,hW rfl,hW rfl,hW rfl,hW rfl,hW rfl,hW rfl,hR rfl,hR rfl,trivial⟩
 rcases ev682 with⟨v673,x674⟩|⟨⟩
 refine⟨rfl, ?_⟩
 obtain⟨e684,hx685,hm⟩:=b9 hm
 refine⟨E1 hx685, ?_⟩
 obtain⟨e686,hx687,hm⟩:=b9 hm
 refine⟨_,A5 (fun _=>rfl) hx687, ?_⟩
 apply vb hm<;>intro _ hm
 refine⟨rfl, ?_⟩
 obtain⟨e689,hx690,hm⟩:=b9 hm
 refine⟨E1 hx690, ?_⟩
 obtain⟨e691,hx692,hm⟩:=b9 hm
 refine⟨_,A5 (fun _=>rfl) hx692, ?_⟩
 refine cy hm (a4k e691.Mask c.From) fun x693 hm=> ?_
 obtain⟨e695,hx696,hm⟩:=b9 hm
 refine⟨E1 hx696, ?_⟩
 obtain⟨e697,hx698,hm⟩:=b9 hm
 refine⟨_,A5 (fun _=>rfl) hx698,_,I5 (y:=(⟨e697.Night,e697.Ballot,e697.Value,x693⟩:c9)) (fun _=>rfl) hx698, ?_⟩
 cases hm
 exact i4.of 15 rfl (tA rfl) ⟨hR rfl,hR rfl,hR rfl,hW rfl,hW rfl,hW rfl,hW rfl,hW rfl,hW rfl,hW rfl,hW rfl,hW rfl,hW rfl,hR rfl,trivial⟩
 cases hm
 exact i4.of 15 rfl (tA rfl) ⟨hR rfl,hR rfl,hR rfl,hW rfl,hW rfl,hW rfl,hW rfl,hW rfl,hW rfl,hW rfl,hW rfl,hW rfl,hW rfl,hR rfl,trivial⟩
 cases hm
 exact i4.of 15 rfl (tA rfl) ⟨hR rfl,hR rfl,hR rfl,hW rfl,hW rfl,hW rfl,hW rfl,hW rfl,hW rfl,hW rfl,hW rfl,hW rfl,hW rfl,hR rfl,trivial⟩
 obtain⟨v621,x622⟩:=ev663
 apply vb hm<;>intro _ hm
 cases hm
 exact c8a (⟨_,rfl,⟨⟨_,rfl,⟨c7Y _,c7Y _,c7Z,c7Z,c7Z,c7Z,c7Z,c7Y _,c7Z,c7Z,c7Z,c7Z,c7Z,trivial⟩⟩,c7Y _,trivial⟩⟩)
 cases hm
 exact c8a (c7Y _)
 replace hm:=b9E h587 hm
 cases h706:(c.Kind==5)
 rotate_left
 replace hm:=b8U h706 hm
 refine⟨⟨3,139,by kernel_rfl,by kernel_rfl⟩,158,by simp only [a6D,h39,h260,h354,h587,h706], ?_⟩
 obtain⟨ev752,he753,hm⟩:=b9 hm
 refine O9.ofZ pok ⟨[(0, .own 14 0),(1, .agg (b8.c c)),(1000000, .agg (a8.c x)),(1000001, .agg (b8.c c)),(1000002, .own 0 0),(1000003, .own 1 0),(1000004, .own 2 0),(1000005,DI 0),(1000006, .own 14 0),(1000007,DI 0),(1000013,DB false),(1000018,DB (c.To !=x19))], [(0, .blk (a8.c x) 30),(1, .blk (b8.c c) 42),(2, .blk [DI 0,DI 0,nS,nS,nS,nS,nS,DI 0,nS,nS,nS,nS,nS] 30),(4,rE 4 v9 d0.c 110),(5,rE 6 v10 d9.c 108),(6,rE 4 v11 c9.c 149),(7,rE 5 v12 c0.c 112),(8,rE 6 v13 d7.c 114),(9,rE 4 v14 d0.c 110),(10,rE 6 v15 d9.c 108),(11,rE 4 v16 c9.c 149),(12,rE 5 v17 c0.c 112),(13,rE 6 v18 d7.c 114),(14, .blk [DI x19,DI x20, .row 4 4, .row 5 6, .row 6 4, .row 7 5, .row 8 6,DI x21, .row 9 4, .row 10 6, .row 11 4, .row 12 5, .row 13 6] 102)],15⟩ (match ev752 with|(v725,x726)=>(⟨[(0, .agg (a8.c x)),(1, .agg (b8.c c)),(2, .own 0 0),(3, .own 1 0),(4, .own 2 0),(5,DI 0),(6, .own 14 0),(7,DI 0),(13,DB false),(18,DB (c.To !=x19)),(40,DB x726)], [(0, .blk (a8.c x) 30),(1, .blk (b8.c c) 42),(2, .blk [DI 0,DI 0,nS,nS,nS,nS,nS,DI 0,nS,nS,nS,nS,nS] 30),(4,rE 4 v9 d0.c 110),(5,rE 6 v10 d9.c 108),(6,rE 4 v11 c9.c 149),(7,rE 5 v12 c0.c 112),(8,rE 6 v725 d7.c 114),(9,rE 4 v14 d0.c 110),(10,rE 6 v15 d9.c 108),(11,rE 4 v16 c9.c 149),(12,rE 5 v17 c0.c 112),(13,rE 6 v18 d7.c 114),(14, .blk [DI x19,DI x20, .row 4 4, .row 5 6, .row 6 4, .row 7 5, .row 8 6,DI x21, .row 9 4, .row 10 6, .row 11 4, .row 12 5, .row 13 6] 102)],15⟩:Sy):Sy) c4Q [99,106,149,210,211,220] [62] [61,154,155,156,157,158,159,184,188,189,208] Tryz.func158 rfl rfl rfl (i4.of 15 rfl (tA rfl) ⟨hR rfl,hR rfl,hR rfl,hW rfl,hW rfl,hW rfl,hW rfl,hW rfl,hW rfl,hW rfl,hW rfl,hW rfl,hW rfl,hR rfl,trivial⟩) (fun sv=> ?_) ?_
 have hm:=he753
 refine⟨rfl, ?_⟩
 obtain⟨ev771,he772,hm⟩:=b9 hm
 refine O9.ofZ pok ⟨[(0, .row 8 6),(1, .agg [DI c.From,DI c.No,DI c.Thing,DI c.Start,DI c.Until,DB false]),(2,DI 60),(3, .fn 95 [] []),(1000000, .own 14 0),(1000001, .agg (b8.c c)),(1000003, .own 15 0),(1000004,DB false),(1000038, .agg (a8.c x)),(1000039, .agg (b8.c c)),(1000040, .own 0 0),(1000041, .own 1 0),(1000042, .own 2 0),(1000043,DI 0),(1000044, .own 14 0),(1000045,DI 0),(1000051,DB false),(1000056,DB (c.To !=x19))], [(0, .blk (a8.c x) 30),(1, .blk (b8.c c) 42),(2, .blk [DI 0,DI 0,nS,nS,nS,nS,nS,DI 0,nS,nS,nS,nS,nS] 30),(4,rE 4 v9 d0.c 110),(5,rE 6 v10 d9.c 108),(6,rE 4 v11 c9.c 149),(7,rE 5 v12 c0.c 112),(8,rE 6 v13 d7.c 114),(9,rE 4 v14 d0.c 110),(10,rE 6 v15 d9.c 108),(11,rE 4 v16 c9.c 149),(12,rE 5 v17 c0.c 112),(13,rE 6 v18 d7.c 114),(14, .blk [DI x19,DI x20, .row 4 4, .row 5 6, .row 6 4, .row 7 5, .row 8 6,DI x21, .row 9 4, .row 10 6, .row 11 4, .row 12 5, .row 13 6] 102),(15, .blk (b8.c c) 42)],16⟩ (match ev771 with| .inl (v762,x763)=>(⟨[(0, .own 14 0),(1, .agg (b8.c c)),(3, .own 15 0),(4,DB false),(26, .tup [.row 8 6,DI x763,DB true]),(1000000, .agg (a8.c x)),(1000001, .agg (b8.c c)),(1000002, .own 0 0),(1000003, .own 1 0),(1000004, .own 2 0),(1000005,DI 0),(1000006, .own 14 0),(1000007,DI 0),(1000013,DB false),(1000018,DB (c.To !=x19))], [(0, .blk (a8.c x) 30),(1, .blk (b8.c c) 42),(2, .blk [DI 0,DI 0,nS,nS,nS,nS,nS,DI 0,nS,nS,nS,nS,nS] 30),(4,rE 4 v9 d0.c 110),(5,rE 6 v10 d9.c 108),(6,rE 4 v11 c9.c 149),(7,rE 5 v12 c0.c 112),(8,rE 6 v762 d7.c 114),(9,rE 4 v14 d0.c 110),(10,rE 6 v15 d9.c 108),(11,rE 4 v16 c9.c 149),(12,rE 5 v17 c0.c 112),(13,rE 6 v18 d7.c 114),(14, .blk [DI x19,DI x20, .row 4 4, .row 5 6, .row 6 4, .row 7 5, .bad,DI x21, .row 9 4, .row 10 6, .row 11 4, .row 12 5, .row 13 6] 102),(15, .blk (b8.c c) 42)],16⟩:Sy)| .inr _=>(⟨[(0, .own 14 0),(1, .agg (b8.c c)),(3, .own 15 0),(4,DB false),(26, .tup [nS,DI 0,DB false]),(1000000, .agg (a8.c x)),(1000001, .agg (b8.c c)),(1000002, .own 0 0),(1000003, .own 1 0),(1000004, .own 2 0),(1000005,DI 0),(1000006, .own 14 0),(1000007,DI 0),(1000013,DB false),(1000018,DB (c.To !=x19))], [(0, .blk (a8.c x) 30),(1, .blk (b8.c c) 42),(2, .blk [DI 0,DI 0,nS,nS,nS,nS,nS,DI 0,nS,nS,nS,nS,nS] 30),(4,rE 4 v9 d0.c 110),(5,rE 6 v10 d9.c 108),(6,rE 4 v11 c9.c 149),(7,rE 5 v12 c0.c 112),(8,rE 6 v13 d7.c 114),(9,rE 4 v14 d0.c 110),(10,rE 6 v15 d9.c 108),(11,rE 4 v16 c9.c 149),(12,rE 5 v17 c0.c 112),(13,rE 6 v18 d7.c 114),(14, .blk [DI x19,DI x20, .row 4 4, .row 5 6, .row 6 4, .row 7 5, .row 8 6,DI x21, .row 9 4, .row 10 6, .row 11 4, .row 12 5, .row 13 6] 102),(15, .blk (b8.c c) 42)],16⟩:Sy):Sy) [] [99,106,149,210,211,220] [62] [61,154,155,156,157,158,159,184,188,189,208] Tryz.func189 rfl rfl rfl (i4.of 16 rfl (tA rfl) ⟨hR rfl,hR rfl,hR rfl,hW rfl,hW rfl,hW rfl,hW rfl,hW rfl,hW rfl,hW rfl,hW rfl,hW rfl,hW rfl,hR rfl,hR rfl,trivial⟩) (fun sv=> ?_) ?_
 have hm:=he772
 refine co hm (N8 v13 ((⟨c.From,c.No,c.Thing,c.Start,c.Until,false⟩:d7))) ?_
 rintro⟨x773,x774⟩ hm
 apply vb hm<;>intro _ hm
 cases hm
 exact i4.of 16 rfl (tA rfl) ⟨hR rfl,hR rfl,hR rfl,hW rfl,hW rfl,hW rfl,hW rfl,hW rfl,hW rfl,hW rfl,hW rfl,hW rfl,hW rfl,⟨_,rfl,⟨c7Y _,c7Y _,c7Y _,c7Y _,c7Y _,c7Y _,c7Y _,c7Y _,c7Y _,c7Y _,c7Y _,c7Y _,trivial⟩⟩,hR rfl,trivial⟩
 apply vb hm<;>intro _ hm
 cases hm
 exact i4.of 16 rfl (tA rfl) ⟨hR rfl,hR rfl,hR rfl,hW rfl,hW rfl,hW rfl,hW rfl,hW rfl,hW rfl,hW rfl,hW rfl,hW rfl,hW rfl,hR rfl,hR rfl,trivial⟩
 refine⟨([(⟨c.From,c.No,c.Thing,c.Start,c.Until,false⟩:d7)]:List d7).flatMap d7.c,([(⟨c.From,c.No,c.Thing,c.Start,c.Until,false⟩:d7)]:List d7).length,⟨rfl,rfl⟩, ?_⟩
 obtain⟨x778,hx779,hm⟩:=b9 hm
 refine .inl (b1D.mk ⟨_,_,_,_,_,_,_,rfl,a2o v13 x773 (([(⟨c.From,c.No,c.Thing,c.Start,c.Until,false⟩:d7)]:List d7)) _ hx779, ?_⟩)
 cases hm
 exact i4.of 16 rfl (tA rfl) ⟨hR rfl,hR rfl,hR rfl,hW rfl,hW rfl,hW rfl,hW rfl,hW rfl,hW rfl,hW rfl,hW rfl,hW rfl,hW rfl,hR rfl,hR rfl,trivial⟩
 rcases ev771 with⟨v762,x763⟩|⟨⟩
 cases hm
 exact i4.of 15 rfl (tA rfl) ⟨hR rfl,hR rfl,hR rfl,hW rfl,hW rfl,hW rfl,hW rfl,hW rfl,hW rfl,hW rfl,hW rfl,hW rfl,hW rfl,hR rfl,trivial⟩
 cases hm
 exact i4.of 15 rfl (tA rfl) ⟨hR rfl,hR rfl,hR rfl,hW rfl,hW rfl,hW rfl,hW rfl,hW rfl,hW rfl,hW rfl,hW rfl,hW rfl,hW rfl,hR rfl,trivial⟩
 obtain⟨v725,x726⟩:=ev752
 apply vb hm<;>intro _ hm
 cases hm
 exact c8a (⟨_,rfl,⟨⟨_,rfl,⟨c7Y _,c7Y _,c7Z,c7Z,c7Z,c7Z,c7Z,c7Y _,c7Z,c7Z,c7Z,c7Z,c7Z,trivial⟩⟩,c7Y _,trivial⟩⟩)
 cases hm
 exact c8a (c7Y _)
 replace hm:=b9E h706 hm
 cases h780:(c.Kind==6)
 rotate_left
 replace hm:=b8U h780 hm
 refine⟨⟨3,139,by kernel_rfl,by kernel_rfl⟩,159,by simp only [a6D,h39,h260,h354,h587,h706,h780], ?_⟩
 obtain⟨ev902,he903,hm⟩:=b9 hm
 refine O9.ofZ pok ⟨[(0, .own 14 0),(1, .agg (b8.c c)),(1000000, .agg (a8.c x)),(1000001, .agg (b8.c c)),(1000002, .own 0 0),(1000003, .own 1 0),(1000004, .own 2 0),(1000005,DI 0),(1000006, .own 14 0),(1000007,DI 0),(1000013,DB false),(1000018,DB (c.To !=x19))], [(0, .blk (a8.c x) 30),(1, .blk (b8.c c) 42),(2, .blk [DI 0,DI 0,nS,nS,nS,nS,nS,DI 0,nS,nS,nS,nS,nS] 30),(4,rE 4 v9 d0.c 110),(5,rE 6 v10 d9.c 108),(6,rE 4 v11 c9.c 149),(7,rE 5 v12 c0.c 112),(8,rE 6 v13 d7.c 114),(9,rE 4 v14 d0.c 110),(10,rE 6 v15 d9.c 108),(11,rE 4 v16 c9.c 149),(12,rE 5 v17 c0.c 112),(13,rE 6 v18 d7.c 114),(14, .blk [DI x19,DI x20, .row 4 4, .row 5 6, .row 6 4, .row 7 5, .row 8 6,DI x21, .row 9 4, .row 10 6, .row 11 4, .row 12 5, .row 13 6] 102)],15⟩ (match ev902 with|v821=>(⟨[(0, .agg (a8.c x)),(1, .agg (b8.c c)),(2, .own 0 0),(3, .own 1 0),(4, .own 2 0),(5,DI 0),(6, .own 14 0),(7,DI 0),(13,DB false),(18,DB (c.To !=x19)),(40,DB true)], [(0, .blk (a8.c x) 30),(1, .blk (b8.c c) 42),(2, .blk [DI 0,DI 0,nS,nS,nS,nS,nS,DI 0,nS,nS,nS,nS,nS] 30),(4,rE 4 v9 d0.c 110),(5,rE 6 v10 d9.c 108),(6,rE 4 v11 c9.c 149),(7,rE 5 v821 c0.c 112),(8,rE 6 v13 d7.c 114),(9,rE 4 v14 d0.c 110),(10,rE 6 v15 d9.c 108),(11,rE 4 v16 c9.c 149),(12,rE 5 v17 c0.c 112),(13,rE 6 v18 d7.c 114),(14, .blk [DI x19,DI x20, .row 4 4, .row 5 6, .row 6 4, .row 7 5, .row 8 6,DI x21, .row 9 4, .row 10 6, .row 11 4, .row 12 5, .row 13 6] 102)],15⟩:Sy):Sy) c5u [99,106,149,210,211,220] [62] [61,154,155,156,157,158,159,184,188,189,208] Tryz.func159 rfl rfl rfl (i4.of 15 rfl (tA rfl) ⟨hR rfl,hR rfl,hR rfl,hW rfl,hW rfl,hW rfl,hW rfl,hW rfl,hW rfl,hW rfl,hW rfl,hW rfl,hW rfl,hR rfl,trivial⟩) (fun sv=> ?_) ?_
 have hm:=he903
 obtain⟨ev962,he,hk963⟩:=b9 hm
 refine c8b (Q4 c v12) (fun(v922,v923)=>⟨[(0, .own 14 0),(1, .agg (b8.c c)),(3, .own 15 0),(4,DB false),(13,DI (v12.length:Int)),(14,DI v922),(1000000, .agg (a8.c x)),(1000001, .agg (b8.c c)),(1000002, .own 0 0),(1000003, .own 1 0),(1000004, .own 2 0),(1000005,DI 0),(1000006, .own 14 0),(1000007,DI 0),(1000013,DB false),(1000018,DB (c.To !=x19))], [(0, .blk (a8.c x) 30),(1, .blk (b8.c c) 42),(2, .blk [DI 0,DI 0,nS,nS,nS,nS,nS,DI 0,nS,nS,nS,nS,nS] 30),(4,rE 4 v9 d0.c 110),(5,rE 6 v10 d9.c 108),(6,rE 4 v11 c9.c 149),(7,rE 5 v923 c0.c 112),(8,rE 6 v13 d7.c 114),(9,rE 4 v14 d0.c 110),(10,rE 6 v15 d9.c 108),(11,rE 4 v16 c9.c 149),(12,rE 5 v17 c0.c 112),(13,rE 6 v18 d7.c 114),(14, .blk [DI x19,DI x20, .row 4 4, .row 5 6, .row 6 4, .row 7 5, .row 8 6,DI x21, .row 9 4, .row 10 6, .row 11 4, .row 12 5, .row 13 6] 102),(15, .blk (b8.c c) 42)],16⟩) (0,v12) (i4.of 16 rfl (tA rfl) ⟨hR rfl,hR rfl,hR rfl,hW rfl,hW rfl,hW rfl,hW rfl,hW rfl,hW rfl,hW rfl,hW rfl,hW rfl,hW rfl,hR rfl,hR rfl,trivial⟩) he ?_
 rintro fu964 ⟨v922,v923⟩ b hm hi965
 apply vb hm<;>intro _ hm
 obtain⟨e967,hx968,hm⟩:=b9 hm
 refine⟨E1 hx968, ?_⟩
 refine⟨rfl, ?_⟩
 obtain⟨e969,hx970,hm⟩:=b9 hm
 refine⟨_,A5 (fun _=>rfl) hx970, ?_⟩
 apply vb hm<;>intro _ hm
 obtain⟨e972,hx973,hm⟩:=b9 hm
 refine⟨_,A5 (fun _=>rfl) hx973, ?_⟩
 apply vb hm<;>intro _ hm
 obtain⟨e975,hx976,hm⟩:=b9 hm
 refine⟨_,A5 (fun _=>rfl) hx976, ?_⟩
 apply vb hm<;>intro _ hm
 refine⟨rfl, ?_⟩
 obtain⟨e978,hx979,hm⟩:=b9 hm
 refine⟨_,A5 (fun _=>rfl) hx979, ?_⟩
 obtain⟨e980,hx981,hm⟩:=b9 hm
 refine⟨_,A5 (fun _=>rfl) hx981, ?_⟩
 obtain⟨e982,hx983,hm⟩:=b9 hm
 refine⟨_,A5 (fun _=>rfl) hx983,_,I5 (y:=(⟨e982.No,e982.Thing,e982.To,e982.From,(if(if e980.From>c.Until then e980.From else c.Until)<e978.Until then(if e980.From>c.Until then e980.From else c.Until)else e978.Until)⟩:c0)) (fun _=>rfl) hx983, ?_⟩
 cases hm
 exact⟨(_,((W (v922+1)),(v923.set v922.toNat (⟨e982.No,e982.Thing,e982.To,e982.From,(if(if e980.From>c.Until then e980.From else c.Until)<e978.Until then(if e980.From>c.Until then e980.From else c.Until)else e978.Until)⟩:c0)))),i4.of 16 rfl (tA rfl) ⟨hR rfl,hR rfl,hR rfl,hW rfl,hW rfl,hW rfl,hW rfl,hW rfl,hW rfl,hW rfl,hW rfl,hW rfl,hW rfl,hR rfl,hR rfl,trivial⟩,hi965,Nat.lt_succ_self _⟩
 cases hm
 exact⟨(_,((W (v922+1)),v923)),i4.of 16 rfl (tA rfl) ⟨hR rfl,hR rfl,hR rfl,hW rfl,hW rfl,hW rfl,hW rfl,hW rfl,hW rfl,hW rfl,hW rfl,hW rfl,hW rfl,hR rfl,hR rfl,trivial⟩,hi965,Nat.lt_succ_self _⟩
 cases hm
 exact⟨(_,((W (v922+1)),v923)),i4.of 16 rfl (tA rfl) ⟨hR rfl,hR rfl,hR rfl,hW rfl,hW rfl,hW rfl,hW rfl,hW rfl,hW rfl,hW rfl,hW rfl,hW rfl,hW rfl,hR rfl,hR rfl,trivial⟩,hi965,Nat.lt_succ_self _⟩
 cases hm
 exact⟨(_,((W (v922+1)),v923)),i4.of 16 rfl (tA rfl) ⟨hR rfl,hR rfl,hR rfl,hW rfl,hW rfl,hW rfl,hW rfl,hW rfl,hW rfl,hW rfl,hW rfl,hW rfl,hW rfl,hR rfl,hR rfl,trivial⟩,hi965,Nat.lt_succ_self _⟩
 cases hm
 cases hi965
 have hm:=hk963
 cases hm
 exact i4.of 15 rfl (tA rfl) ⟨hR rfl,hR rfl,hR rfl,hW rfl,hW rfl,hW rfl,hW rfl,hW rfl,hW rfl,hW rfl,hW rfl,hW rfl,hW rfl,hR rfl,trivial⟩
 obtain v821:=ev902
 cases hm
 exact c8a (c7Y _)
 replace hm:=b9E h780 hm
 cases hm
def a3G (l:c0) (c_0:Int) (c_1:Int):Option Bool:=
 if(l.Thing==c_0)=true then
  if(decide (l.From≤c_1))=true then
   some (decide (c_1<l.Until))
  else
   some false
 else
  some false
theorem a7u (l:c0) (c_0:Int) (c_1:Int) (r:Bool) (hm:a3G l c_0 c_1=some r):l8 Tryz.prog 164 [.agg (c0.c l), .ptr [DI c_0] 0, .ptr [DI c_1] 0] (fun x=>x=DB r):=by
 refine zn Tryz.func164 rfl ?_
 apply vb hm<;>intro _ hm
 apply vb hm<;>intro _ hm
 exact hm.rr
 exact hm.rr
 exact hm.rr
def D6 (s:(List c0)) (c1_0:Int) (c1_1:Int):Int→Option (Sum Int (Sum Int Int)):=fun v7=>
 if(decide (v7<(s.length:Int)))=true then
  Option.bind (idx s v7) fun e15=>
  Option.bind (a3G e15 c1_0 c1_1) fun x17=>
  if x17=true then
   some (.inr (.inr v7))
  else
   some (.inl (W (v7+1)))
 else
  some (.inr (.inl v7))
def F5 (s:(List c0)) (c1_0:Int) (c1_1:Int):Option Int:=
 Option.bind (s9 (D6 s c1_0 c1_1) 0) fun e=>
 match e with
 | .inl v20=>
  some (-1)
 | .inr rr21=>
  some rr21
theorem Q5 (s:(List c0)) (c1_0:Int) (c1_1:Int) (r:Int) (hm:F5 s c1_0 c1_1=some r):l8 Tryz.prog 179 [lD 5 s c0.c, .fn 164 [] [.ptr [DI c1_0] 0, .ptr [DI c1_1] 0]] (fun x=>x=DI r):=by
 refine zn Tryz.func179 rfl ?_
 obtain⟨ev22,he,hk23⟩:=b9 hm
 refine c8b (D6 s c1_0 c1_1) (fun v7=>⟨[(0,lD 5 s c0.c),(1, .fn 164 [] [.ptr [DI c1_0] 0, .ptr [DI c1_1] 0]),(4,DI 0),(7,DI (s.length:Int)),(8,DI v7)], [],0⟩) 0 (i4.of 0 rfl (tA rfl) trivial) he ?_
 rintro fu24 v7 b hm hi25
 apply vb hm<;>intro _ hm
 obtain⟨e27,hx28,hm⟩:=b9 hm
 refine⟨_,q8 (fun _=>rfl) hx28, ?_⟩
 refine cy hm (a7u e27 c1_0 c1_1) fun x29 hm=> ?_
 apply vb hm<;>intro _ hm
 cases hm
 cases hi25
 have hm:=hk23
 exact hm.rr
 cases hm
 exact⟨(_,(W (v7+1))),i4.of 0 rfl (tA rfl) trivial,hi25,Nat.lt_succ_self _⟩
 cases hm
 cases hi25
 have hm:=hk23
 exact hm.rr
def D5 (s:(List c0)) (c1_0:Int) (c1_1:Int):Option Bool:=
 Option.bind (F5 s c1_0 c1_1) fun x1=>
 some (decide (x1≥0))
theorem P6 (s:(List c0)) (c1_0:Int) (c1_1:Int) (r:Bool) (hm:D5 s c1_0 c1_1=some r):l8 Tryz.prog 143 [lD 5 s c0.c, .fn 164 [] [.ptr [DI c1_0] 0, .ptr [DI c1_1] 0]] (fun x=>x=DB r):=by
 refine zn Tryz.func143 rfl ?_
 refine cy hm (Q5 s c1_0 c1_1) fun x1 hm=> ?_
 exact hm.rr
def a3I (l:d7) (c_0:Int) (c_1:Int):Option Bool:=
 if(l.Thing==c_0)=true then
  if(decide (l.From≤c_1))=true then
   some (decide (c_1<l.Until))
  else
   some false
 else
  some false
theorem a7v (l:d7) (c_0:Int) (c_1:Int) (r:Bool) (hm:a3I l c_0 c_1=some r):l8 Tryz.prog 166 [.agg (d7.c l), .ptr [DI c_0] 0, .ptr [DI c_1] 0] (fun x=>x=DB r):=by
 refine zn Tryz.func166 rfl ?_
 apply vb hm<;>intro _ hm
 apply vb hm<;>intro _ hm
 exact hm.rr
 exact hm.rr
 exact hm.rr
def F1 (s:(List d7)) (c1_0:Int) (c1_1:Int):Int→Option (Sum Int (Sum Int Int)):=fun v7=>
 if(decide (v7<(s.length:Int)))=true then
  Option.bind (idx s v7) fun e15=>
  Option.bind (a3I e15 c1_0 c1_1) fun x17=>
  if x17=true then
   some (.inr (.inr v7))
  else
   some (.inl (W (v7+1)))
 else
  some (.inr (.inl v7))
def H5 (s:(List d7)) (c1_0:Int) (c1_1:Int):Option Int:=
 Option.bind (s9 (F1 s c1_0 c1_1) 0) fun e=>
 match e with
 | .inl v20=>
  some (-1)
 | .inr rr21=>
  some rr21
theorem R3 (s:(List d7)) (c1_0:Int) (c1_1:Int) (r:Int) (hm:H5 s c1_0 c1_1=some r):l8 Tryz.prog 190 [lD 6 s d7.c, .fn 166 [] [.ptr [DI c1_0] 0, .ptr [DI c1_1] 0]] (fun x=>x=DI r):=by
 refine zn Tryz.func190 rfl ?_
 obtain⟨ev22,he,hk23⟩:=b9 hm
 refine c8b (F1 s c1_0 c1_1) (fun v7=>⟨[(0,lD 6 s d7.c),(1, .fn 166 [] [.ptr [DI c1_0] 0, .ptr [DI c1_1] 0]),(4,DI 0),(7,DI (s.length:Int)),(8,DI v7)], [],0⟩) 0 (i4.of 0 rfl (tA rfl) trivial) he ?_
 rintro fu24 v7 b hm hi25
 apply vb hm<;>intro _ hm
 obtain⟨e27,hx28,hm⟩:=b9 hm
 refine⟨_,q8 (fun _=>rfl) hx28, ?_⟩
 refine cy hm (a7v e27 c1_0 c1_1) fun x29 hm=> ?_
 apply vb hm<;>intro _ hm
 cases hm
 cases hi25
 have hm:=hk23
 exact hm.rr
 cases hm
 exact⟨(_,(W (v7+1))),i4.of 0 rfl (tA rfl) trivial,hi25,Nat.lt_succ_self _⟩
 cases hm
 cases hi25
 have hm:=hk23
 exact hm.rr
def F4 (s:(List d7)) (c1_0:Int) (c1_1:Int):Option Bool:=
 Option.bind (H5 s c1_0 c1_1) fun x1=>
 some (decide (x1≥0))
theorem Q2 (s:(List d7)) (c1_0:Int) (c1_1:Int) (r:Bool) (hm:F4 s c1_0 c1_1=some r):l8 Tryz.prog 165 [lD 6 s d7.c, .fn 166 [] [.ptr [DI c1_0] 0, .ptr [DI c1_1] 0]] (fun x=>x=DB r):=by
 refine zn Tryz.func165 rfl ?_
 refine cy hm (R3 s c1_0 c1_1) fun x1 hm=> ?_
 exact hm.rr
def a4G (p:I3) (thing:Int) (moment:Int):Option Bool:=
 Option.bind (j4 thing) fun x1=>
 if(x1==p.Station.Me)=true then
  Option.bind (D5 p.Station.Now.Leases thing moment) fun x4=>
  some (!x4)
 else
  Option.bind (F4 p.Station.Now.Loans thing moment) fun x6=>
  some x6
theorem a8r (p:I3) (thing:Int) (moment:Int) (r:Bool) (hm:a4G p thing moment=some r):l8 Tryz.prog 98 [.ptr (I3.c p) 0,DI thing,DI moment] (fun x=>x=DB r):=by
 refine zy c6q [] [] [] Tryz.func98 rfl ?_
 refine⟨rfl, ?_⟩
 refine cy hm (m8 thing) fun x1 hm=> ?_
 apply vb hm<;>intro _ hm
 refine co hm (P6 p.Station.Now.Leases thing moment) fun x4 hm=> ?_
 exact hm.rr
 refine co hm (Q2 p.Station.Now.Loans thing moment) fun x6 hm=> ?_
 exact hm.rr
def a0s (x:a8) (thing:Int) (moment:Int):Option (Bool×Int):=
 Option.bind (S9 x) fun⟨x1,x2⟩=>
 b2G x1 (
  if(x2 !=0)=true then
   some (false,x2)
  else
   Option.bind (C8 thing) fun x6=>
   if(!x6)=true then
    some (false,1)
   else
    Option.bind (j6 moment) fun x9=>
    if(!x9)=true then
     some (false,95)
    else
     none) fun p4=>
 if(x2 !=0)=true then
  some (false,x2)
 else
  Option.bind (C8 thing) fun x13=>
  if(!x13)=true then
   some (false,1)
  else
   Option.bind (j6 moment) fun x16=>
   if(!x16)=true then
    some (false,95)
   else
    Option.bind (a4G p4 thing moment) fun x19=>
    some (x19,0)
theorem a3J (x:a8) (thing:Int) (moment:Int) (r:(Bool×Int)) (hm:a0s x thing moment=some r):l8 Tryz.prog 41 [.agg (a8.c x),DI thing,DI moment] (fun x=>x= .tup [DB r.1,DI r.2]):=by
 refine zn Tryz.func41 rfl ?_
 refine cy hm (a3g x) ?_
 rintro⟨x1,x2⟩ hm
 rcases x1 with _|p4
 replace hm:=a9i hm
 apply vb hm<;>intro _ hm
 cases hm
 exact c8a (c7Y _)
 refine cy hm (L6 thing) fun x6 hm=> ?_
 apply vb hm<;>intro _ hm
 cases hm
 exact c8a (c7Y _)
 refine cy hm (o7 moment) fun x9 hm=> ?_
 apply vb hm<;>intro _ hm
 cases hm
 exact c8a (c7Y _)
 cases hm
 replace hm:=a8G hm
 apply vb hm<;>intro _ hm
 cases hm
 exact c8a (c7Y _)
 refine cy hm (L6 thing) fun x13 hm=> ?_
 apply vb hm<;>intro _ hm
 cases hm
 exact c8a (c7Y _)
 refine cy hm (o7 moment) fun x16 hm=> ?_
 apply vb hm<;>intro _ hm
 cases hm
 exact c8a (c7Y _)
 refine cy hm (a8r p4 thing moment) fun x19 hm=> ?_
 cases hm
 exact c8a (c7Y _)
def V3 (x:List Int):Option (List Int):=gd (x.length<4611686018427387904) (some (a7J x))
theorem a6q (x r:List Int) (hm:V3 x=some r):c0f Tryz.prog 99 1 x.length (x.flatMap cI) 3 [] r.length (r.flatMap cI):=by
 obtain⟨hg,hm⟩:=n9 hm
 cases hm
 exact b9P c1e x 3 hg
def a2S (thing:Int) (from_:Int) (p4:I3):(Int×(List Int))→Option (Sum (Int×(List Int)) (Int×(List Int))):=fun(v34,v35)=>
 if(decide (v34<(p4.Station.Now.Leases.length:Int)))=true then
  Option.bind (idx p4.Station.Now.Leases v34) fun e42=>
  if(e42.Thing==thing)=true then
   if(decide (e42.Until>from_))=true then
    gd ((v35.length+([e42.Until]:List Int).length)*8≤140737488355328∧v35.length+([e42.Until]:List Int).length≤9223372036854775807)<|
    some (.inl ((W (v34+1)),(v35++([e42.Until]:List Int))))
   else
    some (.inl ((W (v34+1)),v35))
  else
   some (.inl ((W (v34+1)),v35))
 else
  some (.inr (v34,v35))
def a3a (thing:Int) (from_:Int) (until_:Int) (p4:I3) (x49:(List Int)):Int→Option (Sum Int (Sum Int (Int×Int))):=fun v61=>
 if(decide (v61<(x49.length:Int)))=true then
  Option.bind (idx x49 v61) fun e74=>
  Option.bind (idx x49 v61) fun e76=>
  Option.bind (j6 (W ((W (e76+until_))-from_))) fun x78=>
  if x78=true then
   Option.bind (a0z p4 (⟨0,thing,0,e76,(W ((W (e76+until_))-from_))⟩:c0)) fun x81=>
   if(!x81)=true then
    some (.inr (.inr (e76,0)))
   else
    some (.inl (W (v61+1)))
  else
   some (.inl (W (v61+1)))
 else
  some (.inr (.inl v61))
def a1E (x:a8) (thing:Int) (from_:Int) (until_:Int):Option (Int×Int):=
 Option.bind (S9 x) fun⟨x1,x2⟩=>
 b2G x1 (
  if(x2 !=0)=true then
   some (0,x2)
  else
   Option.bind (C8 thing) fun x6=>
   if(!x6)=true then
    some (0,1)
   else
    Option.bind (j6 from_) fun x9=>
    if(!x9)=true then
     some (0,95)
    else
     Option.bind (j6 until_) fun x12=>
     if(!x12)=true then
      some (0,95)
     else
      none) fun p4=>
 if(x2 !=0)=true then
  some (0,x2)
 else
  Option.bind (C8 thing) fun x16=>
  if(!x16)=true then
   some (0,1)
  else
   Option.bind (j6 from_) fun x19=>
   if(!x19)=true then
    some (0,95)
   else
    Option.bind (j6 until_) fun x22=>
    if(!x22)=true then
     some (0,95)
    else
     Option.bind (j4 thing) fun x25=>
     if(x25 !=p4.Station.Me)=true then
      some (0,92)
     else
      if(decide (from_>until_))=true then
       some (0,95)
      else
       Option.bind (s9 (a2S thing from_ p4) (0,([from_]:List Int))) fun(v46,v47)=>
       Option.bind (V3 v47) fun x49=>
       Option.bind (s9 (a3a thing from_ until_ p4 x49) 0) fun e=>
       match e with
       | .inl v84=>
        some (0,3)
       | .inr rr85=>
        some rr85
theorem a7G (x:a8) (thing:Int) (from_:Int) (until_:Int) (r:(Int×Int)) (hm:a1E x thing from_ until_=some r):l8 Tryz.prog 42 [.agg (a8.c x),DI thing,DI from_,DI until_] (fun x=>x= .tup [DI r.1,DI r.2]):=by
 refine zy c6O [99,106,149,210,211,220] [] [] Tryz.func42 rfl ?_
 refine cy hm (a3g x) ?_
 rintro⟨x1,x2⟩ hm
 rcases x1 with _|p4
 replace hm:=a9i hm
 apply vb hm<;>intro _ hm
 cases hm
 exact c8a (c7Y _)
 refine cy hm (L6 thing) fun x6 hm=> ?_
 apply vb hm<;>intro _ hm
 cases hm
 exact c8a (c7Y _)
 refine cy hm (o7 from_) fun x9 hm=> ?_
 apply vb hm<;>intro _ hm
 cases hm
 exact c8a (c7Y _)
 refine cy hm (o7 until_) fun x12 hm=> ?_
 apply vb hm<;>intro _ hm
 cases hm
 exact c8a (c7Y _)
 refine⟨rfl, ?_⟩
 cases hm
 replace hm:=a8G hm
 apply vb hm<;>intro _ hm
 cases hm
 exact c8a (c7Y _)
 refine cy hm (L6 thing) fun x16 hm=> ?_
 apply vb hm<;>intro _ hm
 cases hm
 exact c8a (c7Y _)
 refine cy hm (o7 from_) fun x19 hm=> ?_
 apply vb hm<;>intro _ hm
 cases hm
 exact c8a (c7Y _)
 refine cy hm (o7 until_) fun x22 hm=> ?_
 apply vb hm<;>intro _ hm
 cases hm
 exact c8a (c7Y _)
 refine⟨rfl, ?_⟩
 refine cy hm (m8 thing) fun x25 hm=> ?_
 apply vb hm<;>intro _ hm
 cases hm
 exact c8a (c7Y _)
 apply vb hm<;>intro _ hm
 cases hm
 exact c8a (c7Y _)
 refine⟨([from_]:List Int).flatMap cI,([from_]:List Int).length,⟨rfl,rfl⟩, ?_⟩
 obtain⟨ev101,he,hk102⟩:=b9 hm
 refine c8b (a2S thing from_ p4) (fun(v34,v35)=>⟨[(0, .agg (a8.c x)),(1,DI thing),(2,DI from_),(3,DI until_),(4, .own 0 0),(8,DI 0),(9,DI 0),(10, .ptr (I3.c p4) 0),(11,DI x2),(12, .row 1 1),(23,DB (x2 !=0)),(27,DB (!x16)),(31,DB (!x22)),(40,DB (x25 !=p4.Station.Me)),(49,DB (decide (from_>until_))),(60,lD 5 p4.Station.Now.Leases c0.c),(61,DI (p4.Station.Now.Leases.length:Int)),(62,DI v34)], [(0, .blk (a8.c x) 30),(1,rE 1 v35 cI 3)],2⟩) (0,([from_]:List Int)) (i4.of 2 rfl (tA rfl) ⟨hR rfl,hW rfl,trivial⟩) he ?_
 rintro fu103 ⟨v34,v35⟩ b hm hi104
 apply vb hm<;>intro _ hm
 obtain⟨e106,hx107,hm⟩:=b9 hm
 refine⟨_,q8 (fun _=>rfl) hx107, ?_⟩
 apply vb hm<;>intro _ hm
 apply vb hm<;>intro _ hm
 refine⟨([e106.Until]:List Int).flatMap cI,([e106.Until]:List Int).length,⟨rfl,rfl⟩, ?_⟩
 obtain⟨hg,hm⟩:=n9 hm
 refine⟨hg,_,_,O1 (c:=cI) (l:=(v35:List Int)) (r:=(([e106.Until]:List Int):List Int)), ?_⟩
 cases hm
 exact⟨(_,((W (v34+1)),(v35++([e106.Until]:List Int)))),i4.of 2 rfl (tA rfl) ⟨hR rfl,hW rfl,trivial⟩,hi104,Nat.lt_succ_self _⟩
 cases hm
 exact⟨(_,((W (v34+1)),v35)),i4.of 2 rfl (tA rfl) ⟨hR rfl,hW rfl,trivial⟩,hi104,Nat.lt_succ_self _⟩
 cases hm
 exact⟨(_,((W (v34+1)),v35)),i4.of 2 rfl (tA rfl) ⟨hR rfl,hW rfl,trivial⟩,hi104,Nat.lt_succ_self _⟩
 cases hm
 cases hi104
 have hm:=hk102
 obtain⟨x111,hx110,hm⟩:=b9 hm
 refine .inr (c0G.mk ⟨_,_,_,_,_,_,rfl,a6q v35 _ hx110, ?_⟩)
 obtain⟨ev148,he,hk149⟩:=b9 hm
 refine c8b (a3a thing from_ until_ p4 x111) (fun v123=>⟨[(0, .agg (a8.c x)),(1,DI thing),(2,DI from_),(3,DI until_),(4, .own 0 0),(8,DI 0),(9,DI 0),(10, .ptr (I3.c p4) 0),(11,DI x2),(12, .row 1 1),(23,DB (x2 !=0)),(27,DB (!x16)),(31,DB (!x22)),(40,DB (x25 !=p4.Station.Me)),(49,DB (decide (from_>until_))),(60,lD 5 p4.Station.Now.Leases c0.c),(61,DI (p4.Station.Now.Leases.length:Int)),(62,DI v34),(63,DB (decide (v34<(p4.Station.Now.Leases.length:Int)))),(84, .row 1 1),(85,DI (x111.length:Int)),(86,DI v123)], [(0, .blk (a8.c x) 30),(1,rE 1 x111 cI 3)],2⟩) 0 (i4.of 2 rfl (tA rfl) ⟨hR rfl,hW rfl,trivial⟩) he ?_
 rintro fu150 v123 b hm hi151
 apply vb hm<;>intro _ hm
 obtain⟨e153,hx154,hm⟩:=b9 hm
 refine⟨E1 hx154, ?_⟩
 obtain⟨e155,hx156,hm⟩:=b9 hm
 refine⟨_,A5 (fun _=>rfl) hx156, ?_⟩
 refine cy hm (o7 (W ((W (e155+until_))-from_))) fun x157 hm=> ?_
 apply vb hm<;>intro _ hm
 refine cy hm (a4o p4 ((⟨0,thing,0,e155,(W ((W (e155+until_))-from_))⟩:c0))) fun x160 hm=> ?_
 apply vb hm<;>intro _ hm
 cases hm
 cases hi151
 have hm:=hk149
 cases hm
 exact c8a (c7Y _)
 cases hm
 exact⟨(_,(W (v123+1))),i4.of 2 rfl (tA rfl) ⟨hR rfl,hW rfl,trivial⟩,hi151,Nat.lt_succ_self _⟩
 cases hm
 exact⟨(_,(W (v123+1))),i4.of 2 rfl (tA rfl) ⟨hR rfl,hW rfl,trivial⟩,hi151,Nat.lt_succ_self _⟩
 cases hm
 cases hi151
 have hm:=hk149
 cases hm
 exact c8a (c7Y _)
def P5 (s:(List d9)) (i:Int) (v:(List d9)):Option (List d9):=
 gd (0≤i∧i.toNat≤s.length)<|
 if((v.length:Int)==0)=true then
  some s
 else
  if(i==(s.length:Int))=true then
   gd ((s.length+v.length)*48≤140737488355328∧s.length+v.length≤9223372036854775807)<|
   some (s++v)
  else
   gd (0≤i∧i.toNat<s.length∧0<v.length∧(s.length+v.length)*48≤140737488355328∧s.length+v.length≤9223372036854775807) (some (s.take i.toNat++v++s.drop i.toNat))
theorem a2F (s:(List d9)) (i:Int) (v:(List d9)) (r:(List d9)) (hm:P5 s i v=some r):b2z Tryz.prog 149 6 s.length (s.flatMap d9.c) 108 [DI i,lD 6 v d9.c] 6 r.length (r.flatMap d9.c):=by
 obtain⟨hg0,hm⟩:=n9 hm
 refine a7r (X:=⟨Tryz.prog,tt,Tryz.f149.ntmps, [], [], [], [], [], []⟩) (t:=23) (tI:=3) (tB:=4) (ov:=181) (ty:=108) (args:= [lD 6 v d9.c]) pok Tryz.func149 rfl rfl .mk .mk (Nat.le_of_ble_eq_true rfl) hg0 rfl rfl rfl rfl rfl rfl (by kernel_rfl) ⟨⟨_,4,Tryz.func181,by kernel_rfl,by kernel_rfl,by kernel_rfl,by kernel_rfl⟩⟩ (by decide) ?_
 apply vb hm<;>intro _ hm
 cases hm
 exact⟨rfl,rfl⟩
 apply vb hm<;>intro _ hm
 obtain⟨hg,hm⟩:=n9 hm
 refine⟨hg,_,_,O1 (c:=d9.c) (l:=(s:List d9)) (r:=(v:List d9)), ?_⟩
 cases hm
 exact⟨rfl,rfl⟩
 obtain⟨hg,hm⟩:=n9 hm
 cases hm
 exact b7X (fun _=>rfl) hg
def B4 (x:(List d9)) (target:d9):(Int×Int)→Option (Sum (Int×Int) (Int×Int)):=fun(i7,j8)=>
 if(decide (i7<j8))=true then
  Option.bind (idx x (W ((IntKind.u64.wrap (W (i7+j8))).fdiv (2^(min (1:Int).toNat IntKind.u64.bits))))) fun e16=>
  Option.bind (L1 e16 target) fun x18=>
  if(decide (x18<0))=true then
   some (.inl ((W ((W ((IntKind.u64.wrap (W (i7+j8))).fdiv (2^(min (1:Int).toNat IntKind.u64.bits))))+1)),j8))
  else
   some (.inl (i7,(W ((IntKind.u64.wrap (W (i7+j8))).fdiv (2^(min (1:Int).toNat IntKind.u64.bits))))))
 else
  some (.inr (i7,j8))
def o8 (x:(List d9)) (target:d9):Option (Int×Bool):=
 Option.bind (s9 (B4 x target) (0,(x.length:Int))) fun(i21,j22)=>
 if(decide (i21<(x.length:Int)))=true then
  Option.bind (idx x i21) fun e24=>
  Option.bind (L1 e24 target) fun x26=>
  some (i21,(x26==0))
 else
  some (i21,false)
theorem M5 (x:(List d9)) (target:d9) (r:(Int×Bool)) (hm:o8 x target=some r):l8 Tryz.prog 180 [lD 6 x d9.c, .agg (d9.c target), .fn 89 [] []] (fun x=>x= .tup [DI r.1,DB r.2]):=by
 refine zy c5q [] [] [] Tryz.func180 rfl ?_
 obtain⟨ev28,he,hk29⟩:=b9 hm
 refine c8b (B4 x target) (fun(i7,j8)=>⟨[(0,lD 6 x d9.c),(1, .agg (d9.c target)),(2, .fn 89 [] []),(4, .own 0 0),(6,DI 0),(7,DB false),(8,DI (x.length:Int)),(9,DI i7),(10,DI j8)], [(0, .blk (d9.c target) 108)],1⟩) (0,(x.length:Int)) (i4.of 1 rfl (tA rfl) ⟨hR rfl,trivial⟩) he ?_
 rintro fu30 ⟨i7,j8⟩ b hm hi31
 apply vb hm<;>intro _ hm
 refine⟨by decide, ?_⟩
 refine⟨rfl, ?_⟩
 obtain⟨e33,hx34,hm⟩:=b9 hm
 refine⟨_,q8 (fun _=>rfl) hx34, ?_⟩
 refine cy hm (a0W e33 target) fun x35 hm=> ?_
 apply vb hm<;>intro _ hm
 cases hm
 exact⟨(_,((W ((W ((IntKind.u64.wrap (W (i7+j8))).fdiv (2^(min (1:Int).toNat IntKind.u64.bits))))+1)),j8)),i4.of 1 rfl (tA rfl) ⟨hR rfl,trivial⟩,hi31,Nat.lt_succ_self _⟩
 cases hm
 exact⟨(_,(i7,(W ((IntKind.u64.wrap (W (i7+j8))).fdiv (2^(min (1:Int).toNat IntKind.u64.bits)))))),i4.of 1 rfl (tA rfl) ⟨hR rfl,trivial⟩,hi31,Nat.lt_succ_self _⟩
 cases hm
 cases hi31
 have hm:=hk29
 refine⟨rfl, ?_⟩
 apply vb hm<;>intro _ hm
 obtain⟨e39,hx40,hm⟩:=b9 hm
 refine⟨_,q8 (fun _=>rfl) hx40, ?_⟩
 refine cy hm (a0W e39 target) fun x41 hm=> ?_
 cases hm
 exact c8a (c7Y _)
 cases hm
 exact c8a (c7Y _)
def B7 (l:(List d9)) (x:d9):Option (Int×Bool):=
 Option.bind (o8 l x) fun⟨x1,x2⟩=>
 some (x1,x2)
theorem a0q (l:(List d9)) (x:d9) (r:(Int×Bool)) (hm:B7 l x=some r):l8 Tryz.prog 148 [lD 6 l d9.c, .agg (d9.c x), .fn 89 [] []] (fun x=>x= .tup [DI r.1,DB r.2]):=by
 refine zn Tryz.func148 rfl ?_
 refine cy hm (M5 l x) ?_
 rintro⟨x1,x2⟩ hm
 cases hm
 exact c8a (c7Y _)
def a0g (night:Int) (value:Int) (v10:(List d9)) (x19:Int) (x20:Int):Option (Sum ((List d9)×Int) Unit):=
 Option.bind (B7 v10 (⟨night,(W ((W (6*(W (x20+1))))+x19)),value,0,0,false⟩:d9)) fun⟨x54,x55⟩=>
 if x55=true then
  some (.inl (v10,x54))
 else
  if((v10.length:Int)==12)=true then
   some (.inr ())
  else
   Option.bind (P5 v10 x54 ([(⟨night,(W ((W (6*(W (x20+1))))+x19)),value,0,0,false⟩:d9)]:List d9)) fun x59=>
   some (.inl (x59,x54))
end Go.Proofs.YtcedmbakcchkiaaGreatDoor
