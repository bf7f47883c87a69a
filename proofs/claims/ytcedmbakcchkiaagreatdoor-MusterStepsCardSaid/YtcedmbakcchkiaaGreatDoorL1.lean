/- Functions of the program as pure Lean functions, and that calls do what these say. Printed by a program out of the given form. -/
import Derived.Test.YtcedmbakcchkiaaGreatDoorL0
set_option linter.unusedVariables false
set_option linter.unusedSimpArgs false
namespace Go.Proofs.YtcedmbakcchkiaaGreatDoor
open Go Go.RowKit Go.Sx
set_option maxRecDepth 100000
set_option maxHeartbeats 20000000
def i6 (n:Int) (lo:Int) (hi:Int):Option Bool:=
 if(decide (lo≤n))=true then
  some (decide (n≤hi))
 else
  some false
theorem j9 (n:Int) (lo:Int) (hi:Int) (r:Bool) (hm:i6 n lo hi=some r):d7 Tryz.prog 117 [DI n,DI lo,DI hi] (fun x=>x=DB r):=by
 refine zn Tryz.func117 rfl ?_
 apply vb hm<;>intro _ hm
 exact hm.rr
 exact hm.rr
def u2 (n:Int):Option Bool:=
 Option.bind (i6 n 0 5) fun x1=>
 some x1
theorem w7 (n:Int) (r:Bool) (hm:u2 n=some r):d7 Tryz.prog 64 [DI n] (fun x=>x=DB r):=by
 refine zn Tryz.func64 rfl ?_
 refine cy hm (j9 n 0 5) fun x1 hm=> ?_
 exact hm.rr
def a0R (x:Int):Option Bool:=
 some (x !=x)
theorem a5L (x:Int) (r:Bool) (hm:a0R x=some r):d7 Tryz.prog 183 [DI x] (fun x=>x=DB r):=by
 refine zn Tryz.func183 rfl ?_
 exact hm.rr
def E6 (x:Int) (y:Int):Option Int:=
 Option.bind (a0R x) fun x1=>
 Option.bind (a0R y) fun x3=>
 if x1=true then
  if x3=true then
   some 0
  else
   some (-1)
 else
  if x3=true then
   some 1
  else
   if(decide (x<y))=true then
    some (-1)
   else
    if(decide (x>y))=true then
     some 1
    else
     some 0
theorem M3 (x:Int) (y:Int) (r:Int) (hm:E6 x y=some r):d7 Tryz.prog 150 [DI x,DI y] (fun x=>x=DI r):=by
 refine zn Tryz.func150 rfl ?_
 refine cy hm (a5L x) fun x1 hm=> ?_
 refine cy hm (a5L y) fun x3 hm=> ?_
 apply vb hm<;>intro _ hm
 apply vb hm<;>intro _ hm
 exact hm.rr
 exact hm.rr
 apply vb hm<;>intro _ hm
 exact hm.rr
 apply vb hm<;>intro _ hm
 exact hm.rr
 apply vb hm<;>intro _ hm
 exact hm.rr
 exact hm.rr
def G4 (a:b9) (b_:b9):Option Int:=
 Option.bind (E6 a.Night b_.Night) fun x1=>
 some x1
theorem a0k (a:b9) (b_:b9) (r:Int) (hm:G4 a b_=some r):d7 Tryz.prog 89 [.agg (b9.c a), .agg (b9.c b_)] (fun x=>x=DI r):=by
 refine zn Tryz.func89 rfl ?_
 refine cy hm (M3 a.Night b_.Night) fun x1 hm=> ?_
 exact hm.rr
def X9 (vals:(List Int)):Int→Option (Sum Int (Sum Int Int)):=fun v5=>
 if(decide (v5<(vals.length:Int)))=true then
  Option.bind (idx vals v5) fun e11=>
  if(e11 !=0)=true then
   some (.inr (.inr e11))
  else
   some (.inl (W (v5+1)))
 else
  some (.inr (.inl v5))
def a1O (vals:(List Int)):Option Int:=
 Option.bind (l8 (X9 vals) 0) fun e=>
 match e with
 | .inl v14=>
  some 0
 | .inr rr15=>
  some rr15
theorem a8Y (vals:(List Int)) (r:Int) (hm:a1O vals=some r):d7 Tryz.prog 153 [lD 1 vals cI] (fun x=>x=DI r):=by
 refine zn Tryz.func153 rfl ?_
 obtain⟨ev16,he,hk17⟩:=b5 hm
 refine u4.ofL (X9 vals) (fun v5=>⟨[(0,lD 1 vals cI),(2,DI 0),(3,DI 0),(6,lD 1 vals cI),(7,DI (vals.length:Int)),(8,DI v5)], [],0⟩) 0 (c5.of 0 rfl (tA rfl) trivial) he ?_
 rintro fu18 v5 b hm hi19
 apply vb hm<;>intro _ hm
 obtain⟨e21,hx22,hm⟩:=b5 hm
 refine⟨_,d9 (fun _=>rfl) hx22, ?_⟩
 apply vb hm<;>intro _ hm
 cases hm
 cases hi19
 have hm:=hk17
 exact hm.rr
 cases hm
 exact⟨(_,(W (v5+1))),c5.of 0 rfl (tA rfl) trivial,hi19,Nat.lt_succ_self _⟩
 cases hm
 cases hi19
 have hm:=hk17
 exact hm.rr
def E3 (a:b4) (b_:b4):Option Int:=
 Option.bind (E6 a.Owner b_.Owner) fun x1=>
 Option.bind (E6 a.No b_.No) fun x3=>
 Option.bind (a1O ([x1,x3]:List Int)) fun x5=>
 some x5
theorem Y7 (a:b4) (b_:b4) (r:Int) (hm:E3 a b_=some r):d7 Tryz.prog 95 [.agg (b4.c a), .agg (b4.c b_)] (fun x=>x=DI r):=by
 refine zy c5P [] [] [] Tryz.func95 rfl ?_
 refine⟨rfl, ?_⟩
 refine cy hm (M3 a.Owner b_.Owner) fun x1 hm=> ?_
 refine cy hm (M3 a.No b_.No) fun x3 hm=> ?_
 refine⟨([x1,x3]:List Int).flatMap cI,([x1,x3]:List Int).length,⟨rfl,rfl⟩, ?_⟩
 refine co hm (a8Y (([x1,x3]:List Int))) fun x5 hm=> ?_
 exact hm.rr
def d6 (n:Int):Option Int:=
 some (n.tmod 6)
theorem j2 (n:Int) (r:Int) (hm:d6 n=some r):d7 Tryz.prog 71 [DI n] (fun x=>x=DI r):=by
 refine zn Tryz.func71 rfl ?_
 refine⟨by decide, ?_⟩
 exact hm.rr
def u0 (n:Int):Option Bool:=
 Option.bind (i6 n 0 100000) fun x1=>
 some x1
theorem w5 (n:Int) (r:Bool) (hm:u0 n=some r):d7 Tryz.prog 86 [DI n] (fun x=>x=DB r):=by
 refine zn Tryz.func86 rfl ?_
 refine cy hm (j9 n 0 100000) fun x1 hm=> ?_
 exact hm.rr
def j1 (n:Int):Option Bool:=
 Option.bind (i6 n 1 1000000) fun x1=>
 some x1
theorem l7 (n:Int) (r:Bool) (hm:j1 n=some r):d7 Tryz.prog 87 [DI n] (fun x=>x=DB r):=by
 refine zn Tryz.func87 rfl ?_
 refine cy hm (j9 n 1 1000000) fun x1 hm=> ?_
 exact hm.rr
def a1y (x:Int):Option Int:=
 some (W ((BitVec.ofInt IntKind.i64.bits (W (IntKind.u64.wrap ((IntKind.u64.wrap ((IntKind.u64.wrap ((IntKind.u64.wrap ((BitVec.ofInt IntKind.u64.bits (IntKind.u64.wrap (((IntKind.u64.wrap ((IntKind.u64.wrap ((BitVec.ofInt IntKind.u64.bits ((IntKind.u64.wrap ((IntKind.u64.wrap ((BitVec.ofInt IntKind.u64.bits (x.fdiv (2^(min (1:Int).toNat IntKind.u64.bits)))&&&BitVec.ofInt IntKind.u64.bits 6148914691236517205).toNat:Int))+(IntKind.u64.wrap ((BitVec.ofInt IntKind.u64.bits x&&&BitVec.ofInt IntKind.u64.bits 6148914691236517205).toNat:Int)))).fdiv (2^(min (2:Int).toNat IntKind.u64.bits)))&&&BitVec.ofInt IntKind.u64.bits 3689348814741910323).toNat:Int))+(IntKind.u64.wrap ((BitVec.ofInt IntKind.u64.bits (IntKind.u64.wrap ((IntKind.u64.wrap ((BitVec.ofInt IntKind.u64.bits (x.fdiv (2^(min (1:Int).toNat IntKind.u64.bits)))&&&BitVec.ofInt IntKind.u64.bits 6148914691236517205).toNat:Int))+(IntKind.u64.wrap ((BitVec.ofInt IntKind.u64.bits x&&&BitVec.ofInt IntKind.u64.bits 6148914691236517205).toNat:Int))))&&&BitVec.ofInt IntKind.u64.bits 3689348814741910323).toNat:Int)))).fdiv (2^(min (4:Int).toNat IntKind.u64.bits)))+(IntKind.u64.wrap ((IntKind.u64.wrap ((BitVec.ofInt IntKind.u64.bits ((IntKind.u64.wrap ((IntKind.u64.wrap ((BitVec.ofInt IntKind.u64.bits (x.fdiv (2^(min (1:Int).toNat IntKind.u64.bits)))&&&BitVec.ofInt IntKind.u64.bits 6148914691236517205).toNat:Int))+(IntKind.u64.wrap ((BitVec.ofInt IntKind.u64.bits x&&&BitVec.ofInt IntKind.u64.bits 6148914691236517205).toNat:Int)))).fdiv (2^(min (2:Int).toNat IntKind.u64.bits)))&&&BitVec.ofInt IntKind.u64.bits 3689348814741910323).toNat:Int))+(IntKind.u64.wrap ((BitVec.ofInt IntKind.u64.bits (IntKind.u64.wrap ((IntKind.u64.wrap ((BitVec.ofInt IntKind.u64.bits (x.fdiv (2^(min (1:Int).toNat IntKind.u64.bits)))&&&BitVec.ofInt IntKind.u64.bits 6148914691236517205).toNat:Int))+(IntKind.u64.wrap ((BitVec.ofInt IntKind.u64.bits x&&&BitVec.ofInt IntKind.u64.bits 6148914691236517205).toNat:Int))))&&&BitVec.ofInt IntKind.u64.bits 3689348814741910323).toNat:Int))))))&&&BitVec.ofInt IntKind.u64.bits 1085102592571150095).toNat:Int))+((IntKind.u64.wrap ((BitVec.ofInt IntKind.u64.bits (IntKind.u64.wrap (((IntKind.u64.wrap ((IntKind.u64.wrap ((BitVec.ofInt IntKind.u64.bits ((IntKind.u64.wrap ((IntKind.u64.wrap ((BitVec.ofInt IntKind.u64.bits (x.fdiv (2^(min (1:Int).toNat IntKind.u64.bits)))&&&BitVec.ofInt IntKind.u64.bits 6148914691236517205).toNat:Int))+(IntKind.u64.wrap ((BitVec.ofInt IntKind.u64.bits x&&&BitVec.ofInt IntKind.u64.bits 6148914691236517205).toNat:Int)))).fdiv (2^(min (2:Int).toNat IntKind.u64.bits)))&&&BitVec.ofInt IntKind.u64.bits 3689348814741910323).toNat:Int))+(IntKind.u64.wrap ((BitVec.ofInt IntKind.u64.bits (IntKind.u64.wrap ((IntKind.u64.wrap ((BitVec.ofInt IntKind.u64.bits (x.fdiv (2^(min (1:Int).toNat IntKind.u64.bits)))&&&BitVec.ofInt IntKind.u64.bits 6148914691236517205).toNat:Int))+(IntKind.u64.wrap ((BitVec.ofInt IntKind.u64.bits x&&&BitVec.ofInt IntKind.u64.bits 6148914691236517205).toNat:Int))))&&&BitVec.ofInt IntKind.u64.bits 3689348814741910323).toNat:Int)))).fdiv (2^(min (4:Int).toNat IntKind.u64.bits)))+(IntKind.u64.wrap ((IntKind.u64.wrap ((BitVec.ofInt IntKind.u64.bits ((IntKind.u64.wrap ((IntKind.u64.wrap ((BitVec.ofInt IntKind.u64.bits (x.fdiv (2^(min (1:Int).toNat IntKind.u64.bits)))&&&BitVec.ofInt IntKind.u64.bits 6148914691236517205).toNat:Int))+(IntKind.u64.wrap ((BitVec.ofInt IntKind.u64.bits x&&&BitVec.ofInt IntKind.u64.bits 6148914691236517205).toNat:Int)))).fdiv (2^(min (2:Int).toNat IntKind.u64.bits)))&&&BitVec.ofInt IntKind.u64.bits 3689348814741910323).toNat:Int))+(IntKind.u64.wrap ((BitVec.ofInt IntKind.u64.bits (IntKind.u64.wrap ((IntKind.u64.wrap ((BitVec.ofInt IntKind.u64.bits (x.fdiv (2^(min (1:Int).toNat IntKind.u64.bits)))&&&BitVec.ofInt IntKind.u64.bits 6148914691236517205).toNat:Int))+(IntKind.u64.wrap ((BitVec.ofInt IntKind.u64.bits x&&&BitVec.ofInt IntKind.u64.bits 6148914691236517205).toNat:Int))))&&&BitVec.ofInt IntKind.u64.bits 3689348814741910323).toNat:Int))))))&&&BitVec.ofInt IntKind.u64.bits 1085102592571150095).toNat:Int)).fdiv (2^(min (8:Int).toNat IntKind.u64.bits)))))+((IntKind.u64.wrap ((IntKind.u64.wrap ((BitVec.ofInt IntKind.u64.bits (IntKind.u64.wrap (((IntKind.u64.wrap ((IntKind.u64.wrap ((BitVec.ofInt IntKind.u64.bits ((IntKind.u64.wrap ((IntKind.u64.wrap ((BitVec.ofInt IntKind.u64.bits (x.fdiv (2^(min (1:Int).toNat IntKind.u64.bits)))&&&BitVec.ofInt IntKind.u64.bits 6148914691236517205).toNat:Int))+(IntKind.u64.wrap ((BitVec.ofInt IntKind.u64.bits x&&&BitVec.ofInt IntKind.u64.bits 6148914691236517205).toNat:Int)))).fdiv (2^(min (2:Int).toNat IntKind.u64.bits)))&&&BitVec.ofInt IntKind.u64.bits 3689348814741910323).toNat:Int))+(IntKind.u64.wrap ((BitVec.ofInt IntKind.u64.bits (IntKind.u64.wrap ((IntKind.u64.wrap ((BitVec.ofInt IntKind.u64.bits (x.fdiv (2^(min (1:Int).toNat IntKind.u64.bits)))&&&BitVec.ofInt IntKind.u64.bits 6148914691236517205).toNat:Int))+(IntKind.u64.wrap ((BitVec.ofInt IntKind.u64.bits x&&&BitVec.ofInt IntKind.u64.bits 6148914691236517205).toNat:Int))))&&&BitVec.ofInt IntKind.u64.bits 3689348814741910323).toNat:Int)))).fdiv (2^(min (4:Int).toNat IntKind.u64.bits)))+(IntKind.u64.wrap ((IntKind.u64.wrap ((BitVec.ofInt IntKind.u64.bits ((IntKind.u64.wrap ((IntKind.u64.wrap ((BitVec.ofInt IntKind.u64.bits (x.fdiv (2^(min (1:Int).toNat IntKind.u64.bits)))&&&BitVec.ofInt IntKind.u64.bits 6148914691236517205).toNat:Int))+(IntKind.u64.wrap ((BitVec.ofInt IntKind.u64.bits x&&&BitVec.ofInt IntKind.u64.bits 6148914691236517205).toNat:Int)))).fdiv (2^(min (2:Int).toNat IntKind.u64.bits)))&&&BitVec.ofInt IntKind.u64.bits 3689348814741910323).toNat:Int))+(IntKind.u64.wrap ((BitVec.ofInt IntKind.u64.bits (IntKind.u64.wrap ((IntKind.u64.wrap ((BitVec.ofInt IntKind.u64.bits (x.fdiv (2^(min (1:Int).toNat IntKind.u64.bits)))&&&BitVec.ofInt IntKind.u64.bits 6148914691236517205).toNat:Int))+(IntKind.u64.wrap ((BitVec.ofInt IntKind.u64.bits x&&&BitVec.ofInt IntKind.u64.bits 6148914691236517205).toNat:Int))))&&&BitVec.ofInt IntKind.u64.bits 3689348814741910323).toNat:Int))))))&&&BitVec.ofInt IntKind.u64.bits 1085102592571150095).toNat:Int))+((IntKind.u64.wrap ((BitVec.ofInt IntKind.u64.bits (IntKind.u64.wrap (((IntKind.u64.wrap ((IntKind.u64.wrap ((BitVec.ofInt IntKind.u64.bits ((IntKind.u64.wrap ((IntKind.u64.wrap ((BitVec.ofInt IntKind.u64.bits (x.fdiv (2^(min (1:Int).toNat IntKind.u64.bits)))&&&BitVec.ofInt IntKind.u64.bits 6148914691236517205).toNat:Int))+(IntKind.u64.wrap ((BitVec.ofInt IntKind.u64.bits x&&&BitVec.ofInt IntKind.u64.bits 6148914691236517205).toNat:Int)))).fdiv (2^(min (2:Int).toNat IntKind.u64.bits)))&&&BitVec.ofInt IntKind.u64.bits 3689348814741910323).toNat:Int))+(IntKind.u64.wrap ((BitVec.ofInt IntKind.u64.bits (IntKind.u64.wrap ((IntKind.u64.wrap ((BitVec.ofInt IntKind.u64.bits (x.fdiv (2^(min (1:Int).toNat IntKind.u64.bits)))&&&BitVec.ofInt IntKind.u64.bits 6148914691236517205).toNat:Int))+(IntKind.u64.wrap ((BitVec.ofInt IntKind.u64.bits x&&&BitVec.ofInt IntKind.u64.bits 6148914691236517205).toNat:Int))))&&&BitVec.ofInt IntKind.u64.bits 3689348814741910323).toNat:Int)))).fdiv (2^(min (4:Int).toNat IntKind.u64.bits)))+(IntKind.u64.wrap ((IntKind.u64.wrap ((BitVec.ofInt IntKind.u64.bits ((IntKind.u64.wrap ((IntKind.u64.wrap ((BitVec.ofInt IntKind.u64.bits (x.fdiv (2^(min (1:Int).toNat IntKind.u64.bits)))&&&BitVec.ofInt IntKind.u64.bits 6148914691236517205).toNat:Int))+(IntKind.u64.wrap ((BitVec.ofInt IntKind.u64.bits x&&&BitVec.ofInt IntKind.u64.bits 6148914691236517205).toNat:Int)))).fdiv (2^(min (2:Int).toNat IntKind.u64.bits)))&&&BitVec.ofInt IntKind.u64.bits 3689348814741910323).toNat:Int))+(IntKind.u64.wrap ((BitVec.ofInt IntKind.u64.bits (IntKind.u64.wrap ((IntKind.u64.wrap ((BitVec.ofInt IntKind.u64.bits (x.fdiv (2^(min (1:Int).toNat IntKind.u64.bits)))&&&BitVec.ofInt IntKind.u64.bits 6148914691236517205).toNat:Int))+(IntKind.u64.wrap ((BitVec.ofInt IntKind.u64.bits x&&&BitVec.ofInt IntKind.u64.bits 6148914691236517205).toNat:Int))))&&&BitVec.ofInt IntKind.u64.bits 3689348814741910323).toNat:Int))))))&&&BitVec.ofInt IntKind.u64.bits 1085102592571150095).toNat:Int)).fdiv (2^(min (8:Int).toNat IntKind.u64.bits))))).fdiv (2^(min (16:Int).toNat IntKind.u64.bits)))))+((IntKind.u64.wrap ((IntKind.u64.wrap ((IntKind.u64.wrap ((BitVec.ofInt IntKind.u64.bits (IntKind.u64.wrap (((IntKind.u64.wrap ((IntKind.u64.wrap ((BitVec.ofInt IntKind.u64.bits ((IntKind.u64.wrap ((IntKind.u64.wrap ((BitVec.ofInt IntKind.u64.bits (x.fdiv (2^(min (1:Int).toNat IntKind.u64.bits)))&&&BitVec.ofInt IntKind.u64.bits 6148914691236517205).toNat:Int))+(IntKind.u64.wrap ((BitVec.ofInt IntKind.u64.bits x&&&BitVec.ofInt IntKind.u64.bits 6148914691236517205).toNat:Int)))).fdiv (2^(min (2:Int).toNat IntKind.u64.bits)))&&&BitVec.ofInt IntKind.u64.bits 3689348814741910323).toNat:Int))+(IntKind.u64.wrap ((BitVec.ofInt IntKind.u64.bits (IntKind.u64.wrap ((IntKind.u64.wrap ((BitVec.ofInt IntKind.u64.bits (x.fdiv (2^(min (1:Int).toNat IntKind.u64.bits)))&&&BitVec.ofInt IntKind.u64.bits 6148914691236517205).toNat:Int))+(IntKind.u64.wrap ((BitVec.ofInt IntKind.u64.bits x&&&BitVec.ofInt IntKind.u64.bits 6148914691236517205).toNat:Int))))&&&BitVec.ofInt IntKind.u64.bits 3689348814741910323).toNat:Int)))).fdiv (2^(min (4:Int).toNat IntKind.u64.bits)))+(IntKind.u64.wrap ((IntKind.u64.wrap ((BitVec.ofInt IntKind.u64.bits ((IntKind.u64.wrap ((IntKind.u64.wrap ((BitVec.ofInt IntKind.u64.bits (x.fdiv (2^(min (1:Int).toNat IntKind.u64.bits)))&&&BitVec.ofInt IntKind.u64.bits 6148914691236517205).toNat:Int))+(IntKind.u64.wrap ((BitVec.ofInt IntKind.u64.bits x&&&BitVec.ofInt IntKind.u64.bits 6148914691236517205).toNat:Int)))).fdiv (2^(min (2:Int).toNat IntKind.u64.bits)))&&&BitVec.ofInt IntKind.u64.bits 3689348814741910323).toNat:Int))+(IntKind.u64.wrap ((BitVec.ofInt IntKind.u64.bits (IntKind.u64.wrap ((IntKind.u64.wrap ((BitVec.ofInt IntKind.u64.bits (x.fdiv (2^(min (1:Int).toNat IntKind.u64.bits)))&&&BitVec.ofInt IntKind.u64.bits 6148914691236517205).toNat:Int))+(IntKind.u64.wrap ((BitVec.ofInt IntKind.u64.bits x&&&BitVec.ofInt IntKind.u64.bits 6148914691236517205).toNat:Int))))&&&BitVec.ofInt IntKind.u64.bits 3689348814741910323).toNat:Int))))))&&&BitVec.ofInt IntKind.u64.bits 1085102592571150095).toNat:Int))+((IntKind.u64.wrap ((BitVec.ofInt IntKind.u64.bits (IntKind.u64.wrap (((IntKind.u64.wrap ((IntKind.u64.wrap ((BitVec.ofInt IntKind.u64.bits ((IntKind.u64.wrap ((IntKind.u64.wrap ((BitVec.ofInt IntKind.u64.bits (x.fdiv (2^(min (1:Int).toNat IntKind.u64.bits)))&&&BitVec.ofInt IntKind.u64.bits 6148914691236517205).toNat:Int))+(IntKind.u64.wrap ((BitVec.ofInt IntKind.u64.bits x&&&BitVec.ofInt IntKind.u64.bits 6148914691236517205).toNat:Int)))).fdiv (2^(min (2:Int).toNat IntKind.u64.bits)))&&&BitVec.ofInt IntKind.u64.bits 3689348814741910323).toNat:Int))+(IntKind.u64.wrap ((BitVec.ofInt IntKind.u64.bits (IntKind.u64.wrap ((IntKind.u64.wrap ((BitVec.ofInt IntKind.u64.bits (x.fdiv (2^(min (1:Int).toNat IntKind.u64.bits)))&&&BitVec.ofInt IntKind.u64.bits 6148914691236517205).toNat:Int))+(IntKind.u64.wrap ((BitVec.ofInt IntKind.u64.bits x&&&BitVec.ofInt IntKind.u64.bits 6148914691236517205).toNat:Int))))&&&BitVec.ofInt IntKind.u64.bits 3689348814741910323).toNat:Int)))).fdiv (2^(min (4:Int).toNat IntKind.u64.bits)))+(IntKind.u64.wrap ((IntKind.u64.wrap ((BitVec.ofInt IntKind.u64.bits ((IntKind.u64.wrap ((IntKind.u64.wrap ((BitVec.ofInt IntKind.u64.bits (x.fdiv (2^(min (1:Int).toNat IntKind.u64.bits)))&&&BitVec.ofInt IntKind.u64.bits 6148914691236517205).toNat:Int))+(IntKind.u64.wrap ((BitVec.ofInt IntKind.u64.bits x&&&BitVec.ofInt IntKind.u64.bits 6148914691236517205).toNat:Int)))).fdiv (2^(min (2:Int).toNat IntKind.u64.bits)))&&&BitVec.ofInt IntKind.u64.bits 3689348814741910323).toNat:Int))+(IntKind.u64.wrap ((BitVec.ofInt IntKind.u64.bits (IntKind.u64.wrap ((IntKind.u64.wrap ((BitVec.ofInt IntKind.u64.bits (x.fdiv (2^(min (1:Int).toNat IntKind.u64.bits)))&&&BitVec.ofInt IntKind.u64.bits 6148914691236517205).toNat:Int))+(IntKind.u64.wrap ((BitVec.ofInt IntKind.u64.bits x&&&BitVec.ofInt IntKind.u64.bits 6148914691236517205).toNat:Int))))&&&BitVec.ofInt IntKind.u64.bits 3689348814741910323).toNat:Int))))))&&&BitVec.ofInt IntKind.u64.bits 1085102592571150095).toNat:Int)).fdiv (2^(min (8:Int).toNat IntKind.u64.bits)))))+((IntKind.u64.wrap ((IntKind.u64.wrap ((BitVec.ofInt IntKind.u64.bits (IntKind.u64.wrap (((IntKind.u64.wrap ((IntKind.u64.wrap ((BitVec.ofInt IntKind.u64.bits ((IntKind.u64.wrap ((IntKind.u64.wrap ((BitVec.ofInt IntKind.u64.bits (x.fdiv (2^(min (1:Int).toNat IntKind.u64.bits)))&&&BitVec.ofInt IntKind.u64.bits 6148914691236517205).toNat:Int))+(IntKind.u64.wrap ((BitVec.ofInt IntKind.u64.bits x&&&BitVec.ofInt IntKind.u64.bits 6148914691236517205).toNat:Int)))).fdiv (2^(min (2:Int).toNat IntKind.u64.bits)))&&&BitVec.ofInt IntKind.u64.bits 3689348814741910323).toNat:Int))+(IntKind.u64.wrap ((BitVec.ofInt IntKind.u64.bits (IntKind.u64.wrap ((IntKind.u64.wrap ((BitVec.ofInt IntKind.u64.bits (x.fdiv (2^(min (1:Int).toNat IntKind.u64.bits)))&&&BitVec.ofInt IntKind.u64.bits 6148914691236517205).toNat:Int))+(IntKind.u64.wrap ((BitVec.ofInt IntKind.u64.bits x&&&BitVec.ofInt IntKind.u64.bits 6148914691236517205).toNat:Int))))&&&BitVec.ofInt IntKind.u64.bits 3689348814741910323).toNat:Int)))).fdiv (2^(min (4:Int).toNat IntKind.u64.bits)))+(IntKind.u64.wrap ((IntKind.u64.wrap ((BitVec.ofInt IntKind.u64.bits ((IntKind.u64.wrap ((IntKind.u64.wrap ((BitVec.ofInt IntKind.u64.bits (x.fdiv (2^(min (1:Int).toNat IntKind.u64.bits)))&&&BitVec.ofInt IntKind.u64.bits 6148914691236517205).toNat:Int))+(IntKind.u64.wrap ((BitVec.ofInt IntKind.u64.bits x&&&BitVec.ofInt IntKind.u64.bits 6148914691236517205).toNat:Int)))).fdiv (2^(min (2:Int).toNat IntKind.u64.bits)))&&&BitVec.ofInt IntKind.u64.bits 3689348814741910323).toNat:Int))+(IntKind.u64.wrap ((BitVec.ofInt IntKind.u64.bits (IntKind.u64.wrap ((IntKind.u64.wrap ((BitVec.ofInt IntKind.u64.bits (x.fdiv (2^(min (1:Int).toNat IntKind.u64.bits)))&&&BitVec.ofInt IntKind.u64.bits 6148914691236517205).toNat:Int))+(IntKind.u64.wrap ((BitVec.ofInt IntKind.u64.bits x&&&BitVec.ofInt IntKind.u64.bits 6148914691236517205).toNat:Int))))&&&BitVec.ofInt IntKind.u64.bits 3689348814741910323).toNat:Int))))))&&&BitVec.ofInt IntKind.u64.bits 1085102592571150095).toNat:Int))+((IntKind.u64.wrap ((BitVec.ofInt IntKind.u64.bits (IntKind.u64.wrap (((IntKind.u64.wrap ((IntKind.u64.wrap ((BitVec.ofInt IntKind.u64.bits ((IntKind.u64.wrap ((IntKind.u64.wrap ((BitVec.ofInt IntKind.u64.bits (x.fdiv (2^(min (1:Int).toNat IntKind.u64.bits)))&&&BitVec.ofInt IntKind.u64.bits 6148914691236517205).toNat:Int))+(IntKind.u64.wrap ((BitVec.ofInt IntKind.u64.bits x&&&BitVec.ofInt IntKind.u64.bits 6148914691236517205).toNat:Int)))).fdiv (2^(min (2:Int).toNat IntKind.u64.bits)))&&&BitVec.ofInt IntKind.u64.bits 3689348814741910323).toNat:Int))+(IntKind.u64.wrap ((BitVec.ofInt IntKind.u64.bits (IntKind.u64.wrap ((IntKind.u64.wrap ((BitVec.ofInt IntKind.u64.bits (x.fdiv (2^(min (1:Int).toNat IntKind.u64.bits)))&&&BitVec.ofInt IntKind.u64.bits 6148914691236517205).toNat:Int))+(IntKind.u64.wrap ((BitVec.ofInt IntKind.u64.bits x&&&BitVec.ofInt IntKind.u64.bits 6148914691236517205).toNat:Int))))&&&BitVec.ofInt IntKind.u64.bits 3689348814741910323).toNat:Int)))).fdiv (2^(min (4:Int).toNat IntKind.u64.bits)))+(IntKind.u64.wrap ((IntKind.u64.wrap ((BitVec.ofInt IntKind.u64.bits ((IntKind.u64.wrap ((IntKind.u64.wrap ((BitVec.ofInt IntKind.u64.bits (x.fdiv (2^(min (1:Int).toNat IntKind.u64.bits)))&&&BitVec.ofInt IntKind.u64.bits 6148914691236517205).toNat:Int))+(IntKind.u64.wrap ((BitVec.ofInt IntKind.u64.bits x&&&BitVec.ofInt IntKind.u64.bits 6148914691236517205).toNat:Int)))).fdiv (2^(min (2:Int).toNat IntKind.u64.bits)))&&&BitVec.ofInt IntKind.u64.bits 3689348814741910323).toNat:Int))+(IntKind.u64.wrap ((BitVec.ofInt IntKind.u64.bits (IntKind.u64.wrap ((IntKind.u64.wrap ((BitVec.ofInt IntKind.u64.bits (x.fdiv (2^(min (1:Int).toNat IntKind.u64.bits)))&&&BitVec.ofInt IntKind.u64.bits 6148914691236517205).toNat:Int))+(IntKind.u64.wrap ((BitVec.ofInt IntKind.u64.bits x&&&BitVec.ofInt IntKind.u64.bits 6148914691236517205).toNat:Int))))&&&BitVec.ofInt IntKind.u64.bits 3689348814741910323).toNat:Int))))))&&&BitVec.ofInt IntKind.u64.bits 1085102592571150095).toNat:Int)).fdiv (2^(min (8:Int).toNat IntKind.u64.bits))))).fdiv (2^(min (16:Int).toNat IntKind.u64.bits))))).fdiv (2^(min (32:Int).toNat IntKind.u64.bits))))))&&&BitVec.ofInt IntKind.i64.bits 127).toNat:Int))
theorem a4O (x:Int) (r:Int) (hm:a1y x=some r):d7 Tryz.prog 203 [.v (.int .u64 x)] (fun x=>x=DI r):=by
 refine zn Tryz.func203 rfl ?_
 refine⟨by decide, ?_⟩
 refine⟨by decide, ?_⟩
 refine⟨by decide, ?_⟩
 refine⟨by decide, ?_⟩
 refine⟨by decide, ?_⟩
 refine⟨by decide, ?_⟩
 exact hm.rr
def a1W (x:Int):Option Int:=
 Option.bind (a1y x) fun x1=>
 some x1
theorem a6b (x:Int) (r:Int) (hm:a1W x=some r):d7 Tryz.prog 169 [.v (.int .u64 x)] (fun x=>x=DI r):=by
 refine zn Tryz.func169 rfl ?_
 refine cy hm (a4O x) fun x1 hm=> ?_
 exact hm.rr
def M0 (m:Int):Option Bool:=
 Option.bind (a1W (IntKind.u64.wrap m)) fun x1=>
 some (decide (x1≥4))
theorem a2J (m:Int) (r:Bool) (hm:M0 m=some r):d7 Tryz.prog 105 [DI m] (fun x=>x=DB r):=by
 refine zn Tryz.func105 rfl ?_
 refine cy hm (a6b (IntKind.u64.wrap m)) fun x1 hm=> ?_
 exact hm.rr
def S5 (m:Int):Option Bool:=
 Option.bind (i6 m 0 63) fun x1=>
 some x1
theorem a2U (m:Int) (r:Bool) (hm:S5 m=some r):d7 Tryz.prog 123 [DI m] (fun x=>x=DB r):=by
 refine zn Tryz.func123 rfl ?_
 refine cy hm (j9 m 0 63) fun x1 hm=> ?_
 exact hm.rr
def w9 (n:Int):Option Bool:=
 Option.bind (i6 n 6 59999) fun x1=>
 some x1
theorem F1 (n:Int) (r:Bool) (hm:w9 n=some r):d7 Tryz.prog 125 [DI n] (fun x=>x=DB r):=by
 refine zn Tryz.func125 rfl ?_
 refine cy hm (j9 n 6 59999) fun x1 hm=> ?_
 exact hm.rr
def a1g (h:a7):Option Bool:=
 Option.bind (w9 h.Ballot) fun x1=>
 if x1=true then
  Option.bind (u0 h.Night) fun x4=>
  if x4=true then
   Option.bind (j1 h.Value) fun x7=>
   if x7=true then
    if(h.Mask !=0)=true then
     Option.bind (S5 h.Mask) fun x11=>
     some x11
    else
     some false
   else
    some false
  else
   some false
 else
  some false
theorem a8d (h:a7) (r:Bool) (hm:a1g h=some r):d7 Tryz.prog 124 [.agg (a7.c h)] (fun x=>x=DB r):=by
 refine zn Tryz.func124 rfl ?_
 refine cy hm (F1 h.Ballot) fun x1 hm=> ?_
 apply vb hm<;>intro _ hm
 refine cy hm (w5 h.Night) fun x4 hm=> ?_
 apply vb hm<;>intro _ hm
 refine cy hm (l7 h.Value) fun x7 hm=> ?_
 apply vb hm<;>intro _ hm
 apply vb hm<;>intro _ hm
 refine cy hm (a2U h.Mask) fun x11 hm=> ?_
 exact hm.rr
 exact hm.rr
 exact hm.rr
 exact hm.rr
 exact hm.rr
def w6 (n:Int):Option Bool:=
 Option.bind (i6 n 1 99) fun x1=>
 some x1
theorem H4 (n:Int) (r:Bool) (hm:w6 n=some r):d7 Tryz.prog 70 [DI n] (fun x=>x=DB r):=by
 refine zn Tryz.func70 rfl ?_
 refine cy hm (j9 n 1 99) fun x1 hm=> ?_
 exact hm.rr
def d8 (n:Int):Option Bool:=
 Option.bind (i6 n 0 144001439) fun x1=>
 some x1
theorem k9 (n:Int) (r:Bool) (hm:d8 n=some r):d7 Tryz.prog 91 [DI n] (fun x=>x=DB r):=by
 refine zn Tryz.func91 rfl ?_
 refine cy hm (j9 n 0 144001439) fun x1 hm=> ?_
 exact hm.rr
def P9 (from_:Int) (until_:Int):Option Bool:=
 Option.bind (d8 from_) fun x1=>
 if x1=true then
  Option.bind (d8 until_) fun x4=>
  if x4=true then
   some (decide (from_≤until_))
  else
   some false
 else
  some false
theorem a0M (from_:Int) (until_:Int) (r:Bool) (hm:P9 from_ until_=some r):d7 Tryz.prog 127 [DI from_,DI until_] (fun x=>x=DB r):=by
 refine zn Tryz.func127 rfl ?_
 refine cy hm (k9 from_) fun x1 hm=> ?_
 apply vb hm<;>intro _ hm
 refine cy hm (k9 until_) fun x4 hm=> ?_
 apply vb hm<;>intro _ hm
 exact hm.rr
 exact hm.rr
 exact hm.rr
def a0J (s:a8):Option Bool:=
 if(s.Ballot==0)=true then
  if(s.Value==0)=true then
   Option.bind (u0 s.Night) fun x3=>
   if x3=true then
    Option.bind (w9 s.Promised) fun x6=>
    if x6=true then
     some true
    else
     some false
   else
    some false
  else
   Option.bind (i6 s.Ballot 6 s.Promised) fun x9=>
   if x9=true then
    Option.bind (j1 s.Value) fun x12=>
    Option.bind (u0 s.Night) fun x14=>
    if x14=true then
     Option.bind (w9 s.Promised) fun x17=>
     if x17=true then
      some x12
     else
      some false
    else
     some false
   else
    Option.bind (u0 s.Night) fun x20=>
    if x20=true then
     Option.bind (w9 s.Promised) fun x23=>
     if x23=true then
      some false
     else
      some false
    else
     some false
 else
  Option.bind (i6 s.Ballot 6 s.Promised) fun x26=>
  if x26=true then
   Option.bind (j1 s.Value) fun x29=>
   Option.bind (u0 s.Night) fun x31=>
   if x31=true then
    Option.bind (w9 s.Promised) fun x34=>
    if x34=true then
     some x29
    else
     some false
   else
    some false
  else
   Option.bind (u0 s.Night) fun x37=>
   if x37=true then
    Option.bind (w9 s.Promised) fun x40=>
    if x40=true then
     some false
    else
     some false
   else
    some false
theorem b0s (s:a8) (r:Bool) (hm:a0J s=some r):d7 Tryz.prog 130 [.agg (a8.c s)] (fun x=>x=DB r):=by
 refine zn Tryz.func130 rfl ?_
 apply vb hm<;>intro _ hm
 apply vb hm<;>intro _ hm
 refine cy hm (w5 s.Night) fun x3 hm=> ?_
 apply vb hm<;>intro _ hm
 refine cy hm (F1 s.Promised) fun x6 hm=> ?_
 apply vb hm<;>intro _ hm
 exact hm.rr
 exact hm.rr
 exact hm.rr
 refine cy hm (j9 s.Ballot 6 s.Promised) fun x9 hm=> ?_
 apply vb hm<;>intro _ hm
 refine cy hm (l7 s.Value) fun x12 hm=> ?_
 refine cy hm (w5 s.Night) fun x14 hm=> ?_
 apply vb hm<;>intro _ hm
 refine cy hm (F1 s.Promised) fun x17 hm=> ?_
 apply vb hm<;>intro _ hm
 exact hm.rr
 exact hm.rr
 exact hm.rr
 refine cy hm (w5 s.Night) fun x20 hm=> ?_
 apply vb hm<;>intro _ hm
 refine cy hm (F1 s.Promised) fun x23 hm=> ?_
 apply vb hm<;>intro _ hm
 exact hm.rr
 exact hm.rr
 exact hm.rr
 refine cy hm (j9 s.Ballot 6 s.Promised) fun x26 hm=> ?_
 apply vb hm<;>intro _ hm
 refine cy hm (l7 s.Value) fun x29 hm=> ?_
 refine cy hm (w5 s.Night) fun x31 hm=> ?_
 apply vb hm<;>intro _ hm
 refine cy hm (F1 s.Promised) fun x34 hm=> ?_
 apply vb hm<;>intro _ hm
 exact hm.rr
 exact hm.rr
 exact hm.rr
 refine cy hm (w5 s.Night) fun x37 hm=> ?_
 apply vb hm<;>intro _ hm
 refine cy hm (F1 s.Promised) fun x40 hm=> ?_
 apply vb hm<;>intro _ hm
 exact hm.rr
 exact hm.rr
 exact hm.rr
def E2 (a:a8) (b_:a8):Option Int:=
 Option.bind (E6 a.Night b_.Night) fun x1=>
 some x1
theorem Y9 (a:a8) (b_:a8) (r:Int) (hm:E2 a b_=some r):d7 Tryz.prog 136 [.agg (a8.c a), .agg (a8.c b_)] (fun x=>x=DI r):=by
 refine zn Tryz.func136 rfl ?_
 refine cy hm (M3 a.Night b_.Night) fun x1 hm=> ?_
 exact hm.rr
def E5 (a:a7) (b_:a7):Option Int:=
 Option.bind (E6 a.Ballot b_.Ballot) fun x1=>
 Option.bind (E6 a.Night b_.Night) fun x3=>
 Option.bind (a1O ([x1,x3]:List Int)) fun x5=>
 some x5
theorem Z3 (a:a7) (b_:a7) (r:Int) (hm:E5 a b_=some r):d7 Tryz.prog 139 [.agg (a7.c a), .agg (a7.c b_)] (fun x=>x=DI r):=by
 refine zy c5k [] [] [] Tryz.func139 rfl ?_
 refine⟨rfl, ?_⟩
 refine cy hm (M3 a.Ballot b_.Ballot) fun x1 hm=> ?_
 refine cy hm (M3 a.Night b_.Night) fun x3 hm=> ?_
 refine⟨([x1,x3]:List Int).flatMap cI,([x1,x3]:List Int).length,⟨rfl,rfl⟩, ?_⟩
 refine co hm (a8Y (([x1,x3]:List Int))) fun x5 hm=> ?_
 exact hm.rr
def a0F (a:b6) (b_:b6):Option Bool:=
 some (decide ((if b_.From>a.From then b_.From else a.From)<(if b_.Until<a.Until then b_.Until else a.Until)))
theorem a7z (a:b6) (b_:b6) (r:Bool) (hm:a0F a b_=some r):d7 Tryz.prog 145 [.agg (b6.c a), .agg (b6.c b_)] (fun x=>x=DB r):=by
 refine zn Tryz.func145 rfl ?_
 exact hm.rr
def F5 (x:a8):Option Bool:=
 Option.bind (a0J x) fun x1=>
 some (!x1)
theorem Z8 (x:a8) (r:Bool) (hm:F5 x=some r):d7 Tryz.prog 172 [.agg (a8.c x), .ptr [.fn 130 [] []] 0] (fun x=>x=DB r):=by
 refine zn Tryz.func172 rfl ?_
 refine cy hm (b0s x) fun x1 hm=> ?_
 exact hm.rr
def o9 (s:(List a8)):Int→Option (Sum Int (Sum Int Int)):=fun v7=>
 if(decide (v7<(s.length:Int)))=true then
  Option.bind (idx s v7) fun e15=>
  Option.bind (F5 e15) fun x17=>
  if x17=true then
   some (.inr (.inr v7))
  else
   some (.inl (W (v7+1)))
 else
  some (.inr (.inl v7))
def r6 (s:(List a8)):Option Int:=
 Option.bind (l8 (o9 s) 0) fun e=>
 match e with
 | .inl v20=>
  some (-1)
 | .inr rr21=>
  some rr21
theorem F0 (s:(List a8)) (r:Int) (hm:r6 s=some r):d7 Tryz.prog 205 [lD 4 s a8.c, .fn 172 [] [.ptr [.fn 130 [] []] 0]] (fun x=>x=DI r):=by
 refine zn Tryz.func205 rfl ?_
 obtain⟨ev22,he,hk23⟩:=b5 hm
 refine u4.ofL (o9 s) (fun v7=>⟨[(0,lD 4 s a8.c),(1, .fn 172 [] [.ptr [.fn 130 [] []] 0]),(4,DI 0),(7,DI (s.length:Int)),(8,DI v7)], [],0⟩) 0 (c5.of 0 rfl (tA rfl) trivial) he ?_
 rintro fu24 v7 b hm hi25
 apply vb hm<;>intro _ hm
 obtain⟨e27,hx28,hm⟩:=b5 hm
 refine⟨_,d9 (fun _=>rfl) hx28, ?_⟩
 refine cy hm (Z8 e27) fun x29 hm=> ?_
 apply vb hm<;>intro _ hm
 cases hm
 cases hi25
 have hm:=hk23
 exact hm.rr
 cases hm
 exact⟨(_,(W (v7+1))),c5.of 0 rfl (tA rfl) trivial,hi25,Nat.lt_succ_self _⟩
 cases hm
 cases hi25
 have hm:=hk23
 exact hm.rr
def o6 (s:(List a8)):Option Bool:=
 Option.bind (r6 s) fun x1=>
 some (decide (x1≥0))
theorem D2 (s:(List a8)) (r:Bool) (hm:o6 s=some r):d7 Tryz.prog 171 [lD 4 s a8.c, .fn 172 [] [.ptr [.fn 130 [] []] 0]] (fun x=>x=DB r):=by
 refine zn Tryz.func171 rfl ?_
 refine cy hm (F0 s) fun x1 hm=> ?_
 exact hm.rr
def H3 (l:(List a8)) (most:Int):Option Bool:=
 if(decide ((l.length:Int)≤most))=true then
  Option.bind (o6 l) fun x2=>
  some (!x2)
 else
  some false
theorem a0t (l:(List a8)) (most:Int) (r:Bool) (hm:H3 l most=some r):d7 Tryz.prog 129 [lD 4 l a8.c,DI most, .fn 130 [] []] (fun x=>x=DB r):=by
 refine zn Tryz.func129 rfl ?_
 apply vb hm<;>intro _ hm
 refine co hm (D2 l) fun x2 hm=> ?_
 exact hm.rr
 exact hm.rr
def V5 (b_:b9) (c_0:b7) (c_1:Int):Option Bool:=
 Option.bind (u0 b_.Night) fun x1=>
 if x1=true then
  Option.bind (i6 b_.Ballot 6 (W ((W (6*c_0.Round))+c_1))) fun x4=>
  if x4=true then
   Option.bind (d6 b_.Ballot) fun x7=>
   if(x7==c_1)=true then
    Option.bind (j1 b_.Value) fun x10=>
    if x10=true then
     Option.bind (i6 b_.Best 0 (W (b_.Ballot-1))) fun x13=>
     if x13=true then
      Option.bind (S5 b_.Mask) fun x16=>
      if x16=true then
       Option.bind (M0 b_.Mask) fun x19=>
       some (b_.Asked==x19)
      else
       some false
     else
      some false
    else
     some false
   else
    some false
  else
   some false
 else
  some false
theorem a7J (b_:b9) (c_0:b7) (c_1:Int) (r:Bool) (hm:V5 b_ c_0 c_1=some r):d7 Tryz.prog 122 [.agg (b9.c b_), .ptr (b7.c c_0) 0, .ptr [DI c_1] 0] (fun x=>x=DB r):=by
 refine zy c4N [] [] [] Tryz.func122 rfl ?_
 refine⟨rfl, ?_⟩
 refine cy hm (w5 b_.Night) fun x1 hm=> ?_
 apply vb hm<;>intro _ hm
 refine cy hm (j9 b_.Ballot 6 (W ((W (6*c_0.Round))+c_1))) fun x4 hm=> ?_
 apply vb hm<;>intro _ hm
 refine cy hm (j2 b_.Ballot) fun x7 hm=> ?_
 apply vb hm<;>intro _ hm
 refine cy hm (l7 b_.Value) fun x10 hm=> ?_
 apply vb hm<;>intro _ hm
 refine cy hm (j9 b_.Best 0 (W (b_.Ballot-1))) fun x13 hm=> ?_
 apply vb hm<;>intro _ hm
 refine cy hm (a2U b_.Mask) fun x16 hm=> ?_
 apply vb hm<;>intro _ hm
 refine cy hm (a2J b_.Mask) fun x19 hm=> ?_
 exact hm.rr
 exact hm.rr
 exact hm.rr
 exact hm.rr
 exact hm.rr
 exact hm.rr
 exact hm.rr
def D6 (x:b9) (c_0:b7) (c_1:Int):Option Bool:=
 Option.bind (V5 x c_0 c_1) fun x1=>
 some (!x1)
theorem Y2 (x:b9) (c_0:b7) (c_1:Int) (r:Bool) (hm:D6 x c_0 c_1=some r):d7 Tryz.prog 173 [.agg (b9.c x), .ptr [.fn 122 [] [.ptr (b7.c c_0) 0, .ptr [DI c_1] 0]] 0] (fun x=>x=DB r):=by
 refine zn Tryz.func173 rfl ?_
 refine cy hm (a7J x c_0 c_1) fun x1 hm=> ?_
 exact hm.rr
def p0 (s:(List b9)) (c1_0:b7) (c1_1:Int):Int→Option (Sum Int (Sum Int Int)):=fun v7=>
 if(decide (v7<(s.length:Int)))=true then
  Option.bind (idx s v7) fun e15=>
  Option.bind (D6 e15 c1_0 c1_1) fun x17=>
  if x17=true then
   some (.inr (.inr v7))
  else
   some (.inl (W (v7+1)))
 else
  some (.inr (.inl v7))
def q9 (s:(List b9)) (c1_0:b7) (c1_1:Int):Option Int:=
 Option.bind (l8 (p0 s c1_0 c1_1) 0) fun e=>
 match e with
 | .inl v20=>
  some (-1)
 | .inr rr21=>
  some rr21
theorem E9 (s:(List b9)) (c1_0:b7) (c1_1:Int) (r:Int) (hm:q9 s c1_0 c1_1=some r):d7 Tryz.prog 178 [lD 6 s b9.c, .fn 173 [] [.ptr [.fn 122 [] [.ptr (b7.c c1_0) 0, .ptr [DI c1_1] 0]] 0]] (fun x=>x=DI r):=by
 refine zn Tryz.func178 rfl ?_
 obtain⟨ev22,he,hk23⟩:=b5 hm
 refine u4.ofL (p0 s c1_0 c1_1) (fun v7=>⟨[(0,lD 6 s b9.c),(1, .fn 173 [] [.ptr [.fn 122 [] [.ptr (b7.c c1_0) 0, .ptr [DI c1_1] 0]] 0]),(4,DI 0),(7,DI (s.length:Int)),(8,DI v7)], [],0⟩) 0 (c5.of 0 rfl (tA rfl) trivial) he ?_
 rintro fu24 v7 b hm hi25
 apply vb hm<;>intro _ hm
 obtain⟨e27,hx28,hm⟩:=b5 hm
 refine⟨_,d9 (fun _=>rfl) hx28, ?_⟩
 refine cy hm (Y2 e27 c1_0 c1_1) fun x29 hm=> ?_
 apply vb hm<;>intro _ hm
 cases hm
 cases hi25
 have hm:=hk23
 exact hm.rr
 cases hm
 exact⟨(_,(W (v7+1))),c5.of 0 rfl (tA rfl) trivial,hi25,Nat.lt_succ_self _⟩
 cases hm
 cases hi25
 have hm:=hk23
 exact hm.rr
def o7 (s:(List b9)) (c1_0:b7) (c1_1:Int):Option Bool:=
 Option.bind (q9 s c1_0 c1_1) fun x1=>
 some (decide (x1≥0))
theorem D5 (s:(List b9)) (c1_0:b7) (c1_1:Int) (r:Bool) (hm:o7 s c1_0 c1_1=some r):d7 Tryz.prog 141 [lD 6 s b9.c, .fn 173 [] [.ptr [.fn 122 [] [.ptr (b7.c c1_0) 0, .ptr [DI c1_1] 0]] 0]] (fun x=>x=DB r):=by
 refine zn Tryz.func141 rfl ?_
 refine cy hm (E9 s c1_0 c1_1) fun x1 hm=> ?_
 exact hm.rr
def F4 (l:(List b9)) (most:Int) (c2_0:b7) (c2_1:Int):Option Bool:=
 if(decide ((l.length:Int)≤most))=true then
  Option.bind (o7 l c2_0 c2_1) fun x2=>
  some (!x2)
 else
  some false
theorem Z7 (l:(List b9)) (most:Int) (c2_0:b7) (c2_1:Int) (r:Bool) (hm:F4 l most c2_0 c2_1=some r):d7 Tryz.prog 131 [lD 6 l b9.c,DI most, .fn 122 [] [.ptr (b7.c c2_0) 0, .ptr [DI c2_1] 0]] (fun x=>x=DB r):=by
 refine zn Tryz.func131 rfl ?_
 apply vb hm<;>intro _ hm
 refine co hm (D5 l c2_0 c2_1) fun x2 hm=> ?_
 exact hm.rr
 exact hm.rr
def B5 (x:a7):Option Bool:=
 Option.bind (a1g x) fun x1=>
 some (!x1)
theorem V0 (x:a7) (r:Bool) (hm:B5 x=some r):d7 Tryz.prog 175 [.agg (a7.c x), .ptr [.fn 124 [] []] 0] (fun x=>x=DB r):=by
 refine zn Tryz.func175 rfl ?_
 refine cy hm (a8d x) fun x1 hm=> ?_
 exact hm.rr
def n6 (s:(List a7)):Int→Option (Sum Int (Sum Int Int)):=fun v7=>
 if(decide (v7<(s.length:Int)))=true then
  Option.bind (idx s v7) fun e15=>
  Option.bind (B5 e15) fun x17=>
  if x17=true then
   some (.inr (.inr v7))
  else
   some (.inl (W (v7+1)))
 else
  some (.inr (.inl v7))
def o4 (s:(List a7)):Option Int:=
 Option.bind (l8 (n6 s) 0) fun e=>
 match e with
 | .inl v20=>
  some (-1)
 | .inr rr21=>
  some rr21
theorem B8 (s:(List a7)) (r:Int) (hm:o4 s=some r):d7 Tryz.prog 206 [lD 4 s a7.c, .fn 175 [] [.ptr [.fn 124 [] []] 0]] (fun x=>x=DI r):=by
 refine zn Tryz.func206 rfl ?_
 obtain⟨ev22,he,hk23⟩:=b5 hm
 refine u4.ofL (n6 s) (fun v7=>⟨[(0,lD 4 s a7.c),(1, .fn 175 [] [.ptr [.fn 124 [] []] 0]),(4,DI 0),(7,DI (s.length:Int)),(8,DI v7)], [],0⟩) 0 (c5.of 0 rfl (tA rfl) trivial) he ?_
 rintro fu24 v7 b hm hi25
 apply vb hm<;>intro _ hm
 obtain⟨e27,hx28,hm⟩:=b5 hm
 refine⟨_,d9 (fun _=>rfl) hx28, ?_⟩
 refine cy hm (V0 e27) fun x29 hm=> ?_
 apply vb hm<;>intro _ hm
 cases hm
 cases hi25
 have hm:=hk23
 exact hm.rr
 cases hm
 exact⟨(_,(W (v7+1))),c5.of 0 rfl (tA rfl) trivial,hi25,Nat.lt_succ_self _⟩
 cases hm
 cases hi25
 have hm:=hk23
 exact hm.rr
def n5 (s:(List a7)):Option Bool:=
 Option.bind (o4 s) fun x1=>
 some (decide (x1≥0))
theorem A7 (s:(List a7)) (r:Bool) (hm:n5 s=some r):d7 Tryz.prog 174 [lD 4 s a7.c, .fn 175 [] [.ptr [.fn 124 [] []] 0]] (fun x=>x=DB r):=by
 refine zn Tryz.func174 rfl ?_
 refine cy hm (B8 s) fun x1 hm=> ?_
 exact hm.rr
def D4 (l:(List a7)) (most:Int):Option Bool:=
 if(decide ((l.length:Int)≤most))=true then
  Option.bind (n5 l) fun x2=>
  some (!x2)
 else
  some false
theorem Y3 (l:(List a7)) (most:Int) (r:Bool) (hm:D4 l most=some r):d7 Tryz.prog 132 [lD 4 l a7.c,DI most, .fn 124 [] []] (fun x=>x=DB r):=by
 refine zn Tryz.func132 rfl ?_
 apply vb hm<;>intro _ hm
 refine co hm (A7 l) fun x2 hm=> ?_
 exact hm.rr
 exact hm.rr
def W8 (l:b6) (c_0:Int):Option Bool:=
 Option.bind (w6 l.Thing) fun x1=>
 if x1=true then
  Option.bind (d6 l.Thing) fun x4=>
  if(x4==c_0)=true then
   Option.bind (u2 l.To) fun x7=>
   if x7=true then
    if(l.To !=c_0)=true then
     Option.bind (P9 l.From l.Until) fun x11=>
     some x11
    else
     some false
   else
    some false
  else
   some false
 else
  some false
theorem a8c (l:b6) (c_0:Int) (r:Bool) (hm:W8 l c_0=some r):d7 Tryz.prog 126 [.agg (b6.c l), .ptr [DI c_0] 0] (fun x=>x=DB r):=by
 refine zy c4O [] [] [] Tryz.func126 rfl ?_
 refine⟨rfl, ?_⟩
 refine cy hm (H4 l.Thing) fun x1 hm=> ?_
 apply vb hm<;>intro _ hm
 refine cy hm (j2 l.Thing) fun x4 hm=> ?_
 apply vb hm<;>intro _ hm
 refine cy hm (w7 l.To) fun x7 hm=> ?_
 apply vb hm<;>intro _ hm
 apply vb hm<;>intro _ hm
 refine cy hm (a0M l.From l.Until) fun x11 hm=> ?_
 exact hm.rr
 exact hm.rr
 exact hm.rr
 exact hm.rr
 exact hm.rr
def B4 (x:b6) (c_0:Int):Option Bool:=
 Option.bind (W8 x c_0) fun x1=>
 some (!x1)
theorem U9 (x:b6) (c_0:Int) (r:Bool) (hm:B4 x c_0=some r):d7 Tryz.prog 176 [.agg (b6.c x), .ptr [.fn 126 [] [.ptr [DI c_0] 0]] 0] (fun x=>x=DB r):=by
 refine zn Tryz.func176 rfl ?_
 refine cy hm (a8c x c_0) fun x1 hm=> ?_
 exact hm.rr
def n7 (s:(List b6)) (c1_0:Int):Int→Option (Sum Int (Sum Int Int)):=fun v7=>
 if(decide (v7<(s.length:Int)))=true then
  Option.bind (idx s v7) fun e15=>
  Option.bind (B4 e15 c1_0) fun x17=>
  if x17=true then
   some (.inr (.inr v7))
  else
   some (.inl (W (v7+1)))
 else
  some (.inr (.inl v7))
def n9 (s:(List b6)) (c1_0:Int):Option Int:=
 Option.bind (l8 (n7 s c1_0) 0) fun e=>
 match e with
 | .inl v20=>
  some (-1)
 | .inr rr21=>
  some rr21
theorem B6 (s:(List b6)) (c1_0:Int) (r:Int) (hm:n9 s c1_0=some r):d7 Tryz.prog 179 [lD 5 s b6.c, .fn 176 [] [.ptr [.fn 126 [] [.ptr [DI c1_0] 0]] 0]] (fun x=>x=DI r):=by
 refine zn Tryz.func179 rfl ?_
 obtain⟨ev22,he,hk23⟩:=b5 hm
 refine u4.ofL (n7 s c1_0) (fun v7=>⟨[(0,lD 5 s b6.c),(1, .fn 176 [] [.ptr [.fn 126 [] [.ptr [DI c1_0] 0]] 0]),(4,DI 0),(7,DI (s.length:Int)),(8,DI v7)], [],0⟩) 0 (c5.of 0 rfl (tA rfl) trivial) he ?_
 rintro fu24 v7 b hm hi25
 apply vb hm<;>intro _ hm
 obtain⟨e27,hx28,hm⟩:=b5 hm
 refine⟨_,d9 (fun _=>rfl) hx28, ?_⟩
 refine cy hm (U9 e27 c1_0) fun x29 hm=> ?_
 apply vb hm<;>intro _ hm
 cases hm
 cases hi25
 have hm:=hk23
 exact hm.rr
 cases hm
 exact⟨(_,(W (v7+1))),c5.of 0 rfl (tA rfl) trivial,hi25,Nat.lt_succ_self _⟩
 cases hm
 cases hi25
 have hm:=hk23
 exact hm.rr
def m9 (s:(List b6)) (c1_0:Int):Option Bool:=
 Option.bind (n9 s c1_0) fun x1=>
 some (decide (x1≥0))
theorem B0 (s:(List b6)) (c1_0:Int) (r:Bool) (hm:m9 s c1_0=some r):d7 Tryz.prog 143 [lD 5 s b6.c, .fn 176 [] [.ptr [.fn 126 [] [.ptr [DI c1_0] 0]] 0]] (fun x=>x=DB r):=by
 refine zn Tryz.func143 rfl ?_
 refine cy hm (B6 s c1_0) fun x1 hm=> ?_
 exact hm.rr
def D7 (l:(List b6)) (most:Int) (c2_0:Int):Option Bool:=
 if(decide ((l.length:Int)≤most))=true then
  Option.bind (m9 l c2_0) fun x2=>
  some (!x2)
 else
  some false
theorem X8 (l:(List b6)) (most:Int) (c2_0:Int) (r:Bool) (hm:D7 l most c2_0=some r):d7 Tryz.prog 133 [lD 5 l b6.c,DI most, .fn 126 [] [.ptr [DI c2_0] 0]] (fun x=>x=DB r):=by
 refine zn Tryz.func133 rfl ?_
 apply vb hm<;>intro _ hm
 refine co hm (B0 l c2_0) fun x2 hm=> ?_
 exact hm.rr
 exact hm.rr
def V8 (l:b4) (c_0:Int):Option Bool:=
 Option.bind (u2 l.Owner) fun x1=>
 if x1=true then
  if(l.Owner !=c_0)=true then
   Option.bind (i6 l.No 1 40) fun x5=>
   if x5=true then
    Option.bind (w6 l.Thing) fun x8=>
    if x8=true then
     Option.bind (d6 l.Thing) fun x11=>
     if(x11==l.Owner)=true then
      Option.bind (P9 l.From l.Until) fun x14=>
      some x14
     else
      some false
    else
     some false
   else
    some false
  else
   some false
 else
  some false
theorem a7K (l:b4) (c_0:Int) (r:Bool) (hm:V8 l c_0=some r):d7 Tryz.prog 128 [.agg (b4.c l), .ptr [DI c_0] 0] (fun x=>x=DB r):=by
 refine zy c4F [] [] [] Tryz.func128 rfl ?_
 refine⟨rfl, ?_⟩
 refine cy hm (w7 l.Owner) fun x1 hm=> ?_
 apply vb hm<;>intro _ hm
 apply vb hm<;>intro _ hm
 refine cy hm (j9 l.No 1 40) fun x5 hm=> ?_
 apply vb hm<;>intro _ hm
 refine cy hm (H4 l.Thing) fun x8 hm=> ?_
 apply vb hm<;>intro _ hm
 refine cy hm (j2 l.Thing) fun x11 hm=> ?_
 apply vb hm<;>intro _ hm
 refine cy hm (a0M l.From l.Until) fun x14 hm=> ?_
 exact hm.rr
 exact hm.rr
 exact hm.rr
 exact hm.rr
 exact hm.rr
 exact hm.rr
def C8 (x:b4) (c_0:Int):Option Bool:=
 Option.bind (V8 x c_0) fun x1=>
 some (!x1)
theorem W9 (x:b4) (c_0:Int) (r:Bool) (hm:C8 x c_0=some r):d7 Tryz.prog 177 [.agg (b4.c x), .ptr [.fn 128 [] [.ptr [DI c_0] 0]] 0] (fun x=>x=DB r):=by
 refine zn Tryz.func177 rfl ?_
 refine cy hm (a7K x c_0) fun x1 hm=> ?_
 exact hm.rr
def o0 (s:(List b4)) (c1_0:Int):Int→Option (Sum Int (Sum Int Int)):=fun v7=>
 if(decide (v7<(s.length:Int)))=true then
  Option.bind (idx s v7) fun e15=>
  Option.bind (C8 e15 c1_0) fun x17=>
  if x17=true then
   some (.inr (.inr v7))
  else
   some (.inl (W (v7+1)))
 else
  some (.inr (.inl v7))
def o8 (s:(List b4)) (c1_0:Int):Option Int:=
 Option.bind (l8 (o0 s c1_0) 0) fun e=>
 match e with
 | .inl v20=>
  some (-1)
 | .inr rr21=>
  some rr21
theorem D9 (s:(List b4)) (c1_0:Int) (r:Int) (hm:o8 s c1_0=some r):d7 Tryz.prog 190 [lD 6 s b4.c, .fn 177 [] [.ptr [.fn 128 [] [.ptr [DI c1_0] 0]] 0]] (fun x=>x=DI r):=by
 refine zn Tryz.func190 rfl ?_
 obtain⟨ev22,he,hk23⟩:=b5 hm
 refine u4.ofL (o0 s c1_0) (fun v7=>⟨[(0,lD 6 s b4.c),(1, .fn 177 [] [.ptr [.fn 128 [] [.ptr [DI c1_0] 0]] 0]),(4,DI 0),(7,DI (s.length:Int)),(8,DI v7)], [],0⟩) 0 (c5.of 0 rfl (tA rfl) trivial) he ?_
 rintro fu24 v7 b hm hi25
 apply vb hm<;>intro _ hm
 obtain⟨e27,hx28,hm⟩:=b5 hm
 refine⟨_,d9 (fun _=>rfl) hx28, ?_⟩
 refine cy hm (W9 e27 c1_0) fun x29 hm=> ?_
 apply vb hm<;>intro _ hm
 cases hm
 cases hi25
 have hm:=hk23
 exact hm.rr
 cases hm
 exact⟨(_,(W (v7+1))),c5.of 0 rfl (tA rfl) trivial,hi25,Nat.lt_succ_self _⟩
 cases hm
 cases hi25
 have hm:=hk23
 exact hm.rr
def o5 (s:(List b4)) (c1_0:Int):Option Bool:=
 Option.bind (o8 s c1_0) fun x1=>
 some (decide (x1≥0))
theorem B9 (s:(List b4)) (c1_0:Int) (r:Bool) (hm:o5 s c1_0=some r):d7 Tryz.prog 165 [lD 6 s b4.c, .fn 177 [] [.ptr [.fn 128 [] [.ptr [DI c1_0] 0]] 0]] (fun x=>x=DB r):=by
 refine zn Tryz.func165 rfl ?_
 refine cy hm (D9 s c1_0) fun x1 hm=> ?_
 exact hm.rr
def E4 (l:(List b4)) (most:Int) (c2_0:Int):Option Bool:=
 if(decide ((l.length:Int)≤most))=true then
  Option.bind (o5 l c2_0) fun x2=>
  some (!x2)
 else
  some false
theorem Z1 (l:(List b4)) (most:Int) (c2_0:Int) (r:Bool) (hm:E4 l most c2_0=some r):d7 Tryz.prog 134 [lD 6 l b4.c,DI most, .fn 128 [] [.ptr [DI c2_0] 0]] (fun x=>x=DB r):=by
 refine zn Tryz.func134 rfl ?_
 apply vb hm<;>intro _ hm
 refine co hm (B9 l c2_0) fun x2 hm=> ?_
 exact hm.rr
 exact hm.rr
def H8 (l:(List a8)):Int→Option (Sum Int (Sum Int Bool)):=fun i9=>
 if(decide (i9<(l.length:Int)))=true then
  Option.bind (idx l (W (i9-1))) fun e19=>
  Option.bind (idx l i9) fun e21=>
  Option.bind (E2 e19 e21) fun x23=>
  if(decide (x23≥0))=true then
   some (.inr (.inr false))
  else
   some (.inl (W (i9+1)))
 else
  some (.inr (.inl i9))
def B2 (l:(List a8)):Option Bool:=
 Option.bind (l8 (H8 l) 1) fun e=>
 match e with
 | .inl i26=>
  some true
 | .inr rr27=>
  some rr27
theorem S9 (l:(List a8)) (r:Bool) (hm:B2 l=some r):d7 Tryz.prog 135 [lD 4 l a8.c, .fn 136 [] []] (fun x=>x=DB r):=by
 refine zy c4i [] [] [] Tryz.func135 rfl ?_
 obtain⟨ev28,he,hk29⟩:=b5 hm
 refine u4.ofL (H8 l) (fun i9=>⟨[(0,lD 4 l a8.c),(1, .fn 136 [] []),(4,DB false),(5,DI i9)], [],0⟩) 1 (c5.of 0 rfl (tA rfl) trivial) he ?_
 rintro fu30 i9 b hm hi31
 apply vb hm<;>intro _ hm
 refine⟨rfl, ?_⟩
 obtain⟨e33,hx34,hm⟩:=b5 hm
 refine⟨_,d9 (fun _=>rfl) hx34, ?_⟩
 obtain⟨e35,hx36,hm⟩:=b5 hm
 refine⟨_,d9 (fun _=>rfl) hx36, ?_⟩
 refine cy hm (Y9 e33 e35) fun x37 hm=> ?_
 apply vb hm<;>intro _ hm
 cases hm
 cases hi31
 have hm:=hk29
 exact hm.rr
 cases hm
 exact⟨(_,(W (i9+1))),c5.of 0 rfl (tA rfl) trivial,hi31,Nat.lt_succ_self _⟩
 cases hm
 cases hi31
 have hm:=hk29
 exact hm.rr
def I4 (l:(List b9)):Int→Option (Sum Int (Sum Int Bool)):=fun i9=>
 if(decide (i9<(l.length:Int)))=true then
  Option.bind (idx l (W (i9-1))) fun e19=>
  Option.bind (idx l i9) fun e21=>
  Option.bind (G4 e19 e21) fun x23=>
  if(decide (x23≥0))=true then
   some (.inr (.inr false))
  else
   some (.inl (W (i9+1)))
 else
  some (.inr (.inl i9))
def C6 (l:(List b9)):Option Bool:=
 Option.bind (l8 (I4 l) 1) fun e=>
 match e with
 | .inl i26=>
  some true
 | .inr rr27=>
  some rr27
theorem W5 (l:(List b9)) (r:Bool) (hm:C6 l=some r):d7 Tryz.prog 137 [lD 6 l b9.c, .fn 89 [] []] (fun x=>x=DB r):=by
 refine zy c4J [] [] [] Tryz.func137 rfl ?_
 obtain⟨ev28,he,hk29⟩:=b5 hm
 refine u4.ofL (I4 l) (fun i9=>⟨[(0,lD 6 l b9.c),(1, .fn 89 [] []),(4,DB false),(5,DI i9)], [],0⟩) 1 (c5.of 0 rfl (tA rfl) trivial) he ?_
 rintro fu30 i9 b hm hi31
 apply vb hm<;>intro _ hm
 refine⟨rfl, ?_⟩
 obtain⟨e33,hx34,hm⟩:=b5 hm
 refine⟨_,d9 (fun _=>rfl) hx34, ?_⟩
 obtain⟨e35,hx36,hm⟩:=b5 hm
 refine⟨_,d9 (fun _=>rfl) hx36, ?_⟩
 refine cy hm (a0k e33 e35) fun x37 hm=> ?_
 apply vb hm<;>intro _ hm
 cases hm
 cases hi31
 have hm:=hk29
 exact hm.rr
 cases hm
 exact⟨(_,(W (i9+1))),c5.of 0 rfl (tA rfl) trivial,hi31,Nat.lt_succ_self _⟩
 cases hm
 cases hi31
 have hm:=hk29
 exact hm.rr
def H5 (l:(List a7)):Int→Option (Sum Int (Sum Int Bool)):=fun i9=>
 if(decide (i9<(l.length:Int)))=true then
  Option.bind (idx l (W (i9-1))) fun e19=>
  Option.bind (idx l i9) fun e21=>
  Option.bind (E5 e19 e21) fun x23=>
  if(decide (x23≥0))=true then
   some (.inr (.inr false))
  else
   some (.inl (W (i9+1)))
 else
  some (.inr (.inl i9))
def z8 (l:(List a7)):Option Bool:=
 Option.bind (l8 (H5 l) 1) fun e=>
 match e with
 | .inl i26=>
  some true
 | .inr rr27=>
  some rr27
theorem S4 (l:(List a7)) (r:Bool) (hm:z8 l=some r):d7 Tryz.prog 138 [lD 4 l a7.c, .fn 139 [] []] (fun x=>x=DB r):=by
 refine zy c3D [] [] [] Tryz.func138 rfl ?_
 obtain⟨ev28,he,hk29⟩:=b5 hm
 refine u4.ofL (H5 l) (fun i9=>⟨[(0,lD 4 l a7.c),(1, .fn 139 [] []),(4,DB false),(5,DI i9)], [],0⟩) 1 (c5.of 0 rfl (tA rfl) trivial) he ?_
 rintro fu30 i9 b hm hi31
 apply vb hm<;>intro _ hm
 refine⟨rfl, ?_⟩
 obtain⟨e33,hx34,hm⟩:=b5 hm
 refine⟨_,d9 (fun _=>rfl) hx34, ?_⟩
 obtain⟨e35,hx36,hm⟩:=b5 hm
 refine⟨_,d9 (fun _=>rfl) hx36, ?_⟩
 refine cy hm (Z3 e33 e35) fun x37 hm=> ?_
 apply vb hm<;>intro _ hm
 cases hm
 cases hi31
 have hm:=hk29
 exact hm.rr
 cases hm
 exact⟨(_,(W (i9+1))),c5.of 0 rfl (tA rfl) trivial,hi31,Nat.lt_succ_self _⟩
 cases hm
 cases hi31
 have hm:=hk29
 exact hm.rr
def H9 (l:(List b4)):Int→Option (Sum Int (Sum Int Bool)):=fun i9=>
 if(decide (i9<(l.length:Int)))=true then
  Option.bind (idx l (W (i9-1))) fun e19=>
  Option.bind (idx l i9) fun e21=>
  Option.bind (E3 e19 e21) fun x23=>
  if(decide (x23≥0))=true then
   some (.inr (.inr false))
  else
   some (.inl (W (i9+1)))
 else
  some (.inr (.inl i9))
def B1 (l:(List b4)):Option Bool:=
 Option.bind (l8 (H9 l) 1) fun e=>
 match e with
 | .inl i26=>
  some true
 | .inr rr27=>
  some rr27
theorem U8 (l:(List b4)) (r:Bool) (hm:B1 l=some r):d7 Tryz.prog 140 [lD 6 l b4.c, .fn 95 [] []] (fun x=>x=DB r):=by
 refine zy c3O [] [] [] Tryz.func140 rfl ?_
 obtain⟨ev28,he,hk29⟩:=b5 hm
 refine u4.ofL (H9 l) (fun i9=>⟨[(0,lD 6 l b4.c),(1, .fn 95 [] []),(4,DB false),(5,DI i9)], [],0⟩) 1 (c5.of 0 rfl (tA rfl) trivial) he ?_
 rintro fu30 i9 b hm hi31
 apply vb hm<;>intro _ hm
 refine⟨rfl, ?_⟩
 obtain⟨e33,hx34,hm⟩:=b5 hm
 refine⟨_,d9 (fun _=>rfl) hx34, ?_⟩
 obtain⟨e35,hx36,hm⟩:=b5 hm
 refine⟨_,d9 (fun _=>rfl) hx36, ?_⟩
 refine cy hm (Y7 e33 e35) fun x37 hm=> ?_
 apply vb hm<;>intro _ hm
 cases hm
 cases hi31
 have hm:=hk29
 exact hm.rr
 cases hm
 exact⟨(_,(W (i9+1))),c5.of 0 rfl (tA rfl) trivial,hi31,Nat.lt_succ_self _⟩
 cases hm
 cases hi31
 have hm:=hk29
 exact hm.rr
def a1c (c:b9) (c_0:b9):Option Bool:=
 some (c.Ballot==c_0.Ballot)
theorem a7H (c:b9) (c_0:b9) (r:Bool) (hm:a1c c c_0=some r):d7 Tryz.prog 142 [.agg (b9.c c), .ptr (b9.c c_0) 0] (fun x=>x=DB r):=by
 refine zn Tryz.func142 rfl ?_
 exact hm.rr
def D1 (s:(List b9)) (c1_0:b9):Int→Option (Sum Int (Sum Int Int)):=fun v7=>
 if(decide (v7<(s.length:Int)))=true then
  Option.bind (idx s v7) fun e15=>
  Option.bind (a1c e15 c1_0) fun x17=>
  if x17=true then
   some (.inr (.inr v7))
  else
   some (.inl (W (v7+1)))
 else
  some (.inr (.inl v7))
def F2 (s:(List b9)) (c1_0:b9):Option Int:=
 Option.bind (l8 (D1 s c1_0) 0) fun e=>
 match e with
 | .inl v20=>
  some (-1)
 | .inr rr21=>
  some rr21
theorem N5 (s:(List b9)) (c1_0:b9) (r:Int) (hm:F2 s c1_0=some r):d7 Tryz.prog 178 [lD 6 s b9.c, .fn 142 [] [.ptr (b9.c c1_0) 0]] (fun x=>x=DI r):=by
 refine zn Tryz.func178 rfl ?_
 obtain⟨ev22,he,hk23⟩:=b5 hm
 refine u4.ofL (D1 s c1_0) (fun v7=>⟨[(0,lD 6 s b9.c),(1, .fn 142 [] [.ptr (b9.c c1_0) 0]),(4,DI 0),(7,DI (s.length:Int)),(8,DI v7)], [],0⟩) 0 (c5.of 0 rfl (tA rfl) trivial) he ?_
 rintro fu24 v7 b hm hi25
 apply vb hm<;>intro _ hm
 obtain⟨e27,hx28,hm⟩:=b5 hm
 refine⟨_,d9 (fun _=>rfl) hx28, ?_⟩
 refine cy hm (a7H e27 c1_0) fun x29 hm=> ?_
 apply vb hm<;>intro _ hm
 cases hm
 cases hi25
 have hm:=hk23
 exact hm.rr
 cases hm
 exact⟨(_,(W (v7+1))),c5.of 0 rfl (tA rfl) trivial,hi25,Nat.lt_succ_self _⟩
 cases hm
 cases hi25
 have hm:=hk23
 exact hm.rr
def C9 (s:(List b9)) (c1_0:b9):Option Bool:=
 Option.bind (F2 s c1_0) fun x1=>
 some (decide (x1≥0))
theorem M1 (s:(List b9)) (c1_0:b9) (r:Bool) (hm:C9 s c1_0=some r):d7 Tryz.prog 141 [lD 6 s b9.c, .fn 142 [] [.ptr (b9.c c1_0) 0]] (fun x=>x=DB r):=by
 refine zn Tryz.func141 rfl ?_
 refine cy hm (N5 s c1_0) fun x1 hm=> ?_
 exact hm.rr
def a0X (o:b6) (c_0:b6):Option Bool:=
 if(o.Thing==c_0.Thing)=true then
  Option.bind (a0F o c_0) fun x2=>
  some x2
 else
  some false
theorem a7X (o:b6) (c_0:b6) (r:Bool) (hm:a0X o c_0=some r):d7 Tryz.prog 144 [.agg (b6.c o), .ptr (b6.c c_0) 0] (fun x=>x=DB r):=by
 refine zn Tryz.func144 rfl ?_
 apply vb hm<;>intro _ hm
 refine cy hm (a7z o c_0) fun x2 hm=> ?_
 exact hm.rr
 exact hm.rr
def A0 (s:(List b6)) (c1_0:b6):Int→Option (Sum Int (Sum Int Int)):=fun v7=>
 if(decide (v7<(s.length:Int)))=true then
  Option.bind (idx s v7) fun e15=>
  Option.bind (a0X e15 c1_0) fun x17=>
  if x17=true then
   some (.inr (.inr v7))
  else
   some (.inl (W (v7+1)))
 else
  some (.inr (.inl v7))
def B7 (s:(List b6)) (c1_0:b6):Option Int:=
 Option.bind (l8 (A0 s c1_0) 0) fun e=>
 match e with
 | .inl v20=>
  some (-1)
 | .inr rr21=>
  some rr21
theorem L6 (s:(List b6)) (c1_0:b6) (r:Int) (hm:B7 s c1_0=some r):d7 Tryz.prog 179 [lD 5 s b6.c, .fn 144 [] [.ptr (b6.c c1_0) 0]] (fun x=>x=DI r):=by
 refine zn Tryz.func179 rfl ?_
 obtain⟨ev22,he,hk23⟩:=b5 hm
 refine u4.ofL (A0 s c1_0) (fun v7=>⟨[(0,lD 5 s b6.c),(1, .fn 144 [] [.ptr (b6.c c1_0) 0]),(4,DI 0),(7,DI (s.length:Int)),(8,DI v7)], [],0⟩) 0 (c5.of 0 rfl (tA rfl) trivial) he ?_
 rintro fu24 v7 b hm hi25
 apply vb hm<;>intro _ hm
 obtain⟨e27,hx28,hm⟩:=b5 hm
 refine⟨_,d9 (fun _=>rfl) hx28, ?_⟩
 refine cy hm (a7X e27 c1_0) fun x29 hm=> ?_
 apply vb hm<;>intro _ hm
 cases hm
 cases hi25
 have hm:=hk23
 exact hm.rr
 cases hm
 exact⟨(_,(W (v7+1))),c5.of 0 rfl (tA rfl) trivial,hi25,Nat.lt_succ_self _⟩
 cases hm
 cases hi25
 have hm:=hk23
 exact hm.rr
def A1 (s:(List b6)) (c1_0:b6):Option Bool:=
 Option.bind (B7 s c1_0) fun x1=>
 some (decide (x1≥0))
theorem K5 (s:(List b6)) (c1_0:b6) (r:Bool) (hm:A1 s c1_0=some r):d7 Tryz.prog 143 [lD 5 s b6.c, .fn 144 [] [.ptr (b6.c c1_0) 0]] (fun x=>x=DB r):=by
 refine zn Tryz.func143 rfl ?_
 refine cy hm (L6 s c1_0) fun x1 hm=> ?_
 exact hm.rr
def M8 (s:b7):Int→Option (Sum Int (Sum Int Bool)):=fun v41=>
 if(decide (v41<(s.Bids.length:Int)))=true then
  Option.bind (idx s.Bids v41) fun e50=>
  gd ((0≤v41∧v41≤(s.Bids.length:Int)))<|
  Option.bind (some (sub s.Bids 0 (v41).toNat)) fun sl52=>
  Option.bind (C9 sl52 e50) fun x53=>
  if x53=true then
   some (.inr (.inr false))
  else
   some (.inl (W (v41+1)))
 else
  some (.inr (.inl v41))
def M9 (s:b7):Int→Option (Sum Int (Sum Int Bool)):=fun v65=>
 if(decide (v65<(s.Leases.length:Int)))=true then
  Option.bind (idx s.Leases v65) fun e75=>
  if(e75.No !=(W (v65+1)))=true then
   some (.inr (.inr false))
  else
   gd ((0≤v65∧v65≤(s.Leases.length:Int)))<|
   Option.bind (some (sub s.Leases 0 (v65).toNat)) fun sl78=>
   Option.bind (A1 sl78 e75) fun x79=>
   if x79=true then
    some (.inr (.inr false))
   else
    some (.inl (W (v65+1)))
 else
  some (.inr (.inl v65))
def O1 (me:Int) (s:b7):Option Bool:=
 Option.bind (u2 me) fun x1=>
 if(!x1)=true then
  some false
 else
  Option.bind (i6 s.Round 0 9999) fun x4=>
  if(!x4)=true then
   some false
  else
   Option.bind (H3 s.Slots 12) fun x7=>
   if(!x7)=true then
    some false
   else
    Option.bind (F4 s.Bids 12 s me) fun x10=>
    if(!x10)=true then
     some false
    else
     Option.bind (D4 s.Heard 60) fun x13=>
     if(!x13)=true then
      some false
     else
      Option.bind (D7 s.Leases 40 me) fun x16=>
      if(!x16)=true then
       some false
      else
       Option.bind (E4 s.Loans 60 me) fun x19=>
       if(!x19)=true then
        some false
       else
        Option.bind (B2 s.Slots) fun x22=>
        if(!x22)=true then
         some false
        else
         Option.bind (C6 s.Bids) fun x25=>
         if(!x25)=true then
          some false
         else
          Option.bind (z8 s.Heard) fun x28=>
          if(!x28)=true then
           some false
          else
           Option.bind (B1 s.Loans) fun x31=>
           if(!x31)=true then
            some false
           else
            Option.bind (l8 (M8 s) 0) fun e=>
            match e with
            | .inl v56=>
             Option.bind (l8 (M9 s) 0) fun e=>
             match e with
             | .inl v82=>
              some true
             | .inr rr83=>
              some rr83
            | .inr rr96=>
             some rr96
theorem a2c (me:Int) (s:b7) (r:Bool) (hm:O1 me s=some r):d7 Tryz.prog 73 [DI me, .agg (b7.c s)] (fun x=>x=DB r):=by
 refine zn Tryz.func73 rfl ?_
 refine cy hm (w7 me) fun x1 hm=> ?_
 apply vb hm<;>intro _ hm
 exact hm.rr
 refine cy hm (j9 s.Round 0 9999) fun x4 hm=> ?_
 apply vb hm<;>intro _ hm
 exact hm.rr
 refine cy hm (a0t s.Slots 12) fun x7 hm=> ?_
 apply vb hm<;>intro _ hm
 exact hm.rr
 refine co hm (Z7 s.Bids 12 s me) fun x10 hm=> ?_
 apply vb hm<;>intro _ hm
 exact hm.rr
 refine cy hm (Y3 s.Heard 60) fun x13 hm=> ?_
 apply vb hm<;>intro _ hm
 exact hm.rr
 refine co hm (X8 s.Leases 40 me) fun x16 hm=> ?_
 apply vb hm<;>intro _ hm
 exact hm.rr
 refine co hm (Z1 s.Loans 60 me) fun x19 hm=> ?_
 apply vb hm<;>intro _ hm
 exact hm.rr
 refine cy hm (S9 s.Slots) fun x22 hm=> ?_
 apply vb hm<;>intro _ hm
 exact hm.rr
 refine cy hm (W5 s.Bids) fun x25 hm=> ?_
 apply vb hm<;>intro _ hm
 exact hm.rr
 refine cy hm (S4 s.Heard) fun x28 hm=> ?_
 apply vb hm<;>intro _ hm
 exact hm.rr
 refine cy hm (U8 s.Loans) fun x31 hm=> ?_
 apply vb hm<;>intro _ hm
 exact hm.rr
 obtain⟨ev97,he,hk98⟩:=b5 hm
 refine u4.ofL (M8 s) (fun v41=>⟨[(0,DI me),(1, .agg (b7.c s)),(2, .own 0 0),(3, .own 1 0),(4,DB false),(5, .fn 122 [] [.own 1 0, .own 0 0]),(6, .fn 124 [] []),(7, .fn 126 [] [.own 0 0]),(8, .fn 128 [] [.own 0 0]),(58,DB (!x19)),(80,DB (!x31)),(82,lD 6 s.Bids b9.c),(83,DI (s.Bids.length:Int)),(84,DI v41)], [(0, .blk [DI me] 3),(1, .blk (b7.c s) 28)],2⟩) 0 (c5.of 2 rfl (tA rfl) ⟨hR rfl,hR rfl,trivial⟩) he ?_
 rintro fu99 v41 b hm hi100
 apply vb hm<;>intro _ hm
 obtain⟨e102,hx103,hm⟩:=b5 hm
 refine⟨_,d9 (fun _=>rfl) hx103, ?_⟩
 obtain⟨hg,hm⟩:=c6 hm
 obtain⟨sl104,hy,hm⟩:=b5 hm
 refine⟨hg,_,(b4Z (c:=b9.c) (z:=6) (fun _=>rfl) _ _ _).trans (congrArg _ (Option.some.inj hy)), ?_⟩
 have hl:sl104.length=(v41).toNat-0:=by rw [←Option.some.inj hy];exact b8a (by omega)
 rw [←hl]
 refine co hm (M1 sl104 e102) fun x105 hm=> ?_
 apply vb hm<;>intro _ hm
 cases hm
 cases hi100
 have hm:=hk98
 exact hm.rr
 cases hm
 exact⟨(_,(W (v41+1))),c5.of 2 rfl (tA rfl) ⟨hR rfl,hR rfl,trivial⟩,hi100,Nat.lt_succ_self _⟩
 cases hm
 cases hi100
 have hm:=hk98
 obtain⟨ev135,he,hk136⟩:=b5 hm
 refine u4.ofL (M9 s) (fun v116=>⟨[(0,DI me),(1, .agg (b7.c s)),(2, .own 0 0),(3, .own 1 0),(4,DB false),(5, .fn 122 [] [.own 1 0, .own 0 0]),(6, .fn 124 [] []),(7, .fn 126 [] [.own 0 0]),(8, .fn 128 [] [.own 0 0]),(58,DB (!x19)),(80,DB (!x31)),(82,lD 6 s.Bids b9.c),(83,DI (s.Bids.length:Int)),(84,DI v41),(85,DB (decide (v41<(s.Bids.length:Int)))),(97,lD 5 s.Leases b6.c),(98,DI (s.Leases.length:Int)),(99,DI v116)], [(0, .blk [DI me] 3),(1, .blk (b7.c s) 28)],2⟩) 0 (c5.of 2 rfl (tA rfl) ⟨hR rfl,hR rfl,trivial⟩) he ?_
 rintro fu137 v116 b hm hi138
 apply vb hm<;>intro _ hm
 obtain⟨e140,hx141,hm⟩:=b5 hm
 refine⟨_,d9 (fun _=>rfl) hx141, ?_⟩
 apply vb hm<;>intro _ hm
 cases hm
 cases hi138
 have hm:=hk136
 exact hm.rr
 obtain⟨hg,hm⟩:=c6 hm
 obtain⟨sl143,hy,hm⟩:=b5 hm
 refine⟨hg,_,(b4Z (c:=b6.c) (z:=5) (fun _=>rfl) _ _ _).trans (congrArg _ (Option.some.inj hy)), ?_⟩
 have hl:sl143.length=(v116).toNat-0:=by rw [←Option.some.inj hy];exact b8a (by omega)
 rw [←hl]
 refine co hm (K5 sl143 e140) fun x144 hm=> ?_
 apply vb hm<;>intro _ hm
 cases hm
 cases hi138
 have hm:=hk136
 exact hm.rr
 cases hm
 exact⟨(_,(W (v116+1))),c5.of 2 rfl (tA rfl) ⟨hR rfl,hR rfl,trivial⟩,hi138,Nat.lt_succ_self _⟩
 cases hm
 cases hi138
 have hm:=hk136
 exact hm.rr
def a0b (x:a6):Option Int:=
 Option.bind (O1 x.Me x.Now) fun x1=>
 if(!x1)=true then
  some 90
 else
  Option.bind (O1 x.Me x.Safe) fun x4=>
  if(!x4)=true then
   some 90
  else
   some 0
theorem U2 (x:a6) (r:Int) (hm:a0b x=some r):d7 Tryz.prog 27 [.agg (a6.c x)] (fun x=>x=DI r):=by
 refine zn Tryz.func27 rfl ?_
 refine cy hm (a2c x.Me x.Now) fun x1 hm=> ?_
 apply vb hm<;>intro _ hm
 exact hm.rr
 refine cy hm (a2c x.Me x.Safe) fun x4 hm=> ?_
 apply vb hm<;>intro _ hm
 exact hm.rr
 exact hm.rr
def E8 (s:List a8):Option (List a8):=gd (s.length*32≤140737488355328∧s.length≤9223372036854775807) (some s)
theorem a1H (s:List a8) (r:List a8) (hm:E8 s=some r):d7 Tryz.prog 112 [.lst 4 s.length (s.flatMap a8.c)] (fun x=>x= .lst 4 r.length (r.flatMap a8.c)):=by
 obtain⟨hg,hm⟩:=c6 hm
 cases hm
 refine zn Tryz.func112 rfl ?_
 intro b hb
 refine VIf.mk (fun h=> ?_) (fun h=> ?_)
 · have h0:=hb h
   have h1:s= []:=List.eq_nil_of_length_eq_zero h0
   subst h1
   exact d0.le leD.nil
 · refine⟨[],0,⟨rfl,rfl⟩, ?_⟩
   exact⟨by omega,s.flatMap a8.c,s.length,⟨rfl,Nat.zero_add _⟩,d0.le (leD.refl _)⟩
theorem a1E (s:List a8) (r:List a8) (hm:E8 s=some r):b0n Tryz.prog 112 [.lst 4 s.length (s.flatMap a8.c)] 4 r.length (r.flatMap a8.c) 110:=by
 obtain⟨hg,hm⟩:=c6 hm
 cases hm
 refine a8V (X:=⟨Tryz.prog,tt,Tryz.f112.ntmps, [], [], [], [], [], []⟩) pok _ Tryz.func112 rfl rfl (Nat.le_of_ble_eq_true rfl) ?_
 intro b hb
 refine VIf.mk (fun h=> ?_) (fun h=> ?_)
 · have h0:=hb h
   have h1:s= []:=List.eq_nil_of_length_eq_zero h0
   subst h1
   exact⟨rfl,rfl⟩
 · refine⟨[],0,⟨rfl,rfl⟩, ?_⟩
   exact⟨by omega,s.flatMap a8.c,s.length,⟨rfl,Nat.zero_add _⟩,⟨rfl,rfl⟩⟩
def G9 (s:List b9):Option (List b9):=gd (s.length*48≤140737488355328∧s.length≤9223372036854775807) (some s)
theorem a2j (s:List b9) (r:List b9) (hm:G9 s=some r):d7 Tryz.prog 113 [.lst 6 s.length (s.flatMap b9.c)] (fun x=>x= .lst 6 r.length (r.flatMap b9.c)):=by
 obtain⟨hg,hm⟩:=c6 hm
 cases hm
 refine zn Tryz.func113 rfl ?_
 intro b hb
 refine VIf.mk (fun h=> ?_) (fun h=> ?_)
 · have h0:=hb h
   have h1:s= []:=List.eq_nil_of_length_eq_zero h0
   subst h1
   exact d0.le leD.nil
 · refine⟨[],0,⟨rfl,rfl⟩, ?_⟩
   exact⟨by omega,s.flatMap b9.c,s.length,⟨rfl,Nat.zero_add _⟩,d0.le (leD.refl _)⟩
theorem a2u (s:List b9) (r:List b9) (hm:G9 s=some r):b0n Tryz.prog 113 [.lst 6 s.length (s.flatMap b9.c)] 6 r.length (r.flatMap b9.c) 108:=by
 obtain⟨hg,hm⟩:=c6 hm
 cases hm
 refine a8V (X:=⟨Tryz.prog,tt,Tryz.f113.ntmps, [], [], [], [], [], []⟩) pok _ Tryz.func113 rfl rfl (Nat.le_of_ble_eq_true rfl) ?_
 intro b hb
 refine VIf.mk (fun h=> ?_) (fun h=> ?_)
 · have h0:=hb h
   have h1:s= []:=List.eq_nil_of_length_eq_zero h0
   subst h1
   exact⟨rfl,rfl⟩
 · refine⟨[],0,⟨rfl,rfl⟩, ?_⟩
   exact⟨by omega,s.flatMap b9.c,s.length,⟨rfl,Nat.zero_add _⟩,⟨rfl,rfl⟩⟩
def C7 (s:List a7):Option (List a7):=gd (s.length*32≤140737488355328∧s.length≤9223372036854775807) (some s)
theorem a0Y (s:List a7) (r:List a7) (hm:C7 s=some r):d7 Tryz.prog 114 [.lst 4 s.length (s.flatMap a7.c)] (fun x=>x= .lst 4 r.length (r.flatMap a7.c)):=by
 obtain⟨hg,hm⟩:=c6 hm
 cases hm
 refine zn Tryz.func114 rfl ?_
 intro b hb
 refine VIf.mk (fun h=> ?_) (fun h=> ?_)
 · have h0:=hb h
   have h1:s= []:=List.eq_nil_of_length_eq_zero h0
   subst h1
   exact d0.le leD.nil
 · refine⟨[],0,⟨rfl,rfl⟩, ?_⟩
   exact⟨by omega,s.flatMap a7.c,s.length,⟨rfl,Nat.zero_add _⟩,d0.le (leD.refl _)⟩
theorem a0V (s:List a7) (r:List a7) (hm:C7 s=some r):b0n Tryz.prog 114 [.lst 4 s.length (s.flatMap a7.c)] 4 r.length (r.flatMap a7.c) 149:=by
 obtain⟨hg,hm⟩:=c6 hm
 cases hm
 refine a8V (X:=⟨Tryz.prog,tt,Tryz.f114.ntmps, [], [], [], [], [], []⟩) pok _ Tryz.func114 rfl rfl (Nat.le_of_ble_eq_true rfl) ?_
 intro b hb
 refine VIf.mk (fun h=> ?_) (fun h=> ?_)
 · have h0:=hb h
   have h1:s= []:=List.eq_nil_of_length_eq_zero h0
   subst h1
   exact⟨rfl,rfl⟩
 · refine⟨[],0,⟨rfl,rfl⟩, ?_⟩
   exact⟨by omega,s.flatMap a7.c,s.length,⟨rfl,Nat.zero_add _⟩,⟨rfl,rfl⟩⟩
def C4 (s:List b6):Option (List b6):=gd (s.length*40≤140737488355328∧s.length≤9223372036854775807) (some s)
theorem a1d (s:List b6) (r:List b6) (hm:C4 s=some r):d7 Tryz.prog 115 [.lst 5 s.length (s.flatMap b6.c)] (fun x=>x= .lst 5 r.length (r.flatMap b6.c)):=by
 obtain⟨hg,hm⟩:=c6 hm
 cases hm
 refine zn Tryz.func115 rfl ?_
 intro b hb
 refine VIf.mk (fun h=> ?_) (fun h=> ?_)
 · have h0:=hb h
   have h1:s= []:=List.eq_nil_of_length_eq_zero h0
   subst h1
   exact d0.le leD.nil
 · refine⟨[],0,⟨rfl,rfl⟩, ?_⟩
   exact⟨by omega,s.flatMap b6.c,s.length,⟨rfl,Nat.zero_add _⟩,d0.le (leD.refl _)⟩
theorem a0U (s:List b6) (r:List b6) (hm:C4 s=some r):b0n Tryz.prog 115 [.lst 5 s.length (s.flatMap b6.c)] 5 r.length (r.flatMap b6.c) 112:=by
 obtain⟨hg,hm⟩:=c6 hm
 cases hm
 refine a8V (X:=⟨Tryz.prog,tt,Tryz.f115.ntmps, [], [], [], [], [], []⟩) pok _ Tryz.func115 rfl rfl (Nat.le_of_ble_eq_true rfl) ?_
 intro b hb
 refine VIf.mk (fun h=> ?_) (fun h=> ?_)
 · have h0:=hb h
   have h1:s= []:=List.eq_nil_of_length_eq_zero h0
   subst h1
   exact⟨rfl,rfl⟩
 · refine⟨[],0,⟨rfl,rfl⟩, ?_⟩
   exact⟨by omega,s.flatMap b6.c,s.length,⟨rfl,Nat.zero_add _⟩,⟨rfl,rfl⟩⟩
def F3 (s:List b4):Option (List b4):=gd (s.length*48≤140737488355328∧s.length≤9223372036854775807) (some s)
theorem a1J (s:List b4) (r:List b4) (hm:F3 s=some r):d7 Tryz.prog 116 [.lst 6 s.length (s.flatMap b4.c)] (fun x=>x= .lst 6 r.length (r.flatMap b4.c)):=by
 obtain⟨hg,hm⟩:=c6 hm
 cases hm
 refine zn Tryz.func116 rfl ?_
 intro b hb
 refine VIf.mk (fun h=> ?_) (fun h=> ?_)
 · have h0:=hb h
   have h1:s= []:=List.eq_nil_of_length_eq_zero h0
   subst h1
   exact d0.le leD.nil
 · refine⟨[],0,⟨rfl,rfl⟩, ?_⟩
   exact⟨by omega,s.flatMap b4.c,s.length,⟨rfl,Nat.zero_add _⟩,d0.le (leD.refl _)⟩
theorem a1L (s:List b4) (r:List b4) (hm:F3 s=some r):b0n Tryz.prog 116 [.lst 6 s.length (s.flatMap b4.c)] 6 r.length (r.flatMap b4.c) 114:=by
 obtain⟨hg,hm⟩:=c6 hm
 cases hm
 refine a8V (X:=⟨Tryz.prog,tt,Tryz.f116.ntmps, [], [], [], [], [], []⟩) pok _ Tryz.func116 rfl rfl (Nat.le_of_ble_eq_true rfl) ?_
 intro b hb
 refine VIf.mk (fun h=> ?_) (fun h=> ?_)
 · have h0:=hb h
   have h1:s= []:=List.eq_nil_of_length_eq_zero h0
   subst h1
   exact⟨rfl,rfl⟩
 · refine⟨[],0,⟨rfl,rfl⟩, ?_⟩
   exact⟨by omega,s.flatMap b4.c,s.length,⟨rfl,Nat.zero_add _⟩,⟨rfl,rfl⟩⟩
def D3 (s:b7):Option b7:=
 Option.bind (E8 s.Slots) fun x1=>
 Option.bind (G9 s.Bids) fun x3=>
 Option.bind (C7 s.Heard) fun x5=>
 Option.bind (C4 s.Leases) fun x7=>
 Option.bind (F3 s.Loans) fun x9=>
 some (⟨s.Round,x1,x3,x5,x7,x9⟩:b7)
theorem Y0 (s:b7) (r:b7) (hm:D3 s=some r):d7 Tryz.prog 62 [.agg (b7.c s)] (fun x=>x= .agg (b7.c r)):=by
 refine zy c3T [] [] [] Tryz.func62 rfl ?_
 refine⟨rfl, ?_⟩
 obtain⟨x1,hx2,hm⟩:=b5 hm
 refine a3v.det (a1H s.Slots _ hx2) ?_
 obtain⟨x3,hx4,hm⟩:=b5 hm
 refine a3v.det (a2j s.Bids _ hx4) ?_
 obtain⟨x5,hx6,hm⟩:=b5 hm
 refine a3v.det (a0Y s.Heard _ hx6) ?_
 obtain⟨x7,hx8,hm⟩:=b5 hm
 refine a3v.det (a1d s.Leases _ hx8) ?_
 obtain⟨x9,hx10,hm⟩:=b5 hm
 refine a3v.det (a1J s.Loans _ hx10) ?_
 cases hm
 exact d0.le (leD.refl _)
theorem J1 (s:b7) (r:b7) (hm:D3 s=some r):b3g Tryz.prog 62 [.agg (b7.c s)] [(4,r.Slots.length,r.Slots.flatMap a8.c,110),(6,r.Bids.length,r.Bids.flatMap b9.c,108),(4,r.Heard.length,r.Heard.flatMap a7.c,149),(5,r.Leases.length,r.Leases.flatMap b6.c,112),(6,r.Loans.length,r.Loans.flatMap b4.c,114)] [DI r.Round, .row 0 4, .row 1 6, .row 2 4, .row 3 5, .row 4 6]:=by
 refine b4O (X:=⟨Tryz.prog,tt,Tryz.f62.ntmps,c3T, [99,106,149,210,211,220], [112,113,114,115,116], [], [], []⟩) pok _ Tryz.func62 rfl rfl (Nat.le_of_ble_eq_true rfl) rfl ?_
 refine⟨rfl, ?_⟩
 obtain⟨x1,hx2,hm⟩:=b5 hm
 refine .inl (b2g.mk ⟨_,_,_,_,a1E s.Slots _ hx2, ?_⟩)
 obtain⟨x3,hx4,hm⟩:=b5 hm
 refine .inl (b2g.mk ⟨_,_,_,_,a2u s.Bids _ hx4, ?_⟩)
 obtain⟨x5,hx6,hm⟩:=b5 hm
 refine .inl (b2g.mk ⟨_,_,_,_,a0V s.Heard _ hx6, ?_⟩)
 obtain⟨x7,hx8,hm⟩:=b5 hm
 refine .inl (b2g.mk ⟨_,_,_,_,a0U s.Leases _ hx8, ?_⟩)
 obtain⟨x9,hx10,hm⟩:=b5 hm
 refine .inl (b2g.mk ⟨_,_,_,_,a1L s.Loans _ hx10, ?_⟩)
 cases hm
 exact⟨rfl,⟨⟨rfl,rfl⟩,⟨⟨rfl,rfl,rfl,rfl⟩,⟨⟨rfl,rfl,rfl,rfl⟩,⟨⟨rfl,rfl,rfl,rfl⟩,⟨⟨rfl,rfl,rfl,rfl⟩,⟨⟨rfl,rfl,rfl,rfl⟩,rfl⟩⟩⟩⟩⟩⟩⟩
def a0y (x:a6):Option ((Option G7)×Int):=
 Option.bind (a0b x) fun x1=>
 if(x1 !=0)=true then
  some (none,x1)
 else
  Option.bind (D3 x.Now) fun x4=>
  Option.bind (D3 x.Safe) fun x6=>
  some ((some (⟨(⟨x.Me,x4,x6⟩:a6)⟩:G7)),0)
theorem a4B (x:a6) (r:((Option G7)×Int)) (hm:a0y x=some r):d7 Tryz.prog 61 [.agg (a6.c x)] (fun x=>x= .tup [c5i G7.c r.1,DI r.2]):=by
 refine zy b8Q [] [] [] Tryz.func61 rfl ?_
 refine cy hm (U2 x) fun x1 hm=> ?_
 apply vb hm<;>intro _ hm
 cases hm
 exact d0.le (leD.refl _)
 refine⟨rfl, ?_⟩
 refine cy hm (Y0 x.Now) fun x4 hm=> ?_
 refine cy hm (Y0 x.Safe) fun x6 hm=> ?_
 cases hm
 exact d0.le (leD.refl _)
def O2 (x:a6):Option (Sum Int ((List a8)×(List b9)×(List a7)×(List b6)×(List b4)×(List a8)×(List b9)×(List a7)×(List b6)×(List b4)×Int×Int×Int)):=
 Option.bind (a0b x) fun x22=>
 if(x22 !=0)=true then
  some (.inl x22)
 else
  Option.bind (D3 x.Now) fun x25=>
  Option.bind (D3 x.Safe) fun x27=>
  some (.inr (x25.Slots,x25.Bids,x25.Heard,x25.Leases,x25.Loans,x27.Slots,x27.Bids,x27.Heard,x27.Leases,x27.Loans,x.Me,x25.Round,x27.Round))
def a8a (x:a6):Option (Sum Int (Int×Int×(List a8)×(List b9)×(List a7)×(List b6)×(List b4)×Int×(List a8)×(List b9)×(List a7)×(List b6)×(List b4))):=
 Option.bind (a0b x) fun x22=>
 if(x22 !=0)=true then
  some (.inl x22)
 else
  Option.bind (D3 x.Now) fun x25=>
  Option.bind (D3 x.Safe) fun x27=>
  some (.inr (x.Me,x25.Round,x25.Slots,x25.Bids,x25.Heard,x25.Leases,x25.Loans,x27.Round,x27.Slots,x27.Bids,x27.Heard,x27.Leases,x27.Loans))
def a3K (x:a6):Option (a6×Int):=
 Option.bind (a8a x) fun e=>
 match e with
 | .inl x8=>
  if(x8 !=0)=true then
   some ((⟨0,(⟨0, [], [], [], [], []⟩:b7),(⟨0, [], [], [], [], []⟩:b7)⟩:a6),x8)
  else
   none
 | .inr (x9,x10,x11,x12,x13,x14,x15,x16,x17,x18,x19,x20,x21)=>
  Option.bind (D3 (⟨x10,x11,x12,x13,x14,x15⟩:b7)) fun x32=>
  some ((⟨x9,(⟨x10,x11,x12,x13,x14,x15⟩:b7),x32⟩:a6),0)
theorem b1R (x:a6) (r:(a6×Int)) (hm:a3K x=some r):d7 Tryz.prog 12 [.agg (a6.c x)] (fun x=>x= .tup [.agg (a6.c r.1),DI r.2]):=by
 refine zy [] [] [] [61] Tryz.func12 rfl ?_
 obtain⟨ev29,he30,hm⟩:=b5 hm
 refine K1.ofZ pok ⟨[(0, .agg (a6.c x)),(1000000, .agg (a6.c x)),(1000001, .own 0 0),(1000002, .own 1 0),(1000003,DI 0)], [(0, .blk (a6.c x) 30),(1, .blk [DI 0,DI 0,nS,nS,nS,nS,nS,DI 0,nS,nS,nS,nS,nS] 30)],2⟩ (match ev29 with| .inl x8=>(⟨[(0, .agg (a6.c x)),(1, .own 0 0),(2, .own 1 0),(3,DI 0),(8, .tup [.v (.pointer none),DI x8])], [(0, .blk (a6.c x) 30),(1, .blk [DI 0,DI 0,nS,nS,nS,nS,nS,DI 0,nS,nS,nS,nS,nS] 30)],2⟩:Sy)| .inr (x9,x10,x11,x12,x13,x14,x15,x16,x17,x18,x19,x20,x21)=>(⟨[(0, .agg (a6.c x)),(1, .own 0 0),(2, .own 1 0),(3,DI 0),(8, .tup [.own 3 0,DI 0])], [(0, .blk (a6.c x) 30),(1, .blk [DI 0,DI 0,nS,nS,nS,nS,nS,DI 0,nS,nS,nS,nS,nS] 30),(3, .blk [DI x9,DI x10,lD 4 x11 a8.c,lD 6 x12 b9.c,lD 4 x13 a7.c,lD 5 x14 b6.c,lD 6 x15 b4.c,DI x16,lD 4 x17 a8.c,lD 6 x18 b9.c,lD 4 x19 a7.c,lD 5 x20 b6.c,lD 6 x21 b4.c] 102)],4⟩:Sy):Sy) b8Q [] [] [61] Tryz.func61 rfl rfl rfl (c5.of 2 rfl (tA rfl) ⟨hR rfl,hR rfl,trivial⟩) (fun sv=> ?_) ?_
 have hm:=he30
 refine cy hm (U2 x) fun x34 hm=> ?_
 apply vb hm<;>intro _ hm
 cases hm
 exact c5.of 2 rfl (tA rfl) ⟨hR rfl,hR rfl,trivial⟩
 refine⟨rfl, ?_⟩
 refine cy hm (Y0 x.Now) fun x37 hm=> ?_
 refine cy hm (Y0 x.Safe) fun x39 hm=> ?_
 cases hm
 exact c5.of 4 rfl (tA rfl) ⟨hR rfl,hR rfl,hR rfl,trivial⟩
 rcases ev29 with x8|⟨x9,x10,x11,x12,x13,x14,x15,x16,x17,x18,x19,x20,x21⟩
 apply vb hm<;>intro _ hm
 cases hm
 exact d0.le (⟨_,rfl,⟨⟨_,rfl,⟨leD.refl _,leD.refl _,leD.nil,leD.nil,leD.nil,leD.nil,leD.nil,leD.refl _,leD.nil,leD.nil,leD.nil,leD.nil,leD.nil,trivial⟩⟩,leD.refl _,trivial⟩⟩)
 cases hm
 refine cy hm (Y0 ((⟨x10,x11,x12,x13,x14,x15⟩:b7))) fun x32 hm=> ?_
 cases hm
 exact d0.le (leD.refl _)
def A6 (n:Int) (lo:Int) (hi:Int):Option Bool:=
 if(decide (lo≤n))=true then
  some (decide (n≤hi))
 else
  some false
theorem G0 (n:Int) (lo:Int) (hi:Int) (r:Bool) (hm:A6 n lo hi=some r):d7 Tryz.prog 74 [DI n,DI lo,DI hi] (fun x=>x=DB r):=by
 refine zn Tryz.func74 rfl ?_
 apply vb hm<;>intro _ hm
 exact hm.rr
 exact hm.rr
def L1 (n:Int):Option Bool:=
 Option.bind (A6 n 0 5) fun x1=>
 some x1
theorem R6 (n:Int) (r:Bool) (hm:L1 n=some r):d7 Tryz.prog 67 [DI n] (fun x=>x=DB r):=by
 refine zn Tryz.func67 rfl ?_
 refine cy hm (G0 n 0 5) fun x1 hm=> ?_
 exact hm.rr
def S2 (n:Int):Option Bool:=
 Option.bind (A6 n 0 100000) fun x1=>
 some x1
theorem a0C (n:Int) (r:Bool) (hm:S2 n=some r):d7 Tryz.prog 82 [DI n] (fun x=>x=DB r):=by
 refine zn Tryz.func82 rfl ?_
 refine cy hm (G0 n 0 100000) fun x1 hm=> ?_
 exact hm.rr
def U3 (n:Int):Option Bool:=
 Option.bind (A6 n 6 59999) fun x1=>
 some x1
theorem a1D (n:Int) (r:Bool) (hm:U3 n=some r):d7 Tryz.prog 83 [DI n] (fun x=>x=DB r):=by
 refine zn Tryz.func83 rfl ?_
 refine cy hm (G0 n 6 59999) fun x1 hm=> ?_
 exact hm.rr
def s7 (n:Int):Option Bool:=
 Option.bind (A6 n 1 1000000) fun x1=>
 some x1
theorem v8 (n:Int) (r:Bool) (hm:s7 n=some r):d7 Tryz.prog 85 [DI n] (fun x=>x=DB r):=by
 refine zn Tryz.func85 rfl ?_
 refine cy hm (G0 n 1 1000000) fun x1 hm=> ?_
 exact hm.rr
def Q5 (l:(List a8)):Int→Option (Sum Int (Sum Int Bool)):=fun i25=>
 if(decide (i25<(l.length:Int)))=true then
  Option.bind (idx l i25) fun e71=>
  Option.bind (S2 e71.Night) fun x73=>
  if(!x73)=true then
   some (.inr (.inr false))
  else
   if(decide (i25>0))=true then
    Option.bind (idx l (W (i25-1))) fun e77=>
    if(decide (e77.Night≥e71.Night))=true then
     some (.inr (.inr false))
    else
     Option.bind (U3 e71.Promised) fun x80=>
     if(!x80)=true then
      some (.inr (.inr false))
     else
      if(e71.Ballot==0)=true then
       if(!(e71.Value==0))=true then
        Option.bind (A6 e71.Ballot 6 e71.Promised) fun x85=>
        if(!x85)=true then
         some (.inr (.inr false))
        else
         Option.bind (s7 e71.Value) fun x88=>
         if(!x88)=true then
          some (.inr (.inr false))
         else
          some (.inl (W (i25+1)))
       else
        some (.inl (W (i25+1)))
      else
       Option.bind (A6 e71.Ballot 6 e71.Promised) fun x91=>
       if(!x91)=true then
        some (.inr (.inr false))
       else
        Option.bind (s7 e71.Value) fun x94=>
        if(!x94)=true then
         some (.inr (.inr false))
        else
         some (.inl (W (i25+1)))
   else
    Option.bind (U3 e71.Promised) fun x97=>
    if(!x97)=true then
     some (.inr (.inr false))
    else
     if(e71.Ballot==0)=true then
      if(!(e71.Value==0))=true then
       Option.bind (A6 e71.Ballot 6 e71.Promised) fun x102=>
       if(!x102)=true then
        some (.inr (.inr false))
       else
        Option.bind (s7 e71.Value) fun x105=>
        if(!x105)=true then
         some (.inr (.inr false))
        else
         some (.inl (W (i25+1)))
      else
       some (.inl (W (i25+1)))
     else
      Option.bind (A6 e71.Ballot 6 e71.Promised) fun x108=>
      if(!x108)=true then
       some (.inr (.inr false))
      else
       Option.bind (s7 e71.Value) fun x111=>
       if(!x111)=true then
        some (.inr (.inr false))
       else
        some (.inl (W (i25+1)))
 else
  some (.inr (.inl i25))
def a3x (l:(List a8)):Option Bool:=
 if(decide ((l.length:Int)>12))=true then
  some false
 else
  Option.bind (l8 (Q5 l) 0) fun e=>
  match e with
  | .inl i114=>
   some true
  | .inr rr115=>
   some rr115
theorem b1c (l:(List a8)) (r:Bool) (hm:a3x l=some r):d7 Tryz.prog 75 [lD 4 l a8.c] (fun x=>x=DB r):=by
 refine zy c5O [] [] [] Tryz.func75 rfl ?_
 apply vb hm<;>intro _ hm
 exact hm.rr
 obtain⟨ev116,he,hk117⟩:=b5 hm
 refine u4.ofL (Q5 l) (fun i25=>⟨[(0,lD 4 l a8.c),(2,DB false),(3,DI i25),(8,DB (decide ((l.length:Int)>12)))], [],0⟩) 0 (c5.of 0 rfl (tA rfl) trivial) he ?_
 rintro fu118 i25 b hm hi119
 apply vb hm<;>intro _ hm
 obtain⟨e121,hx122,hm⟩:=b5 hm
 refine⟨_,d9 (fun _=>rfl) hx122, ?_⟩
 refine⟨rfl, ?_⟩
 refine cy hm (a0C e121.Night) fun x123 hm=> ?_
 apply vb hm<;>intro _ hm
 cases hm
 cases hi119
 have hm:=hk117
 exact hm.rr
 apply vb hm<;>intro _ hm
 obtain⟨e127,hx128,hm⟩:=b5 hm
 refine⟨_,d9 (fun _=>rfl) hx128, ?_⟩
 apply vb hm<;>intro _ hm
 cases hm
 cases hi119
 have hm:=hk117
 exact hm.rr
 refine cy hm (a1D e121.Promised) fun x130 hm=> ?_
 apply vb hm<;>intro _ hm
 cases hm
 cases hi119
 have hm:=hk117
 exact hm.rr
 apply vb hm<;>intro _ hm
 apply vb hm<;>intro _ hm
 refine cy hm (G0 e121.Ballot 6 e121.Promised) fun x135 hm=> ?_
 apply vb hm<;>intro _ hm
 cases hm
 cases hi119
 have hm:=hk117
 exact hm.rr
 refine cy hm (v8 e121.Value) fun x138 hm=> ?_
 apply vb hm<;>intro _ hm
 cases hm
 cases hi119
 have hm:=hk117
 exact hm.rr
 cases hm
 exact⟨(_,(W (i25+1))),c5.of 0 rfl (tA rfl) trivial,hi119,Nat.lt_succ_self _⟩
 cases hm
 exact⟨(_,(W (i25+1))),c5.of 0 rfl (tA rfl) trivial,hi119,Nat.lt_succ_self _⟩
 refine cy hm (G0 e121.Ballot 6 e121.Promised) fun x141 hm=> ?_
 apply vb hm<;>intro _ hm
 cases hm
 cases hi119
 have hm:=hk117
 exact hm.rr
 refine cy hm (v8 e121.Value) fun x144 hm=> ?_
 apply vb hm<;>intro _ hm
 cases hm
 cases hi119
 have hm:=hk117
 exact hm.rr
 cases hm
 exact⟨(_,(W (i25+1))),c5.of 0 rfl (tA rfl) trivial,hi119,Nat.lt_succ_self _⟩
 refine cy hm (a1D e121.Promised) fun x147 hm=> ?_
 apply vb hm<;>intro _ hm
 cases hm
 cases hi119
 have hm:=hk117
 exact hm.rr
 apply vb hm<;>intro _ hm
 apply vb hm<;>intro _ hm
 refine cy hm (G0 e121.Ballot 6 e121.Promised) fun x152 hm=> ?_
 apply vb hm<;>intro _ hm
 cases hm
 cases hi119
 have hm:=hk117
 exact hm.rr
 refine cy hm (v8 e121.Value) fun x155 hm=> ?_
 apply vb hm<;>intro _ hm
 cases hm
 cases hi119
 have hm:=hk117
 exact hm.rr
 cases hm
 exact⟨(_,(W (i25+1))),c5.of 0 rfl (tA rfl) trivial,hi119,Nat.lt_succ_self _⟩
 cases hm
 exact⟨(_,(W (i25+1))),c5.of 0 rfl (tA rfl) trivial,hi119,Nat.lt_succ_self _⟩
 refine cy hm (G0 e121.Ballot 6 e121.Promised) fun x158 hm=> ?_
 apply vb hm<;>intro _ hm
 cases hm
 cases hi119
 have hm:=hk117
 exact hm.rr
 refine cy hm (v8 e121.Value) fun x161 hm=> ?_
 apply vb hm<;>intro _ hm
 cases hm
 cases hi119
 have hm:=hk117
 exact hm.rr
 cases hm
 exact⟨(_,(W (i25+1))),c5.of 0 rfl (tA rfl) trivial,hi119,Nat.lt_succ_self _⟩
 cases hm
 cases hi119
 have hm:=hk117
 exact hm.rr
def a2e (n:Int) (m:Int):Option Int:=
 gd (m≠0)<|
 gd (m≠0)<|
 some ((W ((n.tmod m)+m)).tmod m)
theorem a6Q (n:Int) (m:Int) (r:Int) (hm:a2e n m=some r):d7 Tryz.prog 40 [DI n,DI m] (fun x=>x=DI r):=by
 refine zn Tryz.func40 rfl ?_
 obtain⟨hg,hm⟩:=c6 hm
 refine⟨hg, ?_⟩
 obtain⟨hg,hm⟩:=c6 hm
 refine⟨hg, ?_⟩
 exact hm.rr
def M6 (depot:Int):Option Int:=
 gd (0≤depot)<|
 some (W (1*(2^(min depot.toNat IntKind.i64.bits))))
theorem a1q (depot:Int) (r:Int) (hm:M6 depot=some r):d7 Tryz.prog 161 [DI depot] (fun x=>x=DI r):=by
 refine zn Tryz.func161 rfl ?_
 obtain⟨hg,hm⟩:=c6 hm
 refine⟨hg, ?_⟩
 exact hm.rr
def a0K (mask:Int):(Int×Int)→Option (Sum (Int×Int) (Int×Int)):=fun(n4,d5)=>
 if(decide (d5<6))=true then
  Option.bind (M6 d5) fun x11=>
  if((W ((BitVec.ofInt IntKind.i64.bits mask&&&BitVec.ofInt IntKind.i64.bits x11).toNat:Int)) !=0)=true then
   some (.inl ((W (n4+1)),(W (d5+1))))
  else
   some (.inl (n4,(W (d5+1))))
 else
  some (.inr (n4,d5))
def J9 (mask:Int):Option Bool:=
 Option.bind (l8 (a0K mask) (0,0)) fun(n14,d15)=>
 some (decide (n14≥4))
theorem a3f (mask:Int) (r:Bool) (hm:J9 mask=some r):d7 Tryz.prog 107 [DI mask] (fun x=>x=DB r):=by
 refine zn Tryz.func107 rfl ?_
 obtain⟨ev16,he,hk17⟩:=b5 hm
 refine u4.ofL (a0K mask) (fun(n4,d5)=>⟨[(0,DI mask),(2,DB false),(3,DI n4),(4,DI d5)], [],0⟩) (0,0) (c5.of 0 rfl (tA rfl) trivial) he ?_
 rintro fu18 ⟨n4,d5⟩ b hm hi19
 apply vb hm<;>intro _ hm
 refine cy hm (a1q d5) fun x21 hm=> ?_
 apply vb hm<;>intro _ hm
 cases hm
 exact⟨(_,((W (n4+1)),(W (d5+1)))),c5.of 0 rfl (tA rfl) trivial,hi19,Nat.lt_succ_self _⟩
 cases hm
 exact⟨(_,(n4,(W (d5+1)))),c5.of 0 rfl (tA rfl) trivial,hi19,Nat.lt_succ_self _⟩
 cases hm
 cases hi19
 have hm:=hk17
 exact hm.rr
def a0n (n:Int):Option Bool:=
 Option.bind (A6 n 0 63) fun x1=>
 some x1
theorem a5F (n:Int) (r:Bool) (hm:a0n n=some r):d7 Tryz.prog 146 [DI n] (fun x=>x=DB r):=by
 refine zn Tryz.func146 rfl ?_
 refine cy hm (G0 n 0 63) fun x1 hm=> ?_
 exact hm.rr
def I9 (l:(List b9)) (i26:Int) (e104:b9):Int→Option (Sum Int (Sum Int Bool)):=fun k135=>
 if(decide (k135<i26))=true then
  Option.bind (idx l k135) fun e141=>
  if(e141.Ballot==e104.Ballot)=true then
   some (.inr (.inr false))
  else
   some (.inl (W (k135+1)))
 else
  some (.inr (.inl k135))
def S7 (l:(List b9)) (me:Int) (round:Int):Int→Option (Sum Int (Sum Int Bool)):=fun i26=>
 if(decide (i26<(l.length:Int)))=true then
  Option.bind (idx l i26) fun e104=>
  Option.bind (S2 e104.Night) fun x106=>
  if(!x106)=true then
   some (.inr (.inr false))
  else
   if(decide (i26>0))=true then
    Option.bind (idx l (W (i26-1))) fun e110=>
    if(decide (e110.Night≥e104.Night))=true then
     some (.inr (.inr false))
    else
     Option.bind (s7 e104.Value) fun x113=>
     if(!x113)=true then
      some (.inr (.inr false))
     else
      Option.bind (A6 e104.Ballot (W (6+me)) (W ((W (6*round))+me))) fun x116=>
      if(!x116)=true then
       some (.inr (.inr false))
      else
       Option.bind (a2e e104.Ballot 6) fun x119=>
       if(x119 !=me)=true then
        some (.inr (.inr false))
       else
        Option.bind (A6 e104.Best 0 (W (e104.Ballot-1))) fun x122=>
        if(!x122)=true then
         some (.inr (.inr false))
        else
         Option.bind (a0n e104.Mask) fun x125=>
         if(!x125)=true then
          some (.inr (.inr false))
         else
          Option.bind (J9 e104.Mask) fun x128=>
          if(!(e104.Asked==x128))=true then
           some (.inr (.inr false))
          else
           Option.bind (l8 (I9 l i26 e104) 0) fun e=>
           match e with
           | .inl k144=>
            some (.inl (W (i26+1)))
           | .inr rr145=>
            some (.inr (.inr rr145))
   else
    Option.bind (s7 e104.Value) fun x154=>
    if(!x154)=true then
     some (.inr (.inr false))
    else
     Option.bind (A6 e104.Ballot (W (6+me)) (W ((W (6*round))+me))) fun x157=>
     if(!x157)=true then
      some (.inr (.inr false))
     else
      Option.bind (a2e e104.Ballot 6) fun x160=>
      if(x160 !=me)=true then
       some (.inr (.inr false))
      else
       Option.bind (A6 e104.Best 0 (W (e104.Ballot-1))) fun x163=>
       if(!x163)=true then
        some (.inr (.inr false))
       else
        Option.bind (a0n e104.Mask) fun x166=>
        if(!x166)=true then
         some (.inr (.inr false))
        else
         Option.bind (J9 e104.Mask) fun x169=>
         if(!(e104.Asked==x169))=true then
          some (.inr (.inr false))
         else
          Option.bind (l8 (I9 l i26 e104) 0) fun e=>
          match e with
          | .inl k185=>
           some (.inl (W (i26+1)))
          | .inr rr186=>
           some (.inr (.inr rr186))
 else
  some (.inr (.inl i26))
def a4E (l:(List b9)) (me:Int) (round:Int):Option Bool:=
 if(decide ((l.length:Int)>12))=true then
  some false
 else
  Option.bind (l8 (S7 l me round) 0) fun e=>
  match e with
  | .inl i195=>
   some true
  | .inr rr196=>
   some rr196
theorem b2N (l:(List b9)) (me:Int) (round:Int) (r:Bool) (hm:a4E l me round=some r):d7 Tryz.prog 76 [lD 6 l b9.c,DI me,DI round] (fun x=>x=DB r):=by
 refine zy c6i [] [] [] Tryz.func76 rfl ?_
 apply vb hm<;>intro _ hm
 exact hm.rr
 obtain⟨ev197,he,hk198⟩:=b5 hm
 refine u4.ofL (S7 l me round) (fun i26=>⟨[(0,lD 6 l b9.c),(1,DI me),(2,DI round),(6,DB false),(7,DI i26),(12,DB (decide ((l.length:Int)>12)))], [],0⟩) 0 (c5.of 0 rfl (tA rfl) trivial) he ?_
 rintro fu199 i26 b hm hi200
 apply vb hm<;>intro _ hm
 obtain⟨e202,hx203,hm⟩:=b5 hm
 refine⟨_,d9 (fun _=>rfl) hx203, ?_⟩
 refine⟨rfl, ?_⟩
 refine cy hm (a0C e202.Night) fun x204 hm=> ?_
 apply vb hm<;>intro _ hm
 cases hm
 cases hi200
 have hm:=hk198
 exact hm.rr
 apply vb hm<;>intro _ hm
 obtain⟨e208,hx209,hm⟩:=b5 hm
 refine⟨_,d9 (fun _=>rfl) hx209, ?_⟩
 apply vb hm<;>intro _ hm
 cases hm
 cases hi200
 have hm:=hk198
 exact hm.rr
 refine cy hm (v8 e202.Value) fun x211 hm=> ?_
 apply vb hm<;>intro _ hm
 cases hm
 cases hi200
 have hm:=hk198
 exact hm.rr
 refine cy hm (G0 e202.Ballot (W (6+me)) (W ((W (6*round))+me))) fun x214 hm=> ?_
 apply vb hm<;>intro _ hm
 cases hm
 cases hi200
 have hm:=hk198
 exact hm.rr
 refine cy hm (a6Q e202.Ballot 6) fun x217 hm=> ?_
 apply vb hm<;>intro _ hm
 cases hm
 cases hi200
 have hm:=hk198
 exact hm.rr
 refine⟨rfl, ?_⟩
 refine cy hm (G0 e202.Best 0 (W (e202.Ballot-1))) fun x220 hm=> ?_
 apply vb hm<;>intro _ hm
 cases hm
 cases hi200
 have hm:=hk198
 exact hm.rr
 refine cy hm (a5F e202.Mask) fun x223 hm=> ?_
 apply vb hm<;>intro _ hm
 cases hm
 cases hi200
 have hm:=hk198
 exact hm.rr
 refine cy hm (a3f e202.Mask) fun x226 hm=> ?_
 apply vb hm<;>intro _ hm
 cases hm
 cases hi200
 have hm:=hk198
 exact hm.rr
 obtain⟨ev244,he,hk245⟩:=b5 hm
 refine u4.ofL (I9 l i26 e202) (fun k233=>⟨[(0,lD 6 l b9.c),(1,DI me),(2,DI round),(6,DB false),(7,DI i26),(8, .own 0 0),(9,DI k233),(12,DB (decide ((l.length:Int)>12))),(16,DB (decide (i26<(l.length:Int)))),(47,DB (!x211)),(64,DB (x217 !=me)),(85,DB (!(e202.Asked==x226)))], [(0, .blk (b9.c e202) 108)],1⟩) 0 (c5.of 1 rfl (tA rfl) ⟨hR rfl,trivial⟩) he ?_
 rintro fu246 k233 b hm hi247
 apply vb hm<;>intro _ hm
 refine⟨rfl, ?_⟩
 obtain⟨e249,hx250,hm⟩:=b5 hm
 refine⟨_,d9 (fun _=>rfl) hx250, ?_⟩
 apply vb hm<;>intro _ hm
 cases hm
 cases hi247
 have hm:=hk245
 cases hm
 cases hi200
 have hm:=hk198
 exact hm.rr
 cases hm
 exact⟨(_,(W (k233+1))),c5.of 1 rfl (tA rfl) ⟨hR rfl,trivial⟩,hi247,Nat.lt_succ_self _⟩
 cases hm
 cases hi247
 have hm:=hk245
 cases hm
 exact⟨(_,(W (i26+1))),c5.of 0 rfl (tA rfl) trivial,hi200,Nat.lt_succ_self _⟩
 refine cy hm (v8 e202.Value) fun x252 hm=> ?_
 apply vb hm<;>intro _ hm
 cases hm
 cases hi200
 have hm:=hk198
 exact hm.rr
 refine cy hm (G0 e202.Ballot (W (6+me)) (W ((W (6*round))+me))) fun x255 hm=> ?_
 apply vb hm<;>intro _ hm
 cases hm
 cases hi200
 have hm:=hk198
 exact hm.rr
 refine cy hm (a6Q e202.Ballot 6) fun x258 hm=> ?_
 apply vb hm<;>intro _ hm
 cases hm
 cases hi200
 have hm:=hk198
 exact hm.rr
 refine⟨rfl, ?_⟩
 refine cy hm (G0 e202.Best 0 (W (e202.Ballot-1))) fun x261 hm=> ?_
 apply vb hm<;>intro _ hm
 cases hm
 cases hi200
 have hm:=hk198
 exact hm.rr
 refine cy hm (a5F e202.Mask) fun x264 hm=> ?_
 apply vb hm<;>intro _ hm
 cases hm
 cases hi200
 have hm:=hk198
 exact hm.rr
 refine cy hm (a3f e202.Mask) fun x267 hm=> ?_
 apply vb hm<;>intro _ hm
 cases hm
 cases hi200
 have hm:=hk198
 exact hm.rr
 obtain⟨ev285,he,hk286⟩:=b5 hm
 refine u4.ofL (I9 l i26 e202) (fun k274=>⟨[(0,lD 6 l b9.c),(1,DI me),(2,DI round),(6,DB false),(7,DI i26),(8, .own 0 0),(9,DI k274),(12,DB (decide ((l.length:Int)>12))),(16,DB (decide (i26<(l.length:Int)))),(47,DB (!x252)),(64,DB (x258 !=me)),(85,DB (!(e202.Asked==x267)))], [(0, .blk (b9.c e202) 108)],1⟩) 0 (c5.of 1 rfl (tA rfl) ⟨hR rfl,trivial⟩) he ?_
 rintro fu287 k274 b hm hi288
 apply vb hm<;>intro _ hm
 refine⟨rfl, ?_⟩
 obtain⟨e290,hx291,hm⟩:=b5 hm
 refine⟨_,d9 (fun _=>rfl) hx291, ?_⟩
 apply vb hm<;>intro _ hm
 cases hm
 cases hi288
 have hm:=hk286
 cases hm
 cases hi200
 have hm:=hk198
 exact hm.rr
 cases hm
 exact⟨(_,(W (k274+1))),c5.of 1 rfl (tA rfl) ⟨hR rfl,trivial⟩,hi288,Nat.lt_succ_self _⟩
 cases hm
 cases hi288
 have hm:=hk286
 cases hm
 exact⟨(_,(W (i26+1))),c5.of 0 rfl (tA rfl) trivial,hi200,Nat.lt_succ_self _⟩
 cases hm
 cases hi200
 have hm:=hk198
 exact hm.rr
def Q8 (l:(List a7)):Int→Option (Sum Int (Sum Int Bool)):=fun i18=>
 if(decide (i18<(l.length:Int)))=true then
  Option.bind (idx l i18) fun e46=>
  Option.bind (S2 e46.Night) fun x48=>
  if(!x48)=true then
   some (.inr (.inr false))
  else
   Option.bind (U3 e46.Ballot) fun x51=>
   if(!x51)=true then
    some (.inr (.inr false))
   else
    Option.bind (s7 e46.Value) fun x54=>
    if(!x54)=true then
     some (.inr (.inr false))
    else
     Option.bind (a0n e46.Mask) fun x57=>
     if(!x57)=true then
      some (.inr (.inr false))
     else
      if(e46.Mask==0)=true then
       some (.inr (.inr false))
      else
       if(decide (i18>0))=true then
        Option.bind (idx l (W (i18-1))) fun e62=>
        if(decide (e62.Ballot>e46.Ballot))=true then
         some (.inr (.inr false))
        else
         Option.bind (idx l (W (i18-1))) fun e65=>
         if(e65.Ballot==e46.Ballot)=true then
          Option.bind (idx l (W (i18-1))) fun e68=>
          if(decide (e68.Night≥e46.Night))=true then
           some (.inr (.inr false))
          else
           some (.inl (W (i18+1)))
         else
          some (.inl (W (i18+1)))
       else
        some (.inl (W (i18+1)))
 else
  some (.inr (.inl i18))
def a3U (l:(List a7)):Option Bool:=
 if(decide ((l.length:Int)>60))=true then
  some false
 else
  Option.bind (l8 (Q8 l) 0) fun e=>
  match e with
  | .inl i71=>
   some true
  | .inr rr72=>
   some rr72
theorem b1J (l:(List a7)) (r:Bool) (hm:a3U l=some r):d7 Tryz.prog 77 [lD 4 l a7.c] (fun x=>x=DB r):=by
 refine zy c5D [] [] [] Tryz.func77 rfl ?_
 apply vb hm<;>intro _ hm
 exact hm.rr
 obtain⟨ev73,he,hk74⟩:=b5 hm
 refine u4.ofL (Q8 l) (fun i18=>⟨[(0,lD 4 l a7.c),(2,DB false),(3,DI i18),(7,DB (decide ((l.length:Int)>60)))], [],0⟩) 0 (c5.of 0 rfl (tA rfl) trivial) he ?_
 rintro fu75 i18 b hm hi76
 apply vb hm<;>intro _ hm
 obtain⟨e78,hx79,hm⟩:=b5 hm
 refine⟨_,d9 (fun _=>rfl) hx79, ?_⟩
 refine cy hm (a0C e78.Night) fun x80 hm=> ?_
 apply vb hm<;>intro _ hm
 cases hm
 cases hi76
 have hm:=hk74
 exact hm.rr
 refine cy hm (a1D e78.Ballot) fun x83 hm=> ?_
 apply vb hm<;>intro _ hm
 cases hm
 cases hi76
 have hm:=hk74
 exact hm.rr
 refine cy hm (v8 e78.Value) fun x86 hm=> ?_
 apply vb hm<;>intro _ hm
 cases hm
 cases hi76
 have hm:=hk74
 exact hm.rr
 refine cy hm (a5F e78.Mask) fun x89 hm=> ?_
 apply vb hm<;>intro _ hm
 cases hm
 cases hi76
 have hm:=hk74
 exact hm.rr
 apply vb hm<;>intro _ hm
 cases hm
 cases hi76
 have hm:=hk74
 exact hm.rr
 refine⟨rfl, ?_⟩
 apply vb hm<;>intro _ hm
 obtain⟨e94,hx95,hm⟩:=b5 hm
 refine⟨_,d9 (fun _=>rfl) hx95, ?_⟩
 apply vb hm<;>intro _ hm
 cases hm
 cases hi76
 have hm:=hk74
 exact hm.rr
 obtain⟨e97,hx98,hm⟩:=b5 hm
 refine⟨_,d9 (fun _=>rfl) hx98, ?_⟩
 apply vb hm<;>intro _ hm
 obtain⟨e100,hx101,hm⟩:=b5 hm
 refine⟨_,d9 (fun _=>rfl) hx101, ?_⟩
 apply vb hm<;>intro _ hm
 cases hm
 cases hi76
 have hm:=hk74
 exact hm.rr
 cases hm
 exact⟨(_,(W (i18+1))),c5.of 0 rfl (tA rfl) trivial,hi76,Nat.lt_succ_self _⟩
 cases hm
 exact⟨(_,(W (i18+1))),c5.of 0 rfl (tA rfl) trivial,hi76,Nat.lt_succ_self _⟩
 cases hm
 exact⟨(_,(W (i18+1))),c5.of 0 rfl (tA rfl) trivial,hi76,Nat.lt_succ_self _⟩
 cases hm
 cases hi76
 have hm:=hk74
 exact hm.rr
def Y6 (n:Int):Option Bool:=
 Option.bind (A6 n 1 99) fun x1=>
 some x1
theorem a2x (n:Int) (r:Bool) (hm:Y6 n=some r):d7 Tryz.prog 72 [DI n] (fun x=>x=DB r):=by
 refine zn Tryz.func72 rfl ?_
 refine cy hm (G0 n 1 99) fun x1 hm=> ?_
 exact hm.rr
def D8 (n:Int):Option Bool:=
 Option.bind (A6 n 0 144001439) fun x1=>
 some x1
theorem I1 (n:Int) (r:Bool) (hm:D8 n=some r):d7 Tryz.prog 84 [DI n] (fun x=>x=DB r):=by
 refine zn Tryz.func84 rfl ?_
 refine cy hm (G0 n 0 144001439) fun x1 hm=> ?_
 exact hm.rr
def a3V (a:b6) (b_:b6):Option Bool:=
 if(a.Thing==b_.Thing)=true then
  some (decide ((if b_.From>a.From then b_.From else a.From)<(if b_.Until<a.Until then b_.Until else a.Until)))
 else
  some false
theorem b0X (a:b6) (b_:b6) (r:Bool) (hm:a3V a b_=some r):d7 Tryz.prog 93 [.agg (b6.c a), .agg (b6.c b_)] (fun x=>x=DB r):=by
 refine zn Tryz.func93 rfl ?_
 apply vb hm<;>intro _ hm
 exact hm.rr
 exact hm.rr
def O7 (l:(List b6)) (i21:Int) (e63:b6):Int→Option (Sum Int (Sum Int Bool)):=fun k87=>
 if(decide (k87<i21))=true then
  Option.bind (idx l k87) fun e95=>
  Option.bind (a3V e95 e63) fun x97=>
  if x97=true then
   some (.inr (.inr false))
  else
   some (.inl (W (k87+1)))
 else
  some (.inr (.inl k87))
def P0 (l:(List b6)) (me:Int):Int→Option (Sum Int (Sum Int Bool)):=fun i21=>
 if(decide (i21<(l.length:Int)))=true then
  Option.bind (idx l i21) fun e63=>
  if(e63.No !=(W (i21+1)))=true then
   some (.inr (.inr false))
  else
   Option.bind (Y6 e63.Thing) fun x66=>
   if(!x66)=true then
    some (.inr (.inr false))
   else
    if((e63.Thing.tmod 6) !=me)=true then
     some (.inr (.inr false))
    else
     Option.bind (L1 e63.To) fun x70=>
     if(!x70)=true then
      some (.inr (.inr false))
     else
      if(e63.To==me)=true then
       some (.inr (.inr false))
      else
       Option.bind (D8 e63.From) fun x74=>
       if(!x74)=true then
        some (.inr (.inr false))
       else
        Option.bind (D8 e63.Until) fun x77=>
        if(!x77)=true then
         some (.inr (.inr false))
        else
         if(decide (e63.From>e63.Until))=true then
          some (.inr (.inr false))
         else
          Option.bind (l8 (O7 l i21 e63) 0) fun e=>
          match e with
          | .inl k100=>
           some (.inl (W (i21+1)))
          | .inr rr101=>
           some (.inr (.inr rr101))
 else
  some (.inr (.inl i21))
def a2S (l:(List b6)) (me:Int):Option Bool:=
 if(decide ((l.length:Int)>40))=true then
  some false
 else
  Option.bind (l8 (P0 l me) 0) fun e=>
  match e with
  | .inl i112=>
   some true
  | .inr rr113=>
   some rr113
theorem b0r (l:(List b6)) (me:Int) (r:Bool) (hm:a2S l me=some r):d7 Tryz.prog 78 [lD 5 l b6.c,DI me] (fun x=>x=DB r):=by
 refine zy c5Q [] [] [] Tryz.func78 rfl ?_
 apply vb hm<;>intro _ hm
 exact hm.rr
 obtain⟨ev114,he,hk115⟩:=b5 hm
 refine u4.ofL (P0 l me) (fun i21=>⟨[(0,lD 5 l b6.c),(1,DI me),(4,DB false),(5,DI i21),(10,DB (decide ((l.length:Int)>40)))], [],0⟩) 0 (c5.of 0 rfl (tA rfl) trivial) he ?_
 rintro fu116 i21 b hm hi117
 apply vb hm<;>intro _ hm
 obtain⟨e119,hx120,hm⟩:=b5 hm
 refine⟨_,d9 (fun _=>rfl) hx120, ?_⟩
 apply vb hm<;>intro _ hm
 cases hm
 cases hi117
 have hm:=hk115
 exact hm.rr
 refine cy hm (a2x e119.Thing) fun x122 hm=> ?_
 apply vb hm<;>intro _ hm
 cases hm
 cases hi117
 have hm:=hk115
 exact hm.rr
 refine⟨by decide, ?_⟩
 apply vb hm<;>intro _ hm
 cases hm
 cases hi117
 have hm:=hk115
 exact hm.rr
 refine cy hm (R6 e119.To) fun x126 hm=> ?_
 apply vb hm<;>intro _ hm
 cases hm
 cases hi117
 have hm:=hk115
 exact hm.rr
 apply vb hm<;>intro _ hm
 cases hm
 cases hi117
 have hm:=hk115
 exact hm.rr
 refine cy hm (I1 e119.From) fun x130 hm=> ?_
 apply vb hm<;>intro _ hm
 cases hm
 cases hi117
 have hm:=hk115
 exact hm.rr
 refine cy hm (I1 e119.Until) fun x133 hm=> ?_
 apply vb hm<;>intro _ hm
 cases hm
 cases hi117
 have hm:=hk115
 exact hm.rr
 apply vb hm<;>intro _ hm
 cases hm
 cases hi117
 have hm:=hk115
 exact hm.rr
 obtain⟨ev158,he,hk159⟩:=b5 hm
 refine u4.ofL (O7 l i21 e119) (fun k143=>⟨[(0,lD 5 l b6.c),(1,DI me),(4,DB false),(5,DI i21),(6, .own 0 0),(7,DI k143),(10,DB (decide ((l.length:Int)>40))),(14,DB (decide (i21<(l.length:Int)))),(69,DB (decide (e119.From>e119.Until)))], [(0, .blk (b6.c e119) 112)],1⟩) 0 (c5.of 1 rfl (tA rfl) ⟨hR rfl,trivial⟩) he ?_
 rintro fu160 k143 b hm hi161
 apply vb hm<;>intro _ hm
 refine⟨rfl, ?_⟩
 obtain⟨e163,hx164,hm⟩:=b5 hm
 refine⟨_,d9 (fun _=>rfl) hx164, ?_⟩
 refine cy hm (b0X e163 e119) fun x165 hm=> ?_
 apply vb hm<;>intro _ hm
 cases hm
 cases hi161
 have hm:=hk159
 cases hm
 cases hi117
 have hm:=hk115
 exact hm.rr
 cases hm
 exact⟨(_,(W (k143+1))),c5.of 1 rfl (tA rfl) ⟨hR rfl,trivial⟩,hi161,Nat.lt_succ_self _⟩
 cases hm
 cases hi161
 have hm:=hk159
 cases hm
 exact⟨(_,(W (i21+1))),c5.of 0 rfl (tA rfl) trivial,hi117,Nat.lt_succ_self _⟩
 cases hm
 cases hi117
 have hm:=hk115
 exact hm.rr
def Q7 (l:(List b4)) (me:Int):Int→Option (Sum Int (Sum Int Bool)):=fun i23=>
 if(decide (i23<(l.length:Int)))=true then
  Option.bind (idx l i23) fun e56=>
  Option.bind (L1 e56.Owner) fun x58=>
  if(!x58)=true then
   some (.inr (.inr false))
  else
   if(e56.Owner==me)=true then
    some (.inr (.inr false))
   else
    Option.bind (A6 e56.No 1 40) fun x62=>
    if(!x62)=true then
     some (.inr (.inr false))
    else
     Option.bind (Y6 e56.Thing) fun x65=>
     if(!x65)=true then
      some (.inr (.inr false))
     else
      if((e56.Thing.tmod 6) !=e56.Owner)=true then
       some (.inr (.inr false))
      else
       Option.bind (D8 e56.From) fun x69=>
       if(!x69)=true then
        some (.inr (.inr false))
       else
        Option.bind (D8 e56.Until) fun x72=>
        if(!x72)=true then
         some (.inr (.inr false))
        else
         if(decide (e56.From>e56.Until))=true then
          some (.inr (.inr false))
         else
          if(decide (i23>0))=true then
           Option.bind (idx l (W (i23-1))) fun e77=>
           if(decide (e77.Owner>e56.Owner))=true then
            some (.inr (.inr false))
           else
            Option.bind (idx l (W (i23-1))) fun e80=>
            if(e80.Owner==e56.Owner)=true then
             Option.bind (idx l (W (i23-1))) fun e83=>
             if(decide (e83.No≥e56.No))=true then
              some (.inr (.inr false))
             else
              some (.inl (W (i23+1)))
            else
             some (.inl (W (i23+1)))
          else
           some (.inl (W (i23+1)))
 else
  some (.inr (.inl i23))
def a3G (l:(List b4)) (me:Int):Option Bool:=
 if(decide ((l.length:Int)>60))=true then
  some false
 else
  Option.bind (l8 (Q7 l me) 0) fun e=>
  match e with
  | .inl i86=>
   some true
  | .inr rr87=>
   some rr87
theorem b1B (l:(List b4)) (me:Int) (r:Bool) (hm:a3G l me=some r):d7 Tryz.prog 79 [lD 6 l b4.c,DI me] (fun x=>x=DB r):=by
 refine zy c5Y [] [] [] Tryz.func79 rfl ?_
 apply vb hm<;>intro _ hm
 exact hm.rr
 obtain⟨ev88,he,hk89⟩:=b5 hm
 refine u4.ofL (Q7 l me) (fun i23=>⟨[(0,lD 6 l b4.c),(1,DI me),(4,DB false),(5,DI i23),(9,DB (decide ((l.length:Int)>60)))], [],0⟩) 0 (c5.of 0 rfl (tA rfl) trivial) he ?_
 rintro fu90 i23 b hm hi91
 apply vb hm<;>intro _ hm
 obtain⟨e93,hx94,hm⟩:=b5 hm
 refine⟨_,d9 (fun _=>rfl) hx94, ?_⟩
 refine cy hm (R6 e93.Owner) fun x95 hm=> ?_
 apply vb hm<;>intro _ hm
 cases hm
 cases hi91
 have hm:=hk89
 exact hm.rr
 apply vb hm<;>intro _ hm
 cases hm
 cases hi91
 have hm:=hk89
 exact hm.rr
 refine cy hm (G0 e93.No 1 40) fun x99 hm=> ?_
 apply vb hm<;>intro _ hm
 cases hm
 cases hi91
 have hm:=hk89
 exact hm.rr
 refine cy hm (a2x e93.Thing) fun x102 hm=> ?_
 apply vb hm<;>intro _ hm
 cases hm
 cases hi91
 have hm:=hk89
 exact hm.rr
 refine⟨by decide, ?_⟩
 apply vb hm<;>intro _ hm
 cases hm
 cases hi91
 have hm:=hk89
 exact hm.rr
 refine cy hm (I1 e93.From) fun x106 hm=> ?_
 apply vb hm<;>intro _ hm
 cases hm
 cases hi91
 have hm:=hk89
 exact hm.rr
 refine cy hm (I1 e93.Until) fun x109 hm=> ?_
 apply vb hm<;>intro _ hm
 cases hm
 cases hi91
 have hm:=hk89
 exact hm.rr
 apply vb hm<;>intro _ hm
 cases hm
 cases hi91
 have hm:=hk89
 exact hm.rr
 refine⟨rfl, ?_⟩
 apply vb hm<;>intro _ hm
 obtain⟨e114,hx115,hm⟩:=b5 hm
 refine⟨_,d9 (fun _=>rfl) hx115, ?_⟩
 apply vb hm<;>intro _ hm
 cases hm
 cases hi91
 have hm:=hk89
 exact hm.rr
 obtain⟨e117,hx118,hm⟩:=b5 hm
 refine⟨_,d9 (fun _=>rfl) hx118, ?_⟩
 apply vb hm<;>intro _ hm
 obtain⟨e120,hx121,hm⟩:=b5 hm
 refine⟨_,d9 (fun _=>rfl) hx121, ?_⟩
 apply vb hm<;>intro _ hm
 cases hm
 cases hi91
 have hm:=hk89
 exact hm.rr
 cases hm
 exact⟨(_,(W (i23+1))),c5.of 0 rfl (tA rfl) trivial,hi91,Nat.lt_succ_self _⟩
 cases hm
 exact⟨(_,(W (i23+1))),c5.of 0 rfl (tA rfl) trivial,hi91,Nat.lt_succ_self _⟩
 cases hm
 exact⟨(_,(W (i23+1))),c5.of 0 rfl (tA rfl) trivial,hi91,Nat.lt_succ_self _⟩
 cases hm
 cases hi91
 have hm:=hk89
 exact hm.rr
def a0o (me:Int) (s:b7):Option Int:=
 Option.bind (L1 me) fun x1=>
 if(!x1)=true then
  some 90
 else
  Option.bind (A6 s.Round 0 9999) fun x4=>
  if(!x4)=true then
   some 90
  else
   Option.bind (a3x s.Slots) fun x7=>
   if(!x7)=true then
    some 90
   else
    Option.bind (a4E s.Bids me s.Round) fun x10=>
    if(!x10)=true then
     some 90
    else
     Option.bind (a3U s.Heard) fun x13=>
     if(!x13)=true then
      some 90
     else
      Option.bind (a2S s.Leases me) fun x16=>
      if(!x16)=true then
       some 90
      else
       Option.bind (a3G s.Loans me) fun x19=>
       if(!x19)=true then
        some 90
       else
        some 0
theorem a4N (me:Int) (s:b7) (r:Int) (hm:a0o me s=some r):d7 Tryz.prog 26 [DI me, .agg (b7.c s)] (fun x=>x=DI r):=by
 refine zn Tryz.func26 rfl ?_
 refine cy hm (R6 me) fun x1 hm=> ?_
 apply vb hm<;>intro _ hm
 exact hm.rr
 refine cy hm (G0 s.Round 0 9999) fun x4 hm=> ?_
 apply vb hm<;>intro _ hm
 exact hm.rr
 refine cy hm (b1c s.Slots) fun x7 hm=> ?_
 apply vb hm<;>intro _ hm
 exact hm.rr
 refine cy hm (b2N s.Bids me s.Round) fun x10 hm=> ?_
 apply vb hm<;>intro _ hm
 exact hm.rr
 refine cy hm (b1J s.Heard) fun x13 hm=> ?_
 apply vb hm<;>intro _ hm
 exact hm.rr
 refine cy hm (b0r s.Leases me) fun x16 hm=> ?_
 apply vb hm<;>intro _ hm
 exact hm.rr
 refine cy hm (b1B s.Loans me) fun x19 hm=> ?_
 apply vb hm<;>intro _ hm
 exact hm.rr
 exact hm.rr
def a0a (x:a6):Option Int:=
 Option.bind (a0o x.Me x.Now) fun x1=>
 if(x1 !=0)=true then
  some 90
 else
  Option.bind (a0o x.Me x.Safe) fun x4=>
  if(x4 !=0)=true then
   some 90
  else
   some 0
theorem a4o (x:a6) (r:Int) (hm:a0a x=some r):d7 Tryz.prog 28 [.agg (a6.c x)] (fun x=>x=DI r):=by
 refine zn Tryz.func28 rfl ?_
 refine cy hm (a4N x.Me x.Now) fun x1 hm=> ?_
 apply vb hm<;>intro _ hm
 exact hm.rr
 refine cy hm (a4N x.Me x.Safe) fun x4 hm=> ?_
 apply vb hm<;>intro _ hm
 exact hm.rr
 exact hm.rr
def a0q (s:b7):Option b7:=
 gd ((([]:List a8).length+s.Slots.length)*32≤140737488355328∧([]:List a8).length+s.Slots.length≤9223372036854775807)<|
 gd ((([]:List b9).length+s.Bids.length)*48≤140737488355328∧([]:List b9).length+s.Bids.length≤9223372036854775807)<|
 gd ((([]:List a7).length+s.Heard.length)*32≤140737488355328∧([]:List a7).length+s.Heard.length≤9223372036854775807)<|
 gd ((([]:List b6).length+s.Leases.length)*40≤140737488355328∧([]:List b6).length+s.Leases.length≤9223372036854775807)<|
 gd ((([]:List b4).length+s.Loans.length)*48≤140737488355328∧([]:List b4).length+s.Loans.length≤9223372036854775807)<|
 some (⟨s.Round,(([]:List a8)++s.Slots),(([]:List b9)++s.Bids),(([]:List a7)++s.Heard),(([]:List b6)++s.Leases),(([]:List b4)++s.Loans)⟩:b7)
theorem a9i (s:b7) (r:b7) (hm:a0q s=some r):d7 Tryz.prog 63 [.agg (b7.c s)] (fun x=>x= .agg (b7.c r)):=by
 refine zy c4j [] [] [] Tryz.func63 rfl ?_
 refine⟨rfl, ?_⟩
 refine⟨([]:List a8).flatMap a8.c,([]:List a8).length,⟨rfl,rfl⟩, ?_⟩
 obtain⟨hg,hm⟩:=c6 hm
 refine⟨hg,_,_,c9 (c:=a8.c) (l:=(([]:List a8):List a8)) (r:=(s.Slots:List a8)), ?_⟩
 refine⟨([]:List b9).flatMap b9.c,([]:List b9).length,⟨rfl,rfl⟩, ?_⟩
 obtain⟨hg,hm⟩:=c6 hm
 refine⟨hg,_,_,c9 (c:=b9.c) (l:=(([]:List b9):List b9)) (r:=(s.Bids:List b9)), ?_⟩
 refine⟨([]:List a7).flatMap a7.c,([]:List a7).length,⟨rfl,rfl⟩, ?_⟩
 obtain⟨hg,hm⟩:=c6 hm
 refine⟨hg,_,_,c9 (c:=a7.c) (l:=(([]:List a7):List a7)) (r:=(s.Heard:List a7)), ?_⟩
 refine⟨([]:List b6).flatMap b6.c,([]:List b6).length,⟨rfl,rfl⟩, ?_⟩
 obtain⟨hg,hm⟩:=c6 hm
 refine⟨hg,_,_,c9 (c:=b6.c) (l:=(([]:List b6):List b6)) (r:=(s.Leases:List b6)), ?_⟩
 refine⟨([]:List b4).flatMap b4.c,([]:List b4).length,⟨rfl,rfl⟩, ?_⟩
 obtain⟨hg,hm⟩:=c6 hm
 refine⟨hg,_,_,c9 (c:=b4.c) (l:=(([]:List b4):List b4)) (r:=(s.Loans:List b4)), ?_⟩
 cases hm
 exact d0.le (leD.refl _)
theorem a7j (s:b7) (r:b7) (hm:a0q s=some r):b3g Tryz.prog 63 [.agg (b7.c s)] [(4,r.Slots.length,r.Slots.flatMap a8.c,110),(6,r.Bids.length,r.Bids.flatMap b9.c,108),(4,r.Heard.length,r.Heard.flatMap a7.c,149),(5,r.Leases.length,r.Leases.flatMap b6.c,112),(6,r.Loans.length,r.Loans.flatMap b4.c,114)] [DI r.Round, .row 0 4, .row 1 6, .row 2 4, .row 3 5, .row 4 6]:=by
 refine b4O (X:=⟨Tryz.prog,tt,Tryz.f63.ntmps,c4j, [99,106,149,210,211,220], [], [], [], []⟩) pok _ Tryz.func63 rfl rfl (Nat.le_of_ble_eq_true rfl) rfl ?_
 refine⟨rfl, ?_⟩
 refine⟨([]:List a8).flatMap a8.c,([]:List a8).length,⟨rfl,rfl⟩, ?_⟩
 obtain⟨hg,hm⟩:=c6 hm
 refine⟨hg,_,_,c9 (c:=a8.c) (l:=(([]:List a8):List a8)) (r:=(s.Slots:List a8)), ?_⟩
 refine⟨([]:List b9).flatMap b9.c,([]:List b9).length,⟨rfl,rfl⟩, ?_⟩
 obtain⟨hg,hm⟩:=c6 hm
 refine⟨hg,_,_,c9 (c:=b9.c) (l:=(([]:List b9):List b9)) (r:=(s.Bids:List b9)), ?_⟩
 refine⟨([]:List a7).flatMap a7.c,([]:List a7).length,⟨rfl,rfl⟩, ?_⟩
 obtain⟨hg,hm⟩:=c6 hm
 refine⟨hg,_,_,c9 (c:=a7.c) (l:=(([]:List a7):List a7)) (r:=(s.Heard:List a7)), ?_⟩
 refine⟨([]:List b6).flatMap b6.c,([]:List b6).length,⟨rfl,rfl⟩, ?_⟩
 obtain⟨hg,hm⟩:=c6 hm
 refine⟨hg,_,_,c9 (c:=b6.c) (l:=(([]:List b6):List b6)) (r:=(s.Leases:List b6)), ?_⟩
 refine⟨([]:List b4).flatMap b4.c,([]:List b4).length,⟨rfl,rfl⟩, ?_⟩
 obtain⟨hg,hm⟩:=c6 hm
 refine⟨hg,_,_,c9 (c:=b4.c) (l:=(([]:List b4):List b4)) (r:=(s.Loans:List b4)), ?_⟩
 cases hm
 exact⟨rfl,⟨⟨rfl,rfl⟩,⟨⟨rfl,rfl,rfl,rfl⟩,⟨⟨rfl,rfl,rfl,rfl⟩,⟨⟨rfl,rfl,rfl,rfl⟩,⟨⟨rfl,rfl,rfl,rfl⟩,⟨⟨rfl,rfl,rfl,rfl⟩,rfl⟩⟩⟩⟩⟩⟩⟩
def a4e (p:G7) (to_:Int):Option (G7×Int):=
 some (p,to_)
theorem a8A (p:G7) (to_:Int) (r:(G7×Int)) (hm:a4e p to_=some r):d7 Tryz.prog 66 [.ptr (G7.c p) 0,DI to_] (fun x=>x= .fn 119 [] [.ptr [.ptr (G7.c r.1) 0] 0, .ptr [DI r.2] 0]):=by
 refine zn Tryz.func66 rfl ?_
 cases hm
 exact d0.le (leD.refl _)
def i5 (x:b8):List D:= [.agg (b8.c x)]
def a1n (c_0:G7) (c_1:Int):Int→Option (List b8×Sum Int Int):=fun v7=>
 if(decide (v7<(c_0.Station.Safe.Bids.length:Int)))=true then
  Option.bind (idx c_0.Station.Safe.Bids v7) fun e15=>
  if e15.Asked=true then
   emit (⟨3,c_0.Station.Me,c_1,e15.Night,e15.Ballot,0,e15.Value,0,0,0,0⟩:b8)<|
   some ([], .inl (W (v7+1)))
  else
   emit (⟨1,c_0.Station.Me,c_1,e15.Night,e15.Ballot,0,0,0,0,0,0⟩:b8)<|
   some ([], .inl (W (v7+1)))
 else
  some ([], .inr v7)
def a1p (c_0:G7) (c_1:Int):Int→Option (List b8×Sum Int Int):=fun v35=>
 if(decide (v35<(c_0.Station.Safe.Slots.length:Int)))=true then
  Option.bind (idx c_0.Station.Safe.Slots v35) fun e51=>
  Option.bind (d6 e51.Promised) fun x53=>
  if(x53==c_1)=true then
   if(decide (e51.Promised>e51.Ballot))=true then
    emit (⟨2,c_0.Station.Me,c_1,e51.Night,e51.Promised,e51.Ballot,e51.Value,0,0,0,0⟩:b8)<|
    if(e51.Ballot !=0)=true then
     emit (⟨4,c_0.Station.Me,c_1,e51.Night,e51.Ballot,0,e51.Value,0,0,0,0⟩:b8)<|
     some ([], .inl (W (v35+1)))
    else
     some ([], .inl (W (v35+1)))
   else
    if(e51.Ballot !=0)=true then
     emit (⟨4,c_0.Station.Me,c_1,e51.Night,e51.Ballot,0,e51.Value,0,0,0,0⟩:b8)<|
     some ([], .inl (W (v35+1)))
    else
     some ([], .inl (W (v35+1)))
  else
   if(e51.Ballot !=0)=true then
    emit (⟨4,c_0.Station.Me,c_1,e51.Night,e51.Ballot,0,e51.Value,0,0,0,0⟩:b8)<|
    some ([], .inl (W (v35+1)))
   else
    some ([], .inl (W (v35+1)))
 else
  some ([], .inr v35)
def a1h (c_0:G7) (c_1:Int):Int→Option (List b8×Sum Int Int):=fun v70=>
 if(decide (v70<(c_0.Station.Safe.Leases.length:Int)))=true then
  Option.bind (idx c_0.Station.Safe.Leases v70) fun e77=>
  if(e77.To==c_1)=true then
   emit (⟨5,c_0.Station.Me,c_1,0,0,0,0,e77.No,e77.Thing,e77.From,e77.Until⟩:b8)<|
   some ([], .inl (W (v70+1)))
  else
   some ([], .inl (W (v70+1)))
 else
  some ([], .inr v70)
def a1t (c_0:G7) (c_1:Int):Int→Option (List b8×Sum Int Int):=fun v88=>
 if(decide (v88<(c_0.Station.Safe.Loans.length:Int)))=true then
  Option.bind (idx c_0.Station.Safe.Loans v88) fun e96=>
  if(e96.Owner==c_1)=true then
   if e96.Back=true then
    emit (⟨6,c_0.Station.Me,c_1,0,0,0,0,e96.No,e96.Thing,0,e96.Until⟩:b8)<|
    some ([], .inl (W (v88+1)))
   else
    some ([], .inl (W (v88+1)))
  else
   some ([], .inl (W (v88+1)))
 else
  some ([], .inr v88)
def a2I (c_0:G7) (c_1:Int):Option (List b8×Unit):=
 b3o (b4B (a1n c_0 c_1) 0) fun v20=>
 b3o (b4B (a1p c_0 c_1) 0) fun v64=>
 b3o (b4B (a1h c_0 c_1) 0) fun v81=>
 b3o (b4B (a1t c_0 c_1) 0) fun v101=>
 some ([],())
def c3c:List (Nat×PT):= [(3, .of [(0, [],true),(1, [],false),(2, [],false),(3, [],false),(4, [],true),(5, [],true),(6, [],false),(7, [],true),(8, [],false),(9, [],true),(10, [],false),(11, [],false),(12, [],false)]),(5, .of [(0, [],false),(1, [],false),(2, [],false),(3, [1],false),(4, [],false),(5, [],false)]),(11, .of [(0, [],false),(1, [],false),(3, [],false),(2, [3],true),(4, [],false),(5, [],false),(6, [],false),(7, [],false),(8, [],false),(9, [],false),(10, [],false),(11, [],false),(12, [],false),(13, [],false),(14, [],false),(15, [],false),(16, [],false),(17, [],false),(18, [],false),(19, [],false),(20, [],false),(21, [],false),(22, [],false),(23, [],false),(24, [],false),(25, [],false),(26, [],false),(27, [],false),(28, [],false)]),(12, .of [(0, [],false),(1, [],false),(2, [],false),(3, [],false),(4, [],false),(5, [],false),(6, [],false),(7, [],false),(8, [],false),(9, [],false),(10, [],false),(11, [],false),(12, [],false),(13, [],false),(14, [],false),(15, [],false),(16, [],false),(17, [],false)]),(17, .of [(0, [],false),(1, [],false),(2, [],false),(3, [],false),(4, [],false),(5, [],false),(6, [],false),(7, [],false),(8, [],false),(9, [],false),(10, [],false),(11, [],false),(12, [],false),(13, [],false),(14, [],false),(15, [],false),(16, [],false),(17, [],false),(18, [],false),(19, [],false),(20, [],false)]),(22, .of [(0, [],false),(1, [],false),(2, [],false),(3, [],false),(4, [],false),(5, [],false),(6, [],false),(7, [],false),(8, [],false),(9, [],false),(10, [],false),(11, [],false),(12, [],false),(13, [],false),(14, [],false),(15, [],false),(16, [],false),(17, [],false),(18, [],false),(19, [],false),(20, [],false),(21, [],false),(22, [],false)])]
theorem a7g (c_0:G7) (c_1:Int) (xs:List b8) (hm:a2I c_0 c_1=some (xs,())):a7O Tryz.prog 119 [.ptr [.ptr (G7.c c_0) 0] 0, .ptr [DI c_1] 0] (xs.map i5):=by
 refine c1c (X:=⟨Tryz.prog,tt,Tryz.f119.ntmps,c3c, [], [], [], [], []⟩) pok _ _ [(11,29),(12,18),(17,21),(22,23)] Tryz.func119 rfl rfl (Nat.le_of_ble_eq_true rfl) rfl ?_
 intro l
 obtain⟨r,hr⟩:∃r:List b8×Unit,r=(xs,()):=⟨_,rfl⟩
 rw [←hr]at hm
 have hp:Hp3 i5 [] r.1 [] (xs.map i5):=⟨by rw [hr];simp⟩
 clear hr
 obtain⟨ev290,rr294,he,hk291,hb1,hb2⟩:=a5x hm
 replace hp:=hp.in1 hb1
 clear hb1 hb2
 refine a7u.of (fun(lpx:Nat×Int)=>match lpx with|(fu292,v7)=>(⟨[(0, .v (.func (.yield l) #[] #[])),(1, .ptr [.ptr (G7.c c_0) 0] 0),(2, .ptr [DI c_1] 0),(18,lD 6 c_0.Station.Safe.Bids b9.c),(19,DI (c_0.Station.Safe.Bids.length:Int)),(20,DI v7)], [],0⟩:Sy)) (fun lpx q=>∃e,a5n (a1n c_0 c_1) lpx.1 lpx.2=some e∧Hp3 i5 q e.1 _ _∧e.2=ev290.2) (fun lpx=>lpx.1) (a7L,0) ⟨_,he,hp,rfl⟩ (c5.of 0 rfl (tA rfl) trivial) ?_
 clear hp he
 rintro⟨fu292,v7⟩ q ⟨el296,hi293,hp,hx297⟩
 obtain⟨fu292,b,tl,rfl,hm,hb1,hi293⟩:=a5C hi293
 replace hp:=hp.in1 hb1
 clear hb1
 have hq:b.2=b.2:=rfl
 apply vb hm<;>intro _ hm
 obtain⟨e300,hx301,hm⟩:=b5 hm
 refine⟨_,d9 (fun _=>rfl) hx301, ?_⟩
 refine⟨rfl, ?_⟩
 apply vb hm<;>intro _ hm
 refine⟨rfl, ?_⟩
 obtain⟨rb303,hm,hb1,hb2⟩:=a1r hm
 refine a0w.of (x':=i5 (⟨3,c_0.Station.Me,c_1,e300.Night,e300.Ballot,0,e300.Value,0,0,0,0⟩:b8)) rfl rfl (d0.le (leD.refl _)) (hp.pre hb1) ?_ ?_
 replace hp:=hp.emit hb1
 replace hq:=hq.trans hb2
 cases hm
 rw [hq]at hi293
 obtain⟨e2,hm,rfl,ht⟩:=hi293
 exact⟨(fu292,(W (v7+1))),_,c5.of 0 rfl (tA rfl) trivial,rfl,⟨_,hm,hp.out rfl,ht.symm.trans hx297⟩,Nat.lt_succ_self _⟩
 exact .inl rfl
 obtain⟨rb304,hm,hb1,hb2⟩:=a1r hm
 refine a0w.of (x':=i5 (⟨1,c_0.Station.Me,c_1,e300.Night,e300.Ballot,0,0,0,0,0,0⟩:b8)) rfl rfl (d0.le (leD.refl _)) (hp.pre hb1) ?_ ?_
 replace hp:=hp.emit hb1
 replace hq:=hq.trans hb2
 cases hm
 rw [hq]at hi293
 obtain⟨e2,hm,rfl,ht⟩:=hi293
 exact⟨(fu292,(W (v7+1))),_,c5.of 0 rfl (tA rfl) trivial,rfl,⟨_,hm,hp.out rfl,ht.symm.trans hx297⟩,Nat.lt_succ_self _⟩
 exact .inl rfl
 cases hm
 rw [hq]at hi293
 obtain⟨rfl,ht⟩:=hi293
 replace hp:=(hp.out (l':= []) rfl).out rfl
 have hm:=hk291
 try rw [←hx297,ht]at hm
 clear hq
 obtain⟨ev450,rr454,he,hk451,hb1,hb2⟩:=a5x hm
 replace hp:=hp.in1 hb1
 clear hb1 hb2
 refine a7u.of (fun(lpx:Nat×Int)=>match lpx with|(fu452,v319)=>(⟨[(0, .v (.func (.yield l) #[] #[])),(1, .ptr [.ptr (G7.c c_0) 0] 0),(2, .ptr [DI c_1] 0),(18,lD 6 c_0.Station.Safe.Bids b9.c),(19,DI (c_0.Station.Safe.Bids.length:Int)),(20,DI v7),(21,DB (decide (v7<(c_0.Station.Safe.Bids.length:Int)))),(51,lD 4 c_0.Station.Safe.Slots a8.c),(52,DI (c_0.Station.Safe.Slots.length:Int)),(53,DI v319)], [],0⟩:Sy)) (fun lpx q=>∃e,a5n (a1p c_0 c_1) lpx.1 lpx.2=some e∧Hp3 i5 q e.1 _ _∧e.2=ev450.2) (fun lpx=>lpx.1) (a7L,0) ⟨_,he,hp,rfl⟩ (c5.of 0 rfl (tA rfl) trivial) ?_
 clear hp he
 rintro⟨fu452,v319⟩ q ⟨el456,hi453,hp,hx457⟩
 obtain⟨fu452,b,tl,rfl,hm,hb1,hi453⟩:=a5C hi453
 replace hp:=hp.in1 hb1
 clear hb1
 have hq:b.2=b.2:=rfl
 apply vb hm<;>intro _ hm
 obtain⟨e460,hx461,hm⟩:=b5 hm
 refine⟨_,d9 (fun _=>rfl) hx461, ?_⟩
 refine⟨rfl,rfl, ?_⟩
 refine cy hm (j2 e460.Promised) fun x462 hm=> ?_
 apply vb hm<;>intro _ hm
 apply vb hm<;>intro _ hm
 obtain⟨rb468,hm,hb1,hb2⟩:=a1r hm
 refine a0w.fz [0] rfl (a8f.of (x':=i5 (⟨2,c_0.Station.Me,c_1,e460.Night,e460.Promised,e460.Ballot,e460.Value,0,0,0,0⟩:b8)) rfl rfl (d0.le (leD.refl _)) (hp.pre hb1) ?_ ?_)
 replace hp:=hp.emit hb1
 replace hq:=hq.trans hb2
 refine⟨rfl,rfl, ?_⟩
 apply vb hm<;>intro _ hm
 obtain⟨rb467,hm,hb1,hb2⟩:=a1r hm
 refine a0w.of (x':=i5 (⟨4,c_0.Station.Me,c_1,e460.Night,e460.Ballot,0,e460.Value,0,0,0,0⟩:b8)) rfl rfl (d0.le (leD.refl _)) (hp.pre hb1) ?_ ?_
 replace hp:=hp.emit hb1
 replace hq:=hq.trans hb2
 cases hm
 rw [hq]at hi453
 obtain⟨e2,hm,rfl,ht⟩:=hi453
 exact⟨(fu452,(W (v319+1))),_,c5.of 0 rfl (tA rfl) trivial,rfl,⟨_,hm,hp.out rfl,ht.symm.trans hx457⟩,Nat.lt_succ_self _⟩
 exact .inl rfl
 cases hm
 rw [hq]at hi453
 obtain⟨e2,hm,rfl,ht⟩:=hi453
 exact⟨(fu452,(W (v319+1))),_,c5.of 0 rfl (tA rfl) trivial,rfl,⟨_,hm,hp.out rfl,ht.symm.trans hx457⟩,Nat.lt_succ_self _⟩
 exact .inl rfl
 refine⟨rfl,rfl, ?_⟩
 apply vb hm<;>intro _ hm
 obtain⟨rb470,hm,hb1,hb2⟩:=a1r hm
 refine a0w.of (x':=i5 (⟨4,c_0.Station.Me,c_1,e460.Night,e460.Ballot,0,e460.Value,0,0,0,0⟩:b8)) rfl rfl (d0.le (leD.refl _)) (hp.pre hb1) ?_ ?_
 replace hp:=hp.emit hb1
 replace hq:=hq.trans hb2
 cases hm
 rw [hq]at hi453
 obtain⟨e2,hm,rfl,ht⟩:=hi453
 exact⟨(fu452,(W (v319+1))),_,c5.of 0 rfl (tA rfl) trivial,rfl,⟨_,hm,hp.out rfl,ht.symm.trans hx457⟩,Nat.lt_succ_self _⟩
 exact .inl rfl
 cases hm
 rw [hq]at hi453
 obtain⟨e2,hm,rfl,ht⟩:=hi453
 exact⟨(fu452,(W (v319+1))),_,c5.of 0 rfl (tA rfl) trivial,rfl,⟨_,hm,hp.out rfl,ht.symm.trans hx457⟩,Nat.lt_succ_self _⟩
 refine⟨rfl,rfl, ?_⟩
 apply vb hm<;>intro _ hm
 obtain⟨rb472,hm,hb1,hb2⟩:=a1r hm
 refine a0w.of (x':=i5 (⟨4,c_0.Station.Me,c_1,e460.Night,e460.Ballot,0,e460.Value,0,0,0,0⟩:b8)) rfl rfl (d0.le (leD.refl _)) (hp.pre hb1) ?_ ?_
 replace hp:=hp.emit hb1
 replace hq:=hq.trans hb2
 cases hm
 rw [hq]at hi453
 obtain⟨e2,hm,rfl,ht⟩:=hi453
 exact⟨(fu452,(W (v319+1))),_,c5.of 0 rfl (tA rfl) trivial,rfl,⟨_,hm,hp.out rfl,ht.symm.trans hx457⟩,Nat.lt_succ_self _⟩
 exact .inl rfl
 cases hm
 rw [hq]at hi453
 obtain⟨e2,hm,rfl,ht⟩:=hi453
 exact⟨(fu452,(W (v319+1))),_,c5.of 0 rfl (tA rfl) trivial,rfl,⟨_,hm,hp.out rfl,ht.symm.trans hx457⟩,Nat.lt_succ_self _⟩
 cases hm
 rw [hq]at hi453
 obtain⟨rfl,ht⟩:=hi453
 replace hp:=(hp.out (l':= []) rfl).out rfl
 have hm:=hk451
 try rw [←hx457,ht]at hm
 clear hq
 obtain⟨ev525,rr529,he,hk526,hb1,hb2⟩:=a5x hm
 replace hp:=hp.in1 hb1
 clear hb1 hb2
 refine a7u.of (fun(lpx:Nat×Int)=>match lpx with|(fu527,v478)=>(⟨[(0, .v (.func (.yield l) #[] #[])),(1, .ptr [.ptr (G7.c c_0) 0] 0),(2, .ptr [DI c_1] 0),(18,lD 6 c_0.Station.Safe.Bids b9.c),(19,DI (c_0.Station.Safe.Bids.length:Int)),(20,DI v7),(21,DB (decide (v7<(c_0.Station.Safe.Bids.length:Int)))),(51,lD 4 c_0.Station.Safe.Slots a8.c),(52,DI (c_0.Station.Safe.Slots.length:Int)),(53,DI v319),(54,DB (decide (v319<(c_0.Station.Safe.Slots.length:Int)))),(116,lD 5 c_0.Station.Safe.Leases b6.c),(117,DI (c_0.Station.Safe.Leases.length:Int)),(118,DI v478)], [],0⟩:Sy)) (fun lpx q=>∃e,a5n (a1h c_0 c_1) lpx.1 lpx.2=some e∧Hp3 i5 q e.1 _ _∧e.2=ev525.2) (fun lpx=>lpx.1) (a7L,0) ⟨_,he,hp,rfl⟩ (c5.of 0 rfl (tA rfl) trivial) ?_
 clear hp he
 rintro⟨fu527,v478⟩ q ⟨el531,hi528,hp,hx532⟩
 obtain⟨fu527,b,tl,rfl,hm,hb1,hi528⟩:=a5C hi528
 replace hp:=hp.in1 hb1
 clear hb1
 have hq:b.2=b.2:=rfl
 apply vb hm<;>intro _ hm
 obtain⟨e535,hx536,hm⟩:=b5 hm
 refine⟨_,d9 (fun _=>rfl) hx536, ?_⟩
 refine⟨rfl,rfl, ?_⟩
 apply vb hm<;>intro _ hm
 obtain⟨rb538,hm,hb1,hb2⟩:=a1r hm
 refine a0w.of (x':=i5 (⟨5,c_0.Station.Me,c_1,0,0,0,0,e535.No,e535.Thing,e535.From,e535.Until⟩:b8)) rfl rfl (d0.le (leD.refl _)) (hp.pre hb1) ?_ ?_
 replace hp:=hp.emit hb1
 replace hq:=hq.trans hb2
 cases hm
 rw [hq]at hi528
 obtain⟨e2,hm,rfl,ht⟩:=hi528
 exact⟨(fu527,(W (v478+1))),_,c5.of 0 rfl (tA rfl) trivial,rfl,⟨_,hm,hp.out rfl,ht.symm.trans hx532⟩,Nat.lt_succ_self _⟩
 exact .inl rfl
 cases hm
 rw [hq]at hi528
 obtain⟨e2,hm,rfl,ht⟩:=hi528
 exact⟨(fu527,(W (v478+1))),_,c5.of 0 rfl (tA rfl) trivial,rfl,⟨_,hm,hp.out rfl,ht.symm.trans hx532⟩,Nat.lt_succ_self _⟩
 cases hm
 rw [hq]at hi528
 obtain⟨rfl,ht⟩:=hi528
 replace hp:=(hp.out (l':= []) rfl).out rfl
 have hm:=hk526
 try rw [←hx532,ht]at hm
 clear hq
 obtain⟨ev559,rr563,he,hk560,hb1,hb2⟩:=a5x hm
 replace hp:=hp.in1 hb1
 clear hb1 hb2
 refine a7u.of (fun(lpx:Nat×Int)=>match lpx with|(fu561,v545)=>(⟨[(0, .v (.func (.yield l) #[] #[])),(1, .ptr [.ptr (G7.c c_0) 0] 0),(2, .ptr [DI c_1] 0),(18,lD 6 c_0.Station.Safe.Bids b9.c),(19,DI (c_0.Station.Safe.Bids.length:Int)),(20,DI v7),(21,DB (decide (v7<(c_0.Station.Safe.Bids.length:Int)))),(51,lD 4 c_0.Station.Safe.Slots a8.c),(52,DI (c_0.Station.Safe.Slots.length:Int)),(53,DI v319),(54,DB (decide (v319<(c_0.Station.Safe.Slots.length:Int)))),(116,lD 5 c_0.Station.Safe.Leases b6.c),(117,DI (c_0.Station.Safe.Leases.length:Int)),(118,DI v478),(119,DB (decide (v478<(c_0.Station.Safe.Leases.length:Int)))),(152,lD 6 c_0.Station.Safe.Loans b4.c),(153,DI (c_0.Station.Safe.Loans.length:Int)),(154,DI v545)], [],0⟩:Sy)) (fun lpx q=>∃e,a5n (a1t c_0 c_1) lpx.1 lpx.2=some e∧Hp3 i5 q e.1 _ _∧e.2=ev559.2) (fun lpx=>lpx.1) (a7L,0) ⟨_,he,hp,rfl⟩ (c5.of 0 rfl (tA rfl) trivial) ?_
 clear hp he
 rintro⟨fu561,v545⟩ q ⟨el565,hi562,hp,hx566⟩
 obtain⟨fu561,b,tl,rfl,hm,hb1,hi562⟩:=a5C hi562
 replace hp:=hp.in1 hb1
 clear hb1
 have hq:b.2=b.2:=rfl
 apply vb hm<;>intro _ hm
 obtain⟨e569,hx570,hm⟩:=b5 hm
 refine⟨_,d9 (fun _=>rfl) hx570, ?_⟩
 refine⟨rfl,rfl, ?_⟩
 apply vb hm<;>intro _ hm
 apply vb hm<;>intro _ hm
 obtain⟨rb573,hm,hb1,hb2⟩:=a1r hm
 refine a0w.of (x':=i5 (⟨6,c_0.Station.Me,c_1,0,0,0,0,e569.No,e569.Thing,0,e569.Until⟩:b8)) rfl rfl (d0.le (leD.refl _)) (hp.pre hb1) ?_ ?_
 replace hp:=hp.emit hb1
 replace hq:=hq.trans hb2
 cases hm
 rw [hq]at hi562
 obtain⟨e2,hm,rfl,ht⟩:=hi562
 exact⟨(fu561,(W (v545+1))),_,c5.of 0 rfl (tA rfl) trivial,rfl,⟨_,hm,hp.out rfl,ht.symm.trans hx566⟩,Nat.lt_succ_self _⟩
 exact .inl rfl
 cases hm
 rw [hq]at hi562
 obtain⟨e2,hm,rfl,ht⟩:=hi562
 exact⟨(fu561,(W (v545+1))),_,c5.of 0 rfl (tA rfl) trivial,rfl,⟨_,hm,hp.out rfl,ht.symm.trans hx566⟩,Nat.lt_succ_self _⟩
 cases hm
 rw [hq]at hi562
 obtain⟨e2,hm,rfl,ht⟩:=hi562
 exact⟨(fu561,(W (v545+1))),_,c5.of 0 rfl (tA rfl) trivial,rfl,⟨_,hm,hp.out rfl,ht.symm.trans hx566⟩,Nat.lt_succ_self _⟩
 cases hm
 rw [hq]at hi562
 obtain⟨rfl,ht⟩:=hi562
 replace hp:=(hp.out (l':= []) rfl).out rfl
 have hm:=hk560
 try rw [←hx566,ht]at hm
 clear hq
 cases hm
 exact .inr (congrArg some (hp.done rfl))
def w4:(List b8)→b8→Option (Sum (List b8) Unit):=fun v2 y1=>
 gd ((v2.length+([y1]:List b8).length)*88≤140737488355328∧v2.length+([y1]:List b8).length≤9223372036854775807)<|
 some (.inl (v2++([y1]:List b8)))
def y6 (c1_0:G7) (c1_1:Int):Option (List b8):=
 Option.bind (a2I c1_0 c1_1) fun l3=>
 Option.bind (a1f w4 l3.1 []) fun e=>
 match e with
 | .inl v4=>
  some v4
 | .inr _=>none
theorem K4 (c1_0:G7) (c1_1:Int) (r:(List b8)) (hm:y6 c1_0 c1_1=some r):d7 Tryz.prog 118 [nS, .fn 119 [] [.ptr [.ptr (G7.c c1_0) 0] 0, .ptr [DI c1_1] 0]] (fun x=>x=lD 11 r b8.c):=by
 refine c1x (X:=⟨Tryz.prog,tt,Tryz.f118.ntmps, [], [], [], [], [], []⟩) pok _ Tryz.func118 rfl rfl (Nat.le_of_ble_eq_true rfl) ?_
 intro ds
 intro ds
 obtain⟨l3,hl6,hm⟩:=b5 hm
 obtain⟨ev5,he,hm⟩:=b5 hm
 refine a5p.ofZ (E:=Unit) i5 l3.1 w4 (fun(lpx:(List b8))=>match lpx with|v2=>(⟨[(0,nS),(1, .fn 119 [] [.ptr [.ptr (G7.c c1_0) 0] 0, .ptr [DI c1_1] 0]),(2, .own 0 0),(4,nS)], [(0, .blk [.row 1 11] 34),(1,rE 11 v2 b8.c 42)],2⟩:Sy)) (fun(_:Unit)=>(⟨[], [],0⟩:Sy)) (fun _=> .ret) [] ev5 [0,1,2,4] (a7g c1_0 c1_1 l3.1 hl6) he (c1g pok Tryz.func119 rfl) rfl rfl (fun _=>rfl) rfl rfl rfl (by rintro v2;rfl) (by intro _;rfl) (c5.of 1 rfl (tA rfl) ⟨hR rfl,⟨rfl,rfl⟩,trivial⟩) ?_ ?_ (fun _=> .inl rfl) ?_
 rintro v4 rfl
 intro ds
 intro ds
 cases hm
 exact d0.le (leD.refl _)
 rintro _ rfl
 cases hm
 clear he hm
 rintro v2 y1 b hm
 refine⟨([y1]:List b8).flatMap b8.c,([y1]:List b8).length,⟨rfl,rfl⟩, ?_⟩
 obtain⟨hg,hm⟩:=c6 hm
 refine⟨hg,_,_,c9 (c:=b8.c) (l:=(v2:List b8)) (r:=(([y1]:List b8):List b8)), ?_⟩
 cases hm
 exact⟨(v2++([y1]:List b8)),rfl,c5.of 2 rfl (tA rfl) ⟨hR rfl,hW rfl,trivial⟩⟩
def J2 (c0_0:G7) (c0_1:Int):Option (List b8):=
 Option.bind (y6 c0_0 c0_1) fun x1=>
 some x1
theorem U7 (c0_0:G7) (c0_1:Int) (r:(List b8)) (hm:J2 c0_0 c0_1=some r):d7 Tryz.prog 65 [.fn 119 [] [.ptr [.ptr (G7.c c0_0) 0] 0, .ptr [DI c0_1] 0]] (fun x=>x=lD 11 r b8.c):=by
 refine zn Tryz.func65 rfl ?_
 refine cy hm (K4 c0_0 c0_1) fun x1 hm=> ?_
 cases hm
 exact d0.le (leD.refl _)
def a3A (x:a6) (to_:Int):Option ((List b8)×Int):=
 Option.bind (a0y x) fun⟨x1,x2⟩=>
 b8X x1 (
  if(x2 !=0)=true then
   some ([],x2)
  else
   Option.bind (u2 to_) fun x6=>
   if(!x6)=true then
    some ([],1)
   else
    none) fun p4=>
 if(x2 !=0)=true then
  some ([],x2)
 else
  Option.bind (u2 to_) fun x10=>
  if(!x10)=true then
   some ([],1)
  else
   Option.bind (a4e p4 to_) fun⟨x13,x14⟩=>
   Option.bind (J2 x13 x14) fun x16=>
   some (x16,0)
theorem b1K (x:a6) (to_:Int) (r:((List b8)×Int)) (hm:a3A x to_=some r):d7 Tryz.prog 16 [.agg (a6.c x),DI to_] (fun x=>x= .tup [lD 11 r.1 b8.c,DI r.2]):=by
 refine zn Tryz.func16 rfl ?_
 refine cy hm (a4B x) ?_
 rintro⟨x1,x2⟩ hm
 rcases x1 with _|p4
 replace hm:=b2x hm
 apply vb hm<;>intro _ hm
 cases hm
 exact d0.le (⟨_,rfl,⟨leD.nil,leD.refl _,trivial⟩⟩)
 refine cy hm (w7 to_) fun x6 hm=> ?_
 apply vb hm<;>intro _ hm
 cases hm
 exact d0.le (⟨_,rfl,⟨leD.nil,leD.refl _,trivial⟩⟩)
 cases hm
 replace hm:=b1F hm
 apply vb hm<;>intro _ hm
 cases hm
 exact d0.le (⟨_,rfl,⟨leD.nil,leD.refl _,trivial⟩⟩)
 refine cy hm (w7 to_) fun x10 hm=> ?_
 apply vb hm<;>intro _ hm
 cases hm
 exact d0.le (⟨_,rfl,⟨leD.nil,leD.refl _,trivial⟩⟩)
 refine cy hm (a8A p4 to_) ?_
 rintro⟨x13,x14⟩ hm
 refine cy hm (U7 x13 x14) fun x16 hm=> ?_
 cases hm
 exact d0.le (leD.refl _)
def a3I (a:b7) (b_:b7):Int→Option (Sum Int (Sum Int Bool)):=fun i13=>
 if(decide (i13<(a.Slots.length:Int)))=true then
  Option.bind (idx a.Slots i13) fun e21=>
  Option.bind (idx b_.Slots i13) fun e23=>
  if(!((e21.Night==e23.Night)&&((e21.Promised==e23.Promised)&&((e21.Ballot==e23.Ballot)&&(e21.Value==e23.Value)))))=true then
   some (.inr (.inr false))
  else
   some (.inl (W (i13+1)))
 else
  some (.inr (.inl i13))
def a3Z (a:b7) (b_:b7):Int→Option (Sum Int (Sum Int Bool)):=fun i33=>
 if(decide (i33<(a.Bids.length:Int)))=true then
  Option.bind (idx a.Bids i33) fun e41=>
  Option.bind (idx b_.Bids i33) fun e43=>
  if(!((e41.Night==e43.Night)&&((e41.Ballot==e43.Ballot)&&((e41.Value==e43.Value)&&((e41.Best==e43.Best)&&((e41.Mask==e43.Mask)&&(e41.Asked==e43.Asked)))))))=true then
   some (.inr (.inr false))
  else
   some (.inl (W (i33+1)))
 else
  some (.inr (.inl i33))
def a3H (a:b7) (b_:b7):Int→Option (Sum Int (Sum Int Bool)):=fun i53=>
 if(decide (i53<(a.Heard.length:Int)))=true then
  Option.bind (idx a.Heard i53) fun e61=>
  Option.bind (idx b_.Heard i53) fun e63=>
  if(!((e61.Night==e63.Night)&&((e61.Ballot==e63.Ballot)&&((e61.Value==e63.Value)&&(e61.Mask==e63.Mask)))))=true then
   some (.inr (.inr false))
  else
   some (.inl (W (i53+1)))
 else
  some (.inr (.inl i53))
def a3X (a:b7) (b_:b7):Int→Option (Sum Int (Sum Int Bool)):=fun i73=>
 if(decide (i73<(a.Leases.length:Int)))=true then
  Option.bind (idx a.Leases i73) fun e81=>
  Option.bind (idx b_.Leases i73) fun e83=>
  if(!((e81.No==e83.No)&&((e81.Thing==e83.Thing)&&((e81.To==e83.To)&&((e81.From==e83.From)&&(e81.Until==e83.Until))))))=true then
   some (.inr (.inr false))
  else
   some (.inl (W (i73+1)))
 else
  some (.inr (.inl i73))
def a3E (a:b7) (b_:b7):Int→Option (Sum Int (Sum Int Bool)):=fun i93=>
 if(decide (i93<(a.Loans.length:Int)))=true then
  Option.bind (idx a.Loans i93) fun e101=>
  Option.bind (idx b_.Loans i93) fun e103=>
  if(!((e101.Owner==e103.Owner)&&((e101.No==e103.No)&&((e101.Thing==e103.Thing)&&((e101.From==e103.From)&&((e101.Until==e103.Until)&&(e101.Back==e103.Back)))))))=true then
   some (.inr (.inr false))
  else
   some (.inl (W (i93+1)))
 else
  some (.inr (.inl i93))
def Y5 (a:b7) (b_:b7):Option Bool:=
 if(a.Round !=b_.Round)=true then
  some false
 else
  if((a.Slots.length:Int) !=(b_.Slots.length:Int))=true then
   some false
  else
   if((a.Bids.length:Int) !=(b_.Bids.length:Int))=true then
    some false
   else
    if((a.Heard.length:Int) !=(b_.Heard.length:Int))=true then
     some false
    else
     if((a.Leases.length:Int) !=(b_.Leases.length:Int))=true then
      some false
     else
      if((a.Loans.length:Int) !=(b_.Loans.length:Int))=true then
       some false
      else
       Option.bind (l8 (a3I a b_) 0) fun e=>
       match e with
       | .inl i26=>
        Option.bind (l8 (a3Z a b_) 0) fun e=>
        match e with
        | .inl i46=>
         Option.bind (l8 (a3H a b_) 0) fun e=>
         match e with
         | .inl i66=>
          Option.bind (l8 (a3X a b_) 0) fun e=>
          match e with
          | .inl i86=>
           Option.bind (l8 (a3E a b_) 0) fun e=>
           match e with
           | .inl i106=>
            some true
           | .inr rr107=>
            some rr107
          | .inr rr118=>
           some rr118
         | .inr rr160=>
          some rr160
        | .inr rr264=>
         some rr264
       | .inr rr492=>
        some rr492
theorem a5N (a:b7) (b_:b7) (r:Bool) (hm:Y5 a b_=some r):d7 Tryz.prog 44 [.agg (b7.c a), .agg (b7.c b_)] (fun x=>x=DB r):=by
 refine zy c6b [] [] [] Tryz.func44 rfl ?_
 apply vb hm<;>intro _ hm
 exact hm.rr
 apply vb hm<;>intro _ hm
 exact hm.rr
 apply vb hm<;>intro _ hm
 exact hm.rr
 apply vb hm<;>intro _ hm
 exact hm.rr
 apply vb hm<;>intro _ hm
 exact hm.rr
 apply vb hm<;>intro _ hm
 exact hm.rr
 obtain⟨ev493,he,hk494⟩:=b5 hm
 refine u4.ofL (a3I a b_) (fun i13=>⟨[(0, .agg (b7.c a)),(1, .agg (b7.c b_)),(2, .own 0 0),(3, .own 1 0),(4,DB false),(5,DI i13),(59,DB ((a.Loans.length:Int) !=(b_.Loans.length:Int)))], [(0, .blk (b7.c a) 28),(1, .blk (b7.c b_) 28)],2⟩) 0 (c5.of 2 rfl (tA rfl) ⟨hR rfl,hR rfl,trivial⟩) he ?_
 rintro fu495 i13 b hm hi496
 apply vb hm<;>intro _ hm
 refine⟨rfl, ?_⟩
 obtain⟨e498,hx499,hm⟩:=b5 hm
 refine⟨_,d9 (fun _=>rfl) hx499, ?_⟩
 obtain⟨e500,hx501,hm⟩:=b5 hm
 refine⟨_,d9 (fun _=>rfl) hx501, ?_⟩
 apply vb hm<;>intro _ hm
 cases hm
 cases hi496
 have hm:=hk494
 exact hm.rr
 cases hm
 exact⟨(_,(W (i13+1))),c5.of 2 rfl (tA rfl) ⟨hR rfl,hR rfl,trivial⟩,hi496,Nat.lt_succ_self _⟩
 cases hm
 cases hi496
 have hm:=hk494
 obtain⟨ev741,he,hk742⟩:=b5 hm
 refine u4.ofL (a3Z a b_) (fun i509=>⟨[(0, .agg (b7.c a)),(1, .agg (b7.c b_)),(2, .own 0 0),(3, .own 1 0),(4,DB false),(5,DI i13),(6,DI i509),(59,DB ((a.Loans.length:Int) !=(b_.Loans.length:Int))),(64,DB (decide (i13<(a.Slots.length:Int))))], [(0, .blk (b7.c a) 28),(1, .blk (b7.c b_) 28)],2⟩) 0 (c5.of 2 rfl (tA rfl) ⟨hR rfl,hR rfl,trivial⟩) he ?_
 rintro fu743 i509 b hm hi744
 apply vb hm<;>intro _ hm
 refine⟨rfl, ?_⟩
 obtain⟨e746,hx747,hm⟩:=b5 hm
 refine⟨_,d9 (fun _=>rfl) hx747, ?_⟩
 obtain⟨e748,hx749,hm⟩:=b5 hm
 refine⟨_,d9 (fun _=>rfl) hx749, ?_⟩
 apply vb hm<;>intro _ hm
 cases hm
 cases hi744
 have hm:=hk742
 exact hm.rr
 cases hm
 exact⟨(_,(W (i509+1))),c5.of 2 rfl (tA rfl) ⟨hR rfl,hR rfl,trivial⟩,hi744,Nat.lt_succ_self _⟩
 cases hm
 cases hi744
 have hm:=hk742
 obtain⟨ev865,he,hk866⟩:=b5 hm
 refine u4.ofL (a3H a b_) (fun i757=>⟨[(0, .agg (b7.c a)),(1, .agg (b7.c b_)),(2, .own 0 0),(3, .own 1 0),(4,DB false),(5,DI i13),(6,DI i509),(7,DI i757),(59,DB ((a.Loans.length:Int) !=(b_.Loans.length:Int))),(64,DB (decide (i13<(a.Slots.length:Int)))),(82,DB (decide (i509<(a.Bids.length:Int))))], [(0, .blk (b7.c a) 28),(1, .blk (b7.c b_) 28)],2⟩) 0 (c5.of 2 rfl (tA rfl) ⟨hR rfl,hR rfl,trivial⟩) he ?_
 rintro fu867 i757 b hm hi868
 apply vb hm<;>intro _ hm
 refine⟨rfl, ?_⟩
 obtain⟨e870,hx871,hm⟩:=b5 hm
 refine⟨_,d9 (fun _=>rfl) hx871, ?_⟩
 obtain⟨e872,hx873,hm⟩:=b5 hm
 refine⟨_,d9 (fun _=>rfl) hx873, ?_⟩
 apply vb hm<;>intro _ hm
 cases hm
 cases hi868
 have hm:=hk866
 exact hm.rr
 cases hm
 exact⟨(_,(W (i757+1))),c5.of 2 rfl (tA rfl) ⟨hR rfl,hR rfl,trivial⟩,hi868,Nat.lt_succ_self _⟩
 cases hm
 cases hi868
 have hm:=hk866
 obtain⟨ev927,he,hk928⟩:=b5 hm
 refine u4.ofL (a3X a b_) (fun i881=>⟨[(0, .agg (b7.c a)),(1, .agg (b7.c b_)),(2, .own 0 0),(3, .own 1 0),(4,DB false),(5,DI i13),(6,DI i509),(7,DI i757),(8,DI i881),(59,DB ((a.Loans.length:Int) !=(b_.Loans.length:Int))),(64,DB (decide (i13<(a.Slots.length:Int)))),(82,DB (decide (i509<(a.Bids.length:Int)))),(100,DB (decide (i757<(a.Heard.length:Int))))], [(0, .blk (b7.c a) 28),(1, .blk (b7.c b_) 28)],2⟩) 0 (c5.of 2 rfl (tA rfl) ⟨hR rfl,hR rfl,trivial⟩) he ?_
 rintro fu929 i881 b hm hi930
 apply vb hm<;>intro _ hm
 refine⟨rfl, ?_⟩
 obtain⟨e932,hx933,hm⟩:=b5 hm
 refine⟨_,d9 (fun _=>rfl) hx933, ?_⟩
 obtain⟨e934,hx935,hm⟩:=b5 hm
 refine⟨_,d9 (fun _=>rfl) hx935, ?_⟩
 apply vb hm<;>intro _ hm
 cases hm
 cases hi930
 have hm:=hk928
 exact hm.rr
 cases hm
 exact⟨(_,(W (i881+1))),c5.of 2 rfl (tA rfl) ⟨hR rfl,hR rfl,trivial⟩,hi930,Nat.lt_succ_self _⟩
 cases hm
 cases hi930
 have hm:=hk928
 obtain⟨ev958,he,hk959⟩:=b5 hm
 refine u4.ofL (a3E a b_) (fun i943=>⟨[(0, .agg (b7.c a)),(1, .agg (b7.c b_)),(2, .own 0 0),(3, .own 1 0),(4,DB false),(5,DI i13),(6,DI i509),(7,DI i757),(8,DI i881),(9,DI i943),(59,DB ((a.Loans.length:Int) !=(b_.Loans.length:Int))),(64,DB (decide (i13<(a.Slots.length:Int)))),(82,DB (decide (i509<(a.Bids.length:Int)))),(100,DB (decide (i757<(a.Heard.length:Int)))),(118,DB (decide (i881<(a.Leases.length:Int))))], [(0, .blk (b7.c a) 28),(1, .blk (b7.c b_) 28)],2⟩) 0 (c5.of 2 rfl (tA rfl) ⟨hR rfl,hR rfl,trivial⟩) he ?_
 rintro fu960 i943 b hm hi961
 apply vb hm<;>intro _ hm
 refine⟨rfl, ?_⟩
 obtain⟨e963,hx964,hm⟩:=b5 hm
 refine⟨_,d9 (fun _=>rfl) hx964, ?_⟩
 obtain⟨e965,hx966,hm⟩:=b5 hm
 refine⟨_,d9 (fun _=>rfl) hx966, ?_⟩
 apply vb hm<;>intro _ hm
 cases hm
 cases hi961
 have hm:=hk959
 exact hm.rr
 cases hm
 exact⟨(_,(W (i943+1))),c5.of 2 rfl (tA rfl) ⟨hR rfl,hR rfl,trivial⟩,hi961,Nat.lt_succ_self _⟩
 cases hm
 cases hi961
 have hm:=hk959
 exact hm.rr
def a1b (a:a6) (b_:a6):Option Bool:=
 if(a.Me==b_.Me)=true then
  Option.bind (Y5 a.Now b_.Now) fun x2=>
  if x2=true then
   Option.bind (Y5 a.Safe b_.Safe) fun x5=>
   some x5
  else
   some false
 else
  some false
theorem a5m (a:a6) (b_:a6) (r:Bool) (hm:a1b a b_=some r):d7 Tryz.prog 18 [.agg (a6.c a), .agg (a6.c b_)] (fun x=>x=DB r):=by
 refine zn Tryz.func18 rfl ?_
 apply vb hm<;>intro _ hm
 refine cy hm (a5N a.Now b_.Now) fun x2 hm=> ?_
 apply vb hm<;>intro _ hm
 refine cy hm (a5N a.Safe b_.Safe) fun x5 hm=> ?_
 exact hm.rr
 exact hm.rr
 exact hm.rr
def a3t (a:(List b8)) (b_:(List b8)):Int→Option (Sum Int (Sum Int Bool)):=fun i8=>
 if(decide (i8<(a.length:Int)))=true then
  Option.bind (idx a i8) fun e16=>
  Option.bind (idx b_ i8) fun e18=>
  if(!((e16.Kind==e18.Kind)&&((e16.From==e18.From)&&((e16.To==e18.To)&&((e16.Night==e18.Night)&&((e16.Ballot==e18.Ballot)&&((e16.Best==e18.Best)&&((e16.Value==e18.Value)&&((e16.No==e18.No)&&((e16.Thing==e18.Thing)&&((e16.Start==e18.Start)&&(e16.Until==e18.Until))))))))))))=true then
   some (.inr (.inr false))
  else
   some (.inl (W (i8+1)))
 else
  some (.inr (.inl i8))
def a0N (a:(List b8)) (b_:(List b8)):Option Bool:=
 if((a.length:Int) !=(b_.length:Int))=true then
  some false
 else
  Option.bind (l8 (a3t a b_) 0) fun e=>
  match e with
  | .inl i21=>
   some true
  | .inr rr22=>
   some rr22
theorem a5U (a:(List b8)) (b_:(List b8)) (r:Bool) (hm:a0N a b_=some r):d7 Tryz.prog 19 [lD 11 a b8.c,lD 11 b_ b8.c] (fun x=>x=DB r):=by
 refine zy c5z [] [] [] Tryz.func19 rfl ?_
 apply vb hm<;>intro _ hm
 exact hm.rr
 obtain⟨ev23,he,hk24⟩:=b5 hm
 refine u4.ofL (a3t a b_) (fun i8=>⟨[(0,lD 11 a b8.c),(1,lD 11 b_ b8.c),(4,DB false),(5,DI i8),(10,DB ((a.length:Int) !=(b_.length:Int)))], [],0⟩) 0 (c5.of 0 rfl (tA rfl) trivial) he ?_
 rintro fu25 i8 b hm hi26
 apply vb hm<;>intro _ hm
 refine⟨rfl, ?_⟩
 obtain⟨e28,hx29,hm⟩:=b5 hm
 refine⟨_,d9 (fun _=>rfl) hx29, ?_⟩
 obtain⟨e30,hx31,hm⟩:=b5 hm
 refine⟨_,d9 (fun _=>rfl) hx31, ?_⟩
 apply vb hm<;>intro _ hm
 cases hm
 cases hi26
 have hm:=hk24
 exact hm.rr
 cases hm
 exact⟨(_,(W (i8+1))),c5.of 0 rfl (tA rfl) trivial,hi26,Nat.lt_succ_self _⟩
 cases hm
 cases hi26
 have hm:=hk24
 exact hm.rr
def a1K (me:Int):Option (a6×Int):=
 Option.bind (u2 me) fun x1=>
 if(!x1)=true then
  some ((⟨0,(⟨0, [], [], [], [], []⟩:b7),(⟨0, [], [], [], [], []⟩:b7)⟩:a6),1)
 else
  some ((⟨me,(⟨0, [], [], [], [], []⟩:b7),(⟨0, [], [], [], [], []⟩:b7)⟩:a6),0)
theorem a5G (me:Int) (r:(a6×Int)) (hm:a1K me=some r):d7 Tryz.prog 21 [DI me] (fun x=>x= .tup [.agg (a6.c r.1),DI r.2]):=by
 refine zn Tryz.func21 rfl ?_
 refine cy hm (w7 me) fun x1 hm=> ?_
 apply vb hm<;>intro _ hm
 cases hm
 exact d0.le (⟨_,rfl,⟨⟨_,rfl,⟨leD.refl _,leD.refl _,leD.nil,leD.nil,leD.nil,leD.nil,leD.nil,leD.refl _,leD.nil,leD.nil,leD.nil,leD.nil,leD.nil,trivial⟩⟩,leD.refl _,trivial⟩⟩)
 cases hm
 exact d0.le (⟨_,rfl,⟨⟨_,rfl,⟨leD.refl _,leD.refl _,leD.nil,leD.nil,leD.nil,leD.nil,leD.nil,leD.refl _,leD.nil,leD.nil,leD.nil,leD.nil,leD.nil,trivial⟩⟩,leD.refl _,trivial⟩⟩)
def a0f (o:b6) (c_0:b6):Option Bool:=
 if(o.Thing==c_0.Thing)=true then
  Option.bind (a0F o c_0) fun x2=>
  some x2
 else
  some false
theorem a6d (o:b6) (c_0:b6) (r:Bool) (hm:a0f o c_0=some r):d7 Tryz.prog 151 [.agg (b6.c o), .ptr (b6.c c_0) 0] (fun x=>x=DB r):=by
 refine zn Tryz.func151 rfl ?_
 apply vb hm<;>intro _ hm
 refine cy hm (a7z o c_0) fun x2 hm=> ?_
 exact hm.rr
 exact hm.rr
def y4 (s:(List b6)) (c1_0:b6):Int→Option (Sum Int (Sum Int Int)):=fun v7=>
 if(decide (v7<(s.length:Int)))=true then
  Option.bind (idx s v7) fun e15=>
  Option.bind (a0f e15 c1_0) fun x17=>
  if x17=true then
   some (.inr (.inr v7))
  else
   some (.inl (W (v7+1)))
 else
  some (.inr (.inl v7))
def A9 (s:(List b6)) (c1_0:b6):Option Int:=
 Option.bind (l8 (y4 s c1_0) 0) fun e=>
 match e with
 | .inl v20=>
  some (-1)
 | .inr rr21=>
  some rr21
theorem K6 (s:(List b6)) (c1_0:b6) (r:Int) (hm:A9 s c1_0=some r):d7 Tryz.prog 179 [lD 5 s b6.c, .fn 151 [] [.ptr (b6.c c1_0) 0]] (fun x=>x=DI r):=by
 refine zn Tryz.func179 rfl ?_
 obtain⟨ev22,he,hk23⟩:=b5 hm
 refine u4.ofL (y4 s c1_0) (fun v7=>⟨[(0,lD 5 s b6.c),(1, .fn 151 [] [.ptr (b6.c c1_0) 0]),(4,DI 0),(7,DI (s.length:Int)),(8,DI v7)], [],0⟩) 0 (c5.of 0 rfl (tA rfl) trivial) he ?_
 rintro fu24 v7 b hm hi25
 apply vb hm<;>intro _ hm
 obtain⟨e27,hx28,hm⟩:=b5 hm
 refine⟨_,d9 (fun _=>rfl) hx28, ?_⟩
 refine cy hm (a6d e27 c1_0) fun x29 hm=> ?_
 apply vb hm<;>intro _ hm
 cases hm
 cases hi25
 have hm:=hk23
 exact hm.rr
 cases hm
 exact⟨(_,(W (v7+1))),c5.of 0 rfl (tA rfl) trivial,hi25,Nat.lt_succ_self _⟩
 cases hm
 cases hi25
 have hm:=hk23
 exact hm.rr
def y3 (s:(List b6)) (c1_0:b6):Option Bool:=
 Option.bind (A9 s c1_0) fun x1=>
 some (decide (x1≥0))
theorem K0 (s:(List b6)) (c1_0:b6) (r:Bool) (hm:y3 s c1_0=some r):d7 Tryz.prog 143 [lD 5 s b6.c, .fn 151 [] [.ptr (b6.c c1_0) 0]] (fun x=>x=DB r):=by
 refine zn Tryz.func143 rfl ?_
 refine cy hm (K6 s c1_0) fun x1 hm=> ?_
 exact hm.rr
def V4 (p:G7) (l:b6):Option Bool:=
 Option.bind (y3 p.Station.Now.Leases l) fun x1=>
 some x1
theorem a3N (p:G7) (l:b6) (r:Bool) (hm:V4 p l=some r):d7 Tryz.prog 92 [.ptr (G7.c p) 0, .agg (b6.c l)] (fun x=>x=DB r):=by
 refine zn Tryz.func92 rfl ?_
 refine co hm (K0 p.Station.Now.Leases l) fun x1 hm=> ?_
 exact hm.rr
def J6 (x:a6) (thing:Int) (to_:Int) (from_:Int) (until_:Int):Option (a6×Int):=
 Option.bind (O2 x) fun e=>
 match e with
 | .inl x8=>
  if(x8 !=0)=true then
   some ((⟨0,(⟨0, [], [], [], [], []⟩:b7),(⟨0, [], [], [], [], []⟩:b7)⟩:a6),x8)
  else
   Option.bind (w6 thing) fun x32=>
   if(!x32)=true then
    some ((⟨0,(⟨0, [], [], [], [], []⟩:b7),(⟨0, [], [], [], [], []⟩:b7)⟩:a6),1)
   else
    Option.bind (u2 to_) fun x35=>
    if(!x35)=true then
     some ((⟨0,(⟨0, [], [], [], [], []⟩:b7),(⟨0, [], [], [], [], []⟩:b7)⟩:a6),1)
    else
     Option.bind (d8 from_) fun x38=>
     if(!x38)=true then
      some ((⟨0,(⟨0, [], [], [], [], []⟩:b7),(⟨0, [], [], [], [], []⟩:b7)⟩:a6),95)
     else
      Option.bind (d8 until_) fun x41=>
      if(!x41)=true then
       some ((⟨0,(⟨0, [], [], [], [], []⟩:b7),(⟨0, [], [], [], [], []⟩:b7)⟩:a6),95)
      else
       none
 | .inr (v9,v10,v11,v12,v13,v14,v15,v16,v17,v18,x19,x20,x21)=>
  Option.bind (w6 thing) fun x44=>
  if(!x44)=true then
   some ((⟨0,(⟨0, [], [], [], [], []⟩:b7),(⟨0, [], [], [], [], []⟩:b7)⟩:a6),1)
  else
   Option.bind (u2 to_) fun x47=>
   if(!x47)=true then
    some ((⟨0,(⟨0, [], [], [], [], []⟩:b7),(⟨0, [], [], [], [], []⟩:b7)⟩:a6),1)
   else
    Option.bind (d8 from_) fun x50=>
    if(!x50)=true then
     some ((⟨0,(⟨0, [], [], [], [], []⟩:b7),(⟨0, [], [], [], [], []⟩:b7)⟩:a6),95)
    else
     Option.bind (d8 until_) fun x53=>
     if(!x53)=true then
      some ((⟨0,(⟨0, [], [], [], [], []⟩:b7),(⟨0, [], [], [], [], []⟩:b7)⟩:a6),95)
     else
      Option.bind (d6 thing) fun x56=>
      if(x56 !=x19)=true then
       some ((⟨0,(⟨0, [], [], [], [], []⟩:b7),(⟨0, [], [], [], [], []⟩:b7)⟩:a6),92)
      else
       if(to_==x19)=true then
        some ((⟨0,(⟨0, [], [], [], [], []⟩:b7),(⟨0, [], [], [], [], []⟩:b7)⟩:a6),1)
       else
        if(decide (from_>until_))=true then
         some ((⟨0,(⟨0, [], [], [], [], []⟩:b7),(⟨0, [], [], [], [], []⟩:b7)⟩:a6),95)
        else
         Option.bind (V4 (⟨(⟨x19,(⟨x20,v9,v10,v11,v12,v13⟩:b7),(⟨x21,v14,v15,v16,v17,v18⟩:b7)⟩:a6)⟩:G7) (⟨(W ((v12.length:Int)+1)),thing,to_,from_,until_⟩:b6)) fun x61=>
         if x61=true then
          some ((⟨0,(⟨0, [], [], [], [], []⟩:b7),(⟨0, [], [], [], [], []⟩:b7)⟩:a6),93)
         else
          if((v12.length:Int)==40)=true then
           some ((⟨0,(⟨0, [], [], [], [], []⟩:b7),(⟨0, [], [], [], [], []⟩:b7)⟩:a6),2)
          else
           gd ((v12.length+([(⟨(W ((v12.length:Int)+1)),thing,to_,from_,until_⟩:b6)]:List b6).length)*40≤140737488355328∧v12.length+([(⟨(W ((v12.length:Int)+1)),thing,to_,from_,until_⟩:b6)]:List b6).length≤9223372036854775807)<|
           some ((⟨x19,(⟨x20,v9,v10,v11,(v12++([(⟨(W ((v12.length:Int)+1)),thing,to_,from_,until_⟩:b6)]:List b6)),v13⟩:b7),(⟨x21,v14,v15,v16,v17,v18⟩:b7)⟩:a6),0)
theorem a0z (x:a6) (thing:Int) (to_:Int) (from_:Int) (until_:Int) (r:(a6×Int)) (hm:J6 x thing to_ from_ until_=some r):d7 Tryz.prog 33 [.agg (a6.c x),DI thing,DI to_,DI from_,DI until_] (fun x=>x= .tup [.agg (a6.c r.1),DI r.2]):=by
 refine zy c5N [99,106,149,210,211,220] [62] [61] Tryz.func33 rfl ?_
 obtain⟨ev29,he30,hm⟩:=b5 hm
 refine K1.ofZ pok ⟨[(0, .agg (a6.c x)),(1000000, .agg (a6.c x)),(1000001,DI thing),(1000002,DI to_),(1000003,DI from_),(1000004,DI until_),(1000005, .own 0 0),(1000010, .own 1 0),(1000011,DI 0)], [(0, .blk (a6.c x) 30),(1, .blk [DI 0,DI 0,nS,nS,nS,nS,nS,DI 0,nS,nS,nS,nS,nS] 30)],2⟩ (match ev29 with| .inl x8=>(⟨[(0, .agg (a6.c x)),(1,DI thing),(2,DI to_),(3,DI from_),(4,DI until_),(5, .own 0 0),(10, .own 1 0),(11,DI 0),(17, .tup [.v (.pointer none),DI x8])], [(0, .blk (a6.c x) 30),(1, .blk [DI 0,DI 0,nS,nS,nS,nS,nS,DI 0,nS,nS,nS,nS,nS] 30)],2⟩:Sy)| .inr (v9,v10,v11,v12,v13,v14,v15,v16,v17,v18,x19,x20,x21)=>(⟨[(0, .agg (a6.c x)),(1,DI thing),(2,DI to_),(3,DI from_),(4,DI until_),(5, .own 0 0),(10, .own 1 0),(11,DI 0),(17, .tup [.own 13 0,DI 0])], [(0, .blk (a6.c x) 30),(1, .blk [DI 0,DI 0,nS,nS,nS,nS,nS,DI 0,nS,nS,nS,nS,nS] 30),(3,rE 4 v9 a8.c 110),(4,rE 6 v10 b9.c 108),(5,rE 4 v11 a7.c 149),(6,rE 5 v12 b6.c 112),(7,rE 6 v13 b4.c 114),(8,rE 4 v14 a8.c 110),(9,rE 6 v15 b9.c 108),(10,rE 4 v16 a7.c 149),(11,rE 5 v17 b6.c 112),(12,rE 6 v18 b4.c 114),(13, .blk [DI x19,DI x20, .row 3 4, .row 4 6, .row 5 4, .row 6 5, .row 7 6,DI x21, .row 8 4, .row 9 6, .row 10 4, .row 11 5, .row 12 6] 102)],14⟩:Sy):Sy) b8Q [99,106,149,210,211,220] [62] [61] Tryz.func61 rfl rfl rfl (c5.of 2 rfl (tA rfl) ⟨hR rfl,hR rfl,trivial⟩) (fun sv=> ?_) ?_
 have hm:=he30
 refine cy hm (U2 x) fun x65 hm=> ?_
 apply vb hm<;>intro _ hm
 cases hm
 exact c5.of 2 rfl (tA rfl) ⟨hR rfl,hR rfl,trivial⟩
 refine⟨rfl, ?_⟩
 obtain⟨x68,hx69,hm⟩:=b5 hm
 refine .inr (a3F.mk ⟨_,_,J1 x.Now _ hx69, ?_⟩)
 obtain⟨x70,hx71,hm⟩:=b5 hm
 refine .inr (a3F.mk ⟨_,_,J1 x.Safe _ hx71, ?_⟩)
 cases hm
 exact c5.of 14 rfl (tA rfl) ⟨hR rfl,hR rfl,hW rfl,hW rfl,hW rfl,hW rfl,hW rfl,hW rfl,hW rfl,hW rfl,hW rfl,hW rfl,hR rfl,trivial⟩
 rcases ev29 with x8|⟨v9,v10,v11,v12,v13,v14,v15,v16,v17,v18,x19,x20,x21⟩
 apply vb hm<;>intro _ hm
 cases hm
 exact d0.le (⟨_,rfl,⟨⟨_,rfl,⟨leD.refl _,leD.refl _,leD.nil,leD.nil,leD.nil,leD.nil,leD.nil,leD.refl _,leD.nil,leD.nil,leD.nil,leD.nil,leD.nil,trivial⟩⟩,leD.refl _,trivial⟩⟩)
 refine cy hm (H4 thing) fun x32 hm=> ?_
 apply vb hm<;>intro _ hm
 cases hm
 exact d0.le (⟨_,rfl,⟨⟨_,rfl,⟨leD.refl _,leD.refl _,leD.nil,leD.nil,leD.nil,leD.nil,leD.nil,leD.refl _,leD.nil,leD.nil,leD.nil,leD.nil,leD.nil,trivial⟩⟩,leD.refl _,trivial⟩⟩)
 refine cy hm (w7 to_) fun x35 hm=> ?_
 apply vb hm<;>intro _ hm
 cases hm
 exact d0.le (⟨_,rfl,⟨⟨_,rfl,⟨leD.refl _,leD.refl _,leD.nil,leD.nil,leD.nil,leD.nil,leD.nil,leD.refl _,leD.nil,leD.nil,leD.nil,leD.nil,leD.nil,trivial⟩⟩,leD.refl _,trivial⟩⟩)
 refine cy hm (k9 from_) fun x38 hm=> ?_
 apply vb hm<;>intro _ hm
 cases hm
 exact d0.le (⟨_,rfl,⟨⟨_,rfl,⟨leD.refl _,leD.refl _,leD.nil,leD.nil,leD.nil,leD.nil,leD.nil,leD.refl _,leD.nil,leD.nil,leD.nil,leD.nil,leD.nil,trivial⟩⟩,leD.refl _,trivial⟩⟩)
 refine cy hm (k9 until_) fun x41 hm=> ?_
 apply vb hm<;>intro _ hm
 cases hm
 exact d0.le (⟨_,rfl,⟨⟨_,rfl,⟨leD.refl _,leD.refl _,leD.nil,leD.nil,leD.nil,leD.nil,leD.nil,leD.refl _,leD.nil,leD.nil,leD.nil,leD.nil,leD.nil,trivial⟩⟩,leD.refl _,trivial⟩⟩)
 refine⟨rfl, ?_⟩
 cases hm
 refine cy hm (H4 thing) fun x44 hm=> ?_
 apply vb hm<;>intro _ hm
 cases hm
 exact d0.le (⟨_,rfl,⟨⟨_,rfl,⟨leD.refl _,leD.refl _,leD.nil,leD.nil,leD.nil,leD.nil,leD.nil,leD.refl _,leD.nil,leD.nil,leD.nil,leD.nil,leD.nil,trivial⟩⟩,leD.refl _,trivial⟩⟩)
 refine cy hm (w7 to_) fun x47 hm=> ?_
 apply vb hm<;>intro _ hm
 cases hm
 exact d0.le (⟨_,rfl,⟨⟨_,rfl,⟨leD.refl _,leD.refl _,leD.nil,leD.nil,leD.nil,leD.nil,leD.nil,leD.refl _,leD.nil,leD.nil,leD.nil,leD.nil,leD.nil,trivial⟩⟩,leD.refl _,trivial⟩⟩)
 refine cy hm (k9 from_) fun x50 hm=> ?_
 apply vb hm<;>intro _ hm
 cases hm
 exact d0.le (⟨_,rfl,⟨⟨_,rfl,⟨leD.refl _,leD.refl _,leD.nil,leD.nil,leD.nil,leD.nil,leD.nil,leD.refl _,leD.nil,leD.nil,leD.nil,leD.nil,leD.nil,trivial⟩⟩,leD.refl _,trivial⟩⟩)
 refine cy hm (k9 until_) fun x53 hm=> ?_
 apply vb hm<;>intro _ hm
 cases hm
 exact d0.le (⟨_,rfl,⟨⟨_,rfl,⟨leD.refl _,leD.refl _,leD.nil,leD.nil,leD.nil,leD.nil,leD.nil,leD.refl _,leD.nil,leD.nil,leD.nil,leD.nil,leD.nil,trivial⟩⟩,leD.refl _,trivial⟩⟩)
 refine⟨rfl, ?_⟩
 refine cy hm (j2 thing) fun x56 hm=> ?_
 apply vb hm<;>intro _ hm
 cases hm
 exact d0.le (⟨_,rfl,⟨⟨_,rfl,⟨leD.refl _,leD.refl _,leD.nil,leD.nil,leD.nil,leD.nil,leD.nil,leD.refl _,leD.nil,leD.nil,leD.nil,leD.nil,leD.nil,trivial⟩⟩,leD.refl _,trivial⟩⟩)
 apply vb hm<;>intro _ hm
 cases hm
 exact d0.le (⟨_,rfl,⟨⟨_,rfl,⟨leD.refl _,leD.refl _,leD.nil,leD.nil,leD.nil,leD.nil,leD.nil,leD.refl _,leD.nil,leD.nil,leD.nil,leD.nil,leD.nil,trivial⟩⟩,leD.refl _,trivial⟩⟩)
 apply vb hm<;>intro _ hm
 cases hm
 exact d0.le (⟨_,rfl,⟨⟨_,rfl,⟨leD.refl _,leD.refl _,leD.nil,leD.nil,leD.nil,leD.nil,leD.nil,leD.refl _,leD.nil,leD.nil,leD.nil,leD.nil,leD.nil,trivial⟩⟩,leD.refl _,trivial⟩⟩)
 refine co hm (a3N ((⟨(⟨x19,(⟨x20,v9,v10,v11,v12,v13⟩:b7),(⟨x21,v14,v15,v16,v17,v18⟩:b7)⟩:a6)⟩:G7)) ((⟨(W ((v12.length:Int)+1)),thing,to_,from_,until_⟩:b6))) fun x61 hm=> ?_
 apply vb hm<;>intro _ hm
 cases hm
 exact d0.le (⟨_,rfl,⟨⟨_,rfl,⟨leD.refl _,leD.refl _,leD.nil,leD.nil,leD.nil,leD.nil,leD.nil,leD.refl _,leD.nil,leD.nil,leD.nil,leD.nil,leD.nil,trivial⟩⟩,leD.refl _,trivial⟩⟩)
 apply vb hm<;>intro _ hm
 cases hm
 exact d0.le (⟨_,rfl,⟨⟨_,rfl,⟨leD.refl _,leD.refl _,leD.nil,leD.nil,leD.nil,leD.nil,leD.nil,leD.refl _,leD.nil,leD.nil,leD.nil,leD.nil,leD.nil,trivial⟩⟩,leD.refl _,trivial⟩⟩)
 refine⟨rfl, ?_⟩
 refine⟨([(⟨(W ((v12.length:Int)+1)),thing,to_,from_,until_⟩:b6)]:List b6).flatMap b6.c,([(⟨(W ((v12.length:Int)+1)),thing,to_,from_,until_⟩:b6)]:List b6).length,⟨rfl,rfl⟩, ?_⟩
 obtain⟨hg,hm⟩:=c6 hm
 refine⟨hg,_,_,c9 (c:=b6.c) (l:=(v12:List b6)) (r:=(([(⟨(W ((v12.length:Int)+1)),thing,to_,from_,until_⟩:b6)]:List b6):List b6)), ?_⟩
 cases hm
 exact d0.le (leD.refl _)
def a4y (c:b8):Option (b8×Bool):=
 if(c.Kind==1)=true then
  if(c.Kind==2)=true then
   if(c.Kind !=1)=true then
    some ((⟨c.Kind,c.From,c.To,c.Night,c.Ballot,c.Best,c.Value,0,0,0,0⟩:b8),true)
   else
    some ((⟨c.Kind,c.From,c.To,c.Night,c.Ballot,c.Best,0,0,0,0,0⟩:b8),true)
  else
   if(c.Kind !=1)=true then
    some ((⟨c.Kind,c.From,c.To,c.Night,c.Ballot,0,c.Value,0,0,0,0⟩:b8),true)
   else
    some ((⟨c.Kind,c.From,c.To,c.Night,c.Ballot,0,0,0,0,0,0⟩:b8),true)
 else
  if(c.Kind==2)=true then
   if(c.Kind !=1)=true then
    some ((⟨c.Kind,c.From,c.To,c.Night,c.Ballot,c.Best,c.Value,0,0,0,0⟩:b8),true)
   else
    some ((⟨c.Kind,c.From,c.To,c.Night,c.Ballot,c.Best,0,0,0,0,0⟩:b8),true)
  else
   if(c.Kind==3)=true then
    if(c.Kind !=1)=true then
     some ((⟨c.Kind,c.From,c.To,c.Night,c.Ballot,0,c.Value,0,0,0,0⟩:b8),true)
    else
     some ((⟨c.Kind,c.From,c.To,c.Night,c.Ballot,0,0,0,0,0,0⟩:b8),true)
   else
    if(c.Kind==4)=true then
     if(c.Kind !=1)=true then
      some ((⟨c.Kind,c.From,c.To,c.Night,c.Ballot,0,c.Value,0,0,0,0⟩:b8),true)
     else
      some ((⟨c.Kind,c.From,c.To,c.Night,c.Ballot,0,0,0,0,0,0⟩:b8),true)
    else
     if(c.Kind==5)=true then
      some ((⟨c.Kind,c.From,c.To,0,0,0,0,c.No,c.Thing,c.Start,c.Until⟩:b8),true)
     else
      if(c.Kind==6)=true then
       some ((⟨c.Kind,c.From,c.To,0,0,0,0,c.No,c.Thing,0,c.Until⟩:b8),true)
      else
       some ((⟨c.Kind,c.From,c.To,0,0,0,0,0,0,0,0⟩:b8),false)
theorem b2L (c:b8) (r:(b8×Bool)) (hm:a4y c=some r):d7 Tryz.prog 147 [.agg (b8.c c)] (fun x=>x= .tup [.agg (b8.c r.1),DB r.2]):=by
 refine zy c4W [] [] [] Tryz.func147 rfl ?_
 apply vb hm<;>intro h1 hm
 refine VIf.t h1 ?_
 refine⟨rfl, ?_⟩
 apply vb hm<;>intro _ hm
 apply vb hm<;>intro _ hm
 cases hm
 exact d0.le (leD.refl _)
 cases hm
 exact d0.le (leD.refl _)
 apply vb hm<;>intro _ hm
 cases hm
 exact d0.le (leD.refl _)
 cases hm
 exact d0.le (leD.refl _)
 apply vb hm<;>intro h5 hm
 refine VIf.t h5 ?_
 refine⟨rfl, ?_⟩
 refine VIf.t h5 ?_
 apply vb hm<;>intro _ hm
 cases hm
 exact d0.le (leD.refl _)
 cases hm
 exact d0.le (leD.refl _)
 apply vb hm<;>intro h7 hm
 refine VIf.t h7 ?_
 refine⟨rfl, ?_⟩
 refine VIf.f h5 ?_
 apply vb hm<;>intro _ hm
 cases hm
 exact d0.le (leD.refl _)
 cases hm
 exact d0.le (leD.refl _)
 apply vb hm<;>intro _ hm
 refine⟨rfl, ?_⟩
 refine VIf.f h5 ?_
 apply vb hm<;>intro _ hm
 cases hm
 exact d0.le (leD.refl _)
 cases hm
 exact d0.le (leD.refl _)
 apply vb hm<;>intro _ hm
 refine⟨rfl, ?_⟩
 cases hm
 exact d0.le (leD.refl _)
 apply vb hm<;>intro _ hm
 refine⟨rfl, ?_⟩
 cases hm
 exact d0.le (leD.refl _)
 cases hm
 exact d0.le (leD.refl _)
def X6 (c:b8):Option Bool:=
 Option.bind (a4y c) fun⟨x1,x2⟩=>
 if(!x2)=true then
  some false
 else
  if(!((c.Kind==x1.Kind)&&((c.From==x1.From)&&((c.To==x1.To)&&((c.Night==x1.Night)&&((c.Ballot==x1.Ballot)&&((c.Best==x1.Best)&&((c.Value==x1.Value)&&((c.No==x1.No)&&((c.Thing==x1.Thing)&&((c.Start==x1.Start)&&(c.Until==x1.Until))))))))))))=true then
   some false
  else
   Option.bind (u2 c.From) fun x6=>
   if(!x6)=true then
    some false
   else
    Option.bind (u2 c.To) fun x9=>
    if(!x9)=true then
     some false
    else
     if(c.From !=c.To)=true then
      Option.bind (i6 c.No 1 40) fun x13=>
      if x13=true then
       Option.bind (w6 c.Thing) fun x16=>
       Option.bind (u0 c.Night) fun x18=>
       if x18=true then
        Option.bind (w9 c.Ballot) fun x21=>
        if(c.Kind==1)=true then
         if x21=true then
          Option.bind (d6 c.Ballot) fun x25=>
          some (x25==c.From)
         else
          some false
        else
         if(c.Kind==2)=true then
          if x21=true then
           Option.bind (d6 c.Ballot) fun x29=>
           if(x29==c.To)=true then
            if(c.Best==0)=true then
             if(c.Value==0)=true then
              some true
             else
              Option.bind (i6 c.Best 6 (W (c.Ballot-1))) fun x34=>
              if x34=true then
               Option.bind (j1 c.Value) fun x37=>
               some x37
              else
               some false
            else
             Option.bind (i6 c.Best 6 (W (c.Ballot-1))) fun x39=>
             if x39=true then
              Option.bind (j1 c.Value) fun x42=>
              some x42
             else
              some false
           else
            some false
          else
           some false
         else
          if(c.Kind==3)=true then
           if x21=true then
            Option.bind (d6 c.Ballot) fun x46=>
            if(x46==c.From)=true then
             Option.bind (j1 c.Value) fun x49=>
             some x49
            else
             some false
           else
            some false
          else
           if(c.Kind==4)=true then
            if x21=true then
             Option.bind (j1 c.Value) fun x53=>
             some x53
            else
             some false
           else
            if(c.Kind==5)=true then
             if x16=true then
              Option.bind (d6 c.Thing) fun x57=>
              if(x57==c.From)=true then
               Option.bind (P9 c.Start c.Until) fun x60=>
               some x60
              else
               some false
             else
              some false
            else
             if x16=true then
              Option.bind (d6 c.Thing) fun x63=>
              if(x63==c.To)=true then
               Option.bind (d8 c.Until) fun x66=>
               some x66
              else
               some false
             else
              some false
       else
        if(c.Kind==1)=true then
         some false
        else
         if(c.Kind==2)=true then
          some false
         else
          if(c.Kind==3)=true then
           some false
          else
           if(c.Kind==4)=true then
            some false
           else
            if(c.Kind==5)=true then
             if x16=true then
              Option.bind (d6 c.Thing) fun x74=>
              if(x74==c.From)=true then
               Option.bind (P9 c.Start c.Until) fun x77=>
               some x77
              else
               some false
             else
              some false
            else
             if x16=true then
              Option.bind (d6 c.Thing) fun x80=>
              if(x80==c.To)=true then
               Option.bind (d8 c.Until) fun x83=>
               some x83
              else
               some false
             else
              some false
      else
       Option.bind (u0 c.Night) fun x85=>
       if x85=true then
        Option.bind (w9 c.Ballot) fun x88=>
        if(c.Kind==1)=true then
         if x88=true then
          Option.bind (d6 c.Ballot) fun x92=>
          some (x92==c.From)
         else
          some false
        else
         if(c.Kind==2)=true then
          if x88=true then
           Option.bind (d6 c.Ballot) fun x96=>
           if(x96==c.To)=true then
            if(c.Best==0)=true then
             if(c.Value==0)=true then
              some true
             else
              Option.bind (i6 c.Best 6 (W (c.Ballot-1))) fun x101=>
              if x101=true then
               Option.bind (j1 c.Value) fun x104=>
               some x104
              else
               some false
            else
             Option.bind (i6 c.Best 6 (W (c.Ballot-1))) fun x106=>
             if x106=true then
              Option.bind (j1 c.Value) fun x109=>
              some x109
             else
              some false
           else
            some false
          else
           some false
         else
          if(c.Kind==3)=true then
           if x88=true then
            Option.bind (d6 c.Ballot) fun x113=>
            if(x113==c.From)=true then
             Option.bind (j1 c.Value) fun x116=>
             some x116
            else
             some false
           else
            some false
          else
           if(c.Kind==4)=true then
            if x88=true then
             Option.bind (j1 c.Value) fun x120=>
             some x120
            else
             some false
           else
            if(c.Kind==5)=true then
             some false
            else
             some false
       else
        if(c.Kind==1)=true then
         some false
        else
         if(c.Kind==2)=true then
          some false
         else
          if(c.Kind==3)=true then
           some false
          else
           if(c.Kind==4)=true then
            some false
           else
            if(c.Kind==5)=true then
             some false
            else
             some false
     else
      Option.bind (u0 c.Night) fun x128=>
      if x128=true then
       Option.bind (w9 c.Ballot) fun x131=>
       if(c.Kind==1)=true then
        if x131=true then
         Option.bind (d6 c.Ballot) fun x135=>
         some (x135==c.From)
        else
         some false
       else
        if(c.Kind==2)=true then
         if x131=true then
          Option.bind (d6 c.Ballot) fun x139=>
          if(x139==c.To)=true then
           if(c.Best==0)=true then
            if(c.Value==0)=true then
             some true
            else
             Option.bind (i6 c.Best 6 (W (c.Ballot-1))) fun x144=>
             if x144=true then
              Option.bind (j1 c.Value) fun x147=>
              some x147
             else
              some false
           else
            Option.bind (i6 c.Best 6 (W (c.Ballot-1))) fun x149=>
            if x149=true then
             Option.bind (j1 c.Value) fun x152=>
             some x152
            else
             some false
          else
           some false
         else
          some false
        else
         if(c.Kind==3)=true then
          if x131=true then
           Option.bind (d6 c.Ballot) fun x156=>
           if(x156==c.From)=true then
            Option.bind (j1 c.Value) fun x159=>
            some x159
           else
            some false
          else
           some false
         else
          if(c.Kind==4)=true then
           if x131=true then
            Option.bind (j1 c.Value) fun x163=>
            some x163
           else
            some false
          else
           if(c.Kind==5)=true then
            some false
           else
            some false
      else
       if(c.Kind==1)=true then
        some false
       else
        if(c.Kind==2)=true then
         some false
        else
         if(c.Kind==3)=true then
          some false
         else
          if(c.Kind==4)=true then
           some false
          else
           if(c.Kind==5)=true then
            some false
           else
            some false
theorem a5T (c:b8) (r:Bool) (hm:X6 c=some r):d7 Tryz.prog 80 [.agg (b8.c c)] (fun x=>x=DB r):=by
 refine zy c6h [] [] [] Tryz.func80 rfl ?_
 refine cy hm (b2L c) ?_
 rintro⟨x1,x2⟩ hm
 apply vb hm<;>intro _ hm
 exact hm.rr
 apply vb hm<;>intro _ hm
 exact hm.rr
 refine cy hm (w7 c.From) fun x6 hm=> ?_
 apply vb hm<;>intro _ hm
 exact hm.rr
 refine cy hm (w7 c.To) fun x9 hm=> ?_
 apply vb hm<;>intro _ hm
 exact hm.rr
 apply vb hm<;>intro _ hm
 refine cy hm (j9 c.No 1 40) fun x13 hm=> ?_
 apply vb hm<;>intro _ hm
 refine cy hm (H4 c.Thing) fun x16 hm=> ?_
 refine cy hm (w5 c.Night) fun x18 hm=> ?_
 apply vb hm<;>intro _ hm
 refine cy hm (F1 c.Ballot) fun x21 hm=> ?_
 apply vb hm<;>intro _ hm
 refine⟨rfl, ?_⟩
 apply vb hm<;>intro _ hm
 refine cy hm (j2 c.Ballot) fun x25 hm=> ?_
 exact hm.rr
 exact hm.rr
 apply vb hm<;>intro _ hm
 refine⟨rfl, ?_⟩
 apply vb hm<;>intro _ hm
 refine cy hm (j2 c.Ballot) fun x29 hm=> ?_
 apply vb hm<;>intro _ hm
 apply vb hm<;>intro _ hm
 apply vb hm<;>intro _ hm
 exact hm.rr
 refine cy hm (j9 c.Best 6 (W (c.Ballot-1))) fun x34 hm=> ?_
 apply vb hm<;>intro _ hm
 refine cy hm (l7 c.Value) fun x37 hm=> ?_
 exact hm.rr
 exact hm.rr
 refine cy hm (j9 c.Best 6 (W (c.Ballot-1))) fun x39 hm=> ?_
 apply vb hm<;>intro _ hm
 refine cy hm (l7 c.Value) fun x42 hm=> ?_
 exact hm.rr
 exact hm.rr
 exact hm.rr
 exact hm.rr
 apply vb hm<;>intro _ hm
 refine⟨rfl, ?_⟩
 apply vb hm<;>intro _ hm
 refine cy hm (j2 c.Ballot) fun x46 hm=> ?_
 apply vb hm<;>intro _ hm
 refine cy hm (l7 c.Value) fun x49 hm=> ?_
 exact hm.rr
 exact hm.rr
 exact hm.rr
 apply vb hm<;>intro _ hm
 apply vb hm<;>intro _ hm
 refine cy hm (l7 c.Value) fun x53 hm=> ?_
 exact hm.rr
 exact hm.rr
 apply vb hm<;>intro _ hm
 refine⟨rfl, ?_⟩
 apply vb hm<;>intro _ hm
 refine cy hm (j2 c.Thing) fun x57 hm=> ?_
 apply vb hm<;>intro _ hm
 refine cy hm (a0M c.Start c.Until) fun x60 hm=> ?_
 exact hm.rr
 exact hm.rr
 exact hm.rr
 refine⟨rfl, ?_⟩
 apply vb hm<;>intro _ hm
 refine cy hm (j2 c.Thing) fun x63 hm=> ?_
 apply vb hm<;>intro _ hm
 refine cy hm (k9 c.Until) fun x66 hm=> ?_
 exact hm.rr
 exact hm.rr
 exact hm.rr
 apply vb hm<;>intro _ hm
 refine⟨rfl, ?_⟩
 exact hm.rr
 apply vb hm<;>intro _ hm
 refine⟨rfl, ?_⟩
 exact hm.rr
 apply vb hm<;>intro _ hm
 refine⟨rfl, ?_⟩
 exact hm.rr
 apply vb hm<;>intro _ hm
 exact hm.rr
 apply vb hm<;>intro _ hm
 refine⟨rfl, ?_⟩
 apply vb hm<;>intro _ hm
 refine cy hm (j2 c.Thing) fun x74 hm=> ?_
 apply vb hm<;>intro _ hm
 refine cy hm (a0M c.Start c.Until) fun x77 hm=> ?_
 exact hm.rr
 exact hm.rr
 exact hm.rr
 refine⟨rfl, ?_⟩
 apply vb hm<;>intro _ hm
 refine cy hm (j2 c.Thing) fun x80 hm=> ?_
 apply vb hm<;>intro _ hm
 refine cy hm (k9 c.Until) fun x83 hm=> ?_
 exact hm.rr
 exact hm.rr
 exact hm.rr
 refine cy hm (w5 c.Night) fun x85 hm=> ?_
 apply vb hm<;>intro _ hm
 refine cy hm (F1 c.Ballot) fun x88 hm=> ?_
 apply vb hm<;>intro _ hm
 refine⟨rfl, ?_⟩
 apply vb hm<;>intro _ hm
 refine cy hm (j2 c.Ballot) fun x92 hm=> ?_
 exact hm.rr
 exact hm.rr
 apply vb hm<;>intro _ hm
 refine⟨rfl, ?_⟩
 apply vb hm<;>intro _ hm
 refine cy hm (j2 c.Ballot) fun x96 hm=> ?_
 apply vb hm<;>intro _ hm
 apply vb hm<;>intro _ hm
 apply vb hm<;>intro _ hm
 exact hm.rr
 refine cy hm (j9 c.Best 6 (W (c.Ballot-1))) fun x101 hm=> ?_
 apply vb hm<;>intro _ hm
 refine cy hm (l7 c.Value) fun x104 hm=> ?_
 exact hm.rr
 exact hm.rr
 refine cy hm (j9 c.Best 6 (W (c.Ballot-1))) fun x106 hm=> ?_
 apply vb hm<;>intro _ hm
 refine cy hm (l7 c.Value) fun x109 hm=> ?_
 exact hm.rr
 exact hm.rr
 exact hm.rr
 exact hm.rr
 apply vb hm<;>intro _ hm
 refine⟨rfl, ?_⟩
 apply vb hm<;>intro _ hm
 refine cy hm (j2 c.Ballot) fun x113 hm=> ?_
 apply vb hm<;>intro _ hm
 refine cy hm (l7 c.Value) fun x116 hm=> ?_
 exact hm.rr
 exact hm.rr
 exact hm.rr
 apply vb hm<;>intro _ hm
 apply vb hm<;>intro _ hm
 refine cy hm (l7 c.Value) fun x120 hm=> ?_
 exact hm.rr
 exact hm.rr
 apply vb hm<;>intro _ hm
 refine⟨rfl, ?_⟩
 exact hm.rr
 refine⟨rfl, ?_⟩
 exact hm.rr
 apply vb hm<;>intro _ hm
 refine⟨rfl, ?_⟩
 exact hm.rr
 apply vb hm<;>intro _ hm
 refine⟨rfl, ?_⟩
 exact hm.rr
 apply vb hm<;>intro _ hm
 refine⟨rfl, ?_⟩
 exact hm.rr
 apply vb hm<;>intro _ hm
 exact hm.rr
 apply vb hm<;>intro _ hm
 refine⟨rfl, ?_⟩
 exact hm.rr
 refine⟨rfl, ?_⟩
 exact hm.rr
 refine cy hm (w5 c.Night) fun x128 hm=> ?_
 apply vb hm<;>intro _ hm
 refine cy hm (F1 c.Ballot) fun x131 hm=> ?_
 apply vb hm<;>intro _ hm
 refine⟨rfl, ?_⟩
 apply vb hm<;>intro _ hm
 refine cy hm (j2 c.Ballot) fun x135 hm=> ?_
 exact hm.rr
 exact hm.rr
 apply vb hm<;>intro _ hm
 refine⟨rfl, ?_⟩
 apply vb hm<;>intro _ hm
 refine cy hm (j2 c.Ballot) fun x139 hm=> ?_
 apply vb hm<;>intro _ hm
 apply vb hm<;>intro _ hm
 apply vb hm<;>intro _ hm
 exact hm.rr
 refine cy hm (j9 c.Best 6 (W (c.Ballot-1))) fun x144 hm=> ?_
 apply vb hm<;>intro _ hm
 refine cy hm (l7 c.Value) fun x147 hm=> ?_
 exact hm.rr
 exact hm.rr
 refine cy hm (j9 c.Best 6 (W (c.Ballot-1))) fun x149 hm=> ?_
 apply vb hm<;>intro _ hm
 refine cy hm (l7 c.Value) fun x152 hm=> ?_
 exact hm.rr
 exact hm.rr
 exact hm.rr
 exact hm.rr
 apply vb hm<;>intro _ hm
 refine⟨rfl, ?_⟩
 apply vb hm<;>intro _ hm
 refine cy hm (j2 c.Ballot) fun x156 hm=> ?_
 apply vb hm<;>intro _ hm
 refine cy hm (l7 c.Value) fun x159 hm=> ?_
 exact hm.rr
 exact hm.rr
 exact hm.rr
 apply vb hm<;>intro _ hm
 apply vb hm<;>intro _ hm
 refine cy hm (l7 c.Value) fun x163 hm=> ?_
 exact hm.rr
 exact hm.rr
 apply vb hm<;>intro _ hm
 refine⟨rfl, ?_⟩
 exact hm.rr
 refine⟨rfl, ?_⟩
 exact hm.rr
 apply vb hm<;>intro _ hm
 refine⟨rfl, ?_⟩
 exact hm.rr
 apply vb hm<;>intro _ hm
 refine⟨rfl, ?_⟩
 exact hm.rr
 apply vb hm<;>intro _ hm
 refine⟨rfl, ?_⟩
 exact hm.rr
 apply vb hm<;>intro _ hm
 exact hm.rr
 apply vb hm<;>intro _ hm
 refine⟨rfl, ?_⟩
 exact hm.rr
 refine⟨rfl, ?_⟩
 exact hm.rr
def J4 (s:(List a8)) (i:Int) (v:(List a8)):Option (List a8):=
 gd (0≤i∧i.toNat≤s.length)<|
 if((v.length:Int)==0)=true then
  some s
 else
  if(i==(s.length:Int))=true then
   gd ((s.length+v.length)*32≤140737488355328∧s.length+v.length≤9223372036854775807)<|
   some (s++v)
  else
   gd (0≤i∧i.toNat<s.length∧0<v.length∧(s.length+v.length)*32≤140737488355328∧s.length+v.length≤9223372036854775807) (some (s.take i.toNat++v++s.drop i.toNat))
theorem P6 (s:(List a8)) (i:Int) (v:(List a8)) (r:(List a8)) (hm:J4 s i v=some r):b2C Tryz.prog 220 4 s.length (s.flatMap a8.c) 110 [DI i,lD 4 v a8.c] 4 r.length (r.flatMap a8.c):=by
 obtain⟨hg0,hm⟩:=c6 hm
 refine a7b (X:=⟨Tryz.prog,tt,Tryz.f220.ntmps, [], [], [], [], [], []⟩) (t:=22) (tI:=3) (tB:=4) (ov:=232) (ty:=110) (args:= [lD 4 v a8.c]) pok Tryz.func220 rfl rfl .mk .mk (Nat.le_of_ble_eq_true rfl) hg0 rfl rfl rfl rfl rfl rfl (by kernel_rfl) ⟨⟨_,4,Tryz.func232,by kernel_rfl,by kernel_rfl,by kernel_rfl,by kernel_rfl⟩⟩ (by decide) ?_
 apply vb hm<;>intro _ hm
 cases hm
 exact⟨rfl,rfl⟩
 apply vb hm<;>intro _ hm
 obtain⟨hg,hm⟩:=c6 hm
 refine⟨hg,_,_,c9 (c:=a8.c) (l:=(s:List a8)) (r:=(v:List a8)), ?_⟩
 cases hm
 exact⟨rfl,rfl⟩
 obtain⟨hg,hm⟩:=c6 hm
 cases hm
 exact b7O (fun _=>rfl) hg
def s6 (x:(List a8)) (target:a8):(Int×Int)→Option (Sum (Int×Int) (Int×Int)):=fun(i7,j8)=>
 if(decide (i7<j8))=true then
  Option.bind (idx x (W ((IntKind.u64.wrap (W (i7+j8))).fdiv (2^(min (1:Int).toNat IntKind.u64.bits))))) fun e16=>
  Option.bind (E2 e16 target) fun x18=>
  if(decide (x18<0))=true then
   some (.inl ((W ((W ((IntKind.u64.wrap (W (i7+j8))).fdiv (2^(min (1:Int).toNat IntKind.u64.bits))))+1)),j8))
  else
   some (.inl (i7,(W ((IntKind.u64.wrap (W (i7+j8))).fdiv (2^(min (1:Int).toNat IntKind.u64.bits))))))
 else
  some (.inr (i7,j8))
def j3 (x:(List a8)) (target:a8):Option (Int×Bool):=
 Option.bind (l8 (s6 x target) (0,(x.length:Int))) fun(i21,j22)=>
 if(decide (i21<(x.length:Int)))=true then
  Option.bind (idx x i21) fun e24=>
  Option.bind (E2 e24 target) fun x26=>
  some (i21,(x26==0))
 else
  some (i21,false)
theorem G6 (x:(List a8)) (target:a8) (r:(Int×Bool)) (hm:j3 x target=some r):d7 Tryz.prog 231 [lD 4 x a8.c, .agg (a8.c target), .fn 136 [] []] (fun x=>x= .tup [DI r.1,DB r.2]):=by
 refine zy c4a [] [] [] Tryz.func231 rfl ?_
 obtain⟨ev28,he,hk29⟩:=b5 hm
 refine u4.ofL (s6 x target) (fun(i7,j8)=>⟨[(0,lD 4 x a8.c),(1, .agg (a8.c target)),(2, .fn 136 [] []),(4, .own 0 0),(6,DI 0),(7,DB false),(8,DI (x.length:Int)),(9,DI i7),(10,DI j8)], [(0, .blk (a8.c target) 110)],1⟩) (0,(x.length:Int)) (c5.of 1 rfl (tA rfl) ⟨hR rfl,trivial⟩) he ?_
 rintro fu30 ⟨i7,j8⟩ b hm hi31
 apply vb hm<;>intro _ hm
 refine⟨by decide, ?_⟩
 refine⟨rfl, ?_⟩
 obtain⟨e33,hx34,hm⟩:=b5 hm
 refine⟨_,d9 (fun _=>rfl) hx34, ?_⟩
 refine cy hm (Y9 e33 target) fun x35 hm=> ?_
 apply vb hm<;>intro _ hm
 cases hm
 exact⟨(_,((W ((W ((IntKind.u64.wrap (W (i7+j8))).fdiv (2^(min (1:Int).toNat IntKind.u64.bits))))+1)),j8)),c5.of 1 rfl (tA rfl) ⟨hR rfl,trivial⟩,hi31,Nat.lt_succ_self _⟩
 cases hm
 exact⟨(_,(i7,(W ((IntKind.u64.wrap (W (i7+j8))).fdiv (2^(min (1:Int).toNat IntKind.u64.bits)))))),c5.of 1 rfl (tA rfl) ⟨hR rfl,trivial⟩,hi31,Nat.lt_succ_self _⟩
 cases hm
 cases hi31
 have hm:=hk29
 refine⟨rfl, ?_⟩
 apply vb hm<;>intro _ hm
 obtain⟨e39,hx40,hm⟩:=b5 hm
 refine⟨_,d9 (fun _=>rfl) hx40, ?_⟩
 refine cy hm (Y9 e39 target) fun x41 hm=> ?_
 cases hm
 exact d0.le (leD.refl _)
 cases hm
 exact d0.le (leD.refl _)
def u3 (l:(List a8)) (x:a8):Option (Int×Bool):=
 Option.bind (j3 l x) fun⟨x1,x2⟩=>
 some (x1,x2)
theorem I7 (l:(List a8)) (x:a8) (r:(Int×Bool)) (hm:u3 l x=some r):d7 Tryz.prog 219 [lD 4 l a8.c, .agg (a8.c x), .fn 136 [] []] (fun x=>x= .tup [DI r.1,DB r.2]):=by
 refine zn Tryz.func219 rfl ?_
 refine cy hm (G6 l x) ?_
 rintro⟨x1,x2⟩ hm
 cases hm
 exact d0.le (leD.refl _)
def R1 (m:Int) (depot:Int):Option Bool:=
 gd (0≤depot)<|
 some ((W ((BitVec.ofInt IntKind.i64.bits (m.fdiv (2^(min depot.toNat IntKind.i64.bits)))&&&BitVec.ofInt IntKind.i64.bits 1).toNat:Int))==1)
theorem a8x (m:Int) (depot:Int) (r:Bool) (hm:R1 m depot=some r):d7 Tryz.prog 186 [DI m,DI depot] (fun x=>x=DB r):=by
 refine zn Tryz.func186 rfl ?_
 obtain⟨hg,hm⟩:=c6 hm
 refine⟨hg, ?_⟩
 exact hm.rr
def K7 (m:Int) (depot:Int):Option Int:=
 gd (0≤depot)<|
 some (W ((BitVec.ofInt IntKind.i64.bits m|||BitVec.ofInt IntKind.i64.bits (W (1*(2^(min depot.toNat IntKind.i64.bits))))).toNat:Int))
theorem a3p (m:Int) (depot:Int) (r:Int) (hm:K7 m depot=some r):d7 Tryz.prog 187 [DI m,DI depot] (fun x=>x=DI r):=by
 refine zn Tryz.func187 rfl ?_
 obtain⟨hg,hm⟩:=c6 hm
 refine⟨hg, ?_⟩
 exact hm.rr
def S6 (b_:b9) (c_0:b8):Option Bool:=
 if(b_.Night==c_0.Night)=true then
  some (b_.Ballot==c_0.Ballot)
 else
  some false
theorem a4I (b_:b9) (c_0:b8) (r:Bool) (hm:S6 b_ c_0=some r):d7 Tryz.prog 185 [.agg (b9.c b_), .ptr (b8.c c_0) 0] (fun x=>x=DB r):=by
 refine zn Tryz.func185 rfl ?_
 apply vb hm<;>intro _ hm
 exact hm.rr
 exact hm.rr
def z6 (s:(List b9)) (c1_0:b8):Int→Option (Sum Int (Sum Int Int)):=fun v7=>
 if(decide (v7<(s.length:Int)))=true then
  Option.bind (idx s v7) fun e15=>
  Option.bind (S6 e15 c1_0) fun x17=>
  if x17=true then
   some (.inr (.inr v7))
  else
   some (.inl (W (v7+1)))
 else
  some (.inr (.inl v7))
def s8 (s:(List b9)) (c1_0:b8):Option Int:=
 Option.bind (l8 (z6 s c1_0) 0) fun e=>
 match e with
 | .inl v20=>
  some (-1)
 | .inr rr21=>
  some rr21
theorem L3 (s:(List b9)) (c1_0:b8) (r:Int) (hm:s8 s c1_0=some r):d7 Tryz.prog 178 [lD 6 s b9.c, .fn 185 [] [.ptr (b8.c c1_0) 0]] (fun x=>x=DI r):=by
 refine zn Tryz.func178 rfl ?_
 obtain⟨ev22,he,hk23⟩:=b5 hm
 refine u4.ofL (z6 s c1_0) (fun v7=>⟨[(0,lD 6 s b9.c),(1, .fn 185 [] [.ptr (b8.c c1_0) 0]),(4,DI 0),(7,DI (s.length:Int)),(8,DI v7)], [],0⟩) 0 (c5.of 0 rfl (tA rfl) trivial) he ?_
 rintro fu24 v7 b hm hi25
 apply vb hm<;>intro _ hm
 obtain⟨e27,hx28,hm⟩:=b5 hm
 refine⟨_,d9 (fun _=>rfl) hx28, ?_⟩
 refine cy hm (a4I e27 c1_0) fun x29 hm=> ?_
 apply vb hm<;>intro _ hm
 cases hm
 cases hi25
 have hm:=hk23
 exact hm.rr
 cases hm
 exact⟨(_,(W (v7+1))),c5.of 0 rfl (tA rfl) trivial,hi25,Nat.lt_succ_self _⟩
 cases hm
 cases hi25
 have hm:=hk23
 exact hm.rr
def I2 (s:(List a7)) (i:Int) (v:(List a7)):Option (List a7):=
 gd (0≤i∧i.toNat≤s.length)<|
 if((v.length:Int)==0)=true then
  some s
 else
  if(i==(s.length:Int))=true then
   gd ((s.length+v.length)*32≤140737488355328∧s.length+v.length≤9223372036854775807)<|
   some (s++v)
  else
   gd (0≤i∧i.toNat<s.length∧0<v.length∧(s.length+v.length)*32≤140737488355328∧s.length+v.length≤9223372036854775807) (some (s.take i.toNat++v++s.drop i.toNat))
theorem a0G (s:(List a7)) (i:Int) (v:(List a7)) (r:(List a7)) (hm:I2 s i v=some r):b2C Tryz.prog 210 4 s.length (s.flatMap a7.c) 149 [DI i,lD 4 v a7.c] 4 r.length (r.flatMap a7.c):=by
 obtain⟨hg0,hm⟩:=c6 hm
 refine a7b (X:=⟨Tryz.prog,tt,Tryz.f210.ntmps, [], [], [], [], [], []⟩) (t:=24) (tI:=3) (tB:=4) (ov:=222) (ty:=149) (args:= [lD 4 v a7.c]) pok Tryz.func210 rfl rfl .mk .mk (Nat.le_of_ble_eq_true rfl) hg0 rfl rfl rfl rfl rfl rfl (by kernel_rfl) ⟨⟨_,4,Tryz.func222,by kernel_rfl,by kernel_rfl,by kernel_rfl,by kernel_rfl⟩⟩ (by decide) ?_
 apply vb hm<;>intro _ hm
 cases hm
 exact⟨rfl,rfl⟩
 apply vb hm<;>intro _ hm
 obtain⟨hg,hm⟩:=c6 hm
 refine⟨hg,_,_,c9 (c:=a7.c) (l:=(s:List a7)) (r:=(v:List a7)), ?_⟩
 cases hm
 exact⟨rfl,rfl⟩
 obtain⟨hg,hm⟩:=c6 hm
 cases hm
 exact b7O (fun _=>rfl) hg
def q0 (x:(List a7)) (target:a7):(Int×Int)→Option (Sum (Int×Int) (Int×Int)):=fun(i7,j8)=>
 if(decide (i7<j8))=true then
  Option.bind (idx x (W ((IntKind.u64.wrap (W (i7+j8))).fdiv (2^(min (1:Int).toNat IntKind.u64.bits))))) fun e16=>
  Option.bind (E5 e16 target) fun x18=>
  if(decide (x18<0))=true then
   some (.inl ((W ((W ((IntKind.u64.wrap (W (i7+j8))).fdiv (2^(min (1:Int).toNat IntKind.u64.bits))))+1)),j8))
  else
   some (.inl (i7,(W ((IntKind.u64.wrap (W (i7+j8))).fdiv (2^(min (1:Int).toNat IntKind.u64.bits))))))
 else
  some (.inr (i7,j8))
def j0 (x:(List a7)) (target:a7):Option (Int×Bool):=
 Option.bind (l8 (q0 x target) (0,(x.length:Int))) fun(i21,j22)=>
 if(decide (i21<(x.length:Int)))=true then
  Option.bind (idx x i21) fun e24=>
  Option.bind (E5 e24 target) fun x26=>
  some (i21,(x26==0))
 else
  some (i21,false)
theorem F6 (x:(List a7)) (target:a7) (r:(Int×Bool)) (hm:j0 x target=some r):d7 Tryz.prog 221 [lD 4 x a7.c, .agg (a7.c target), .fn 139 [] []] (fun x=>x= .tup [DI r.1,DB r.2]):=by
 refine zy c5l [] [] [] Tryz.func221 rfl ?_
 obtain⟨ev28,he,hk29⟩:=b5 hm
 refine u4.ofL (q0 x target) (fun(i7,j8)=>⟨[(0,lD 4 x a7.c),(1, .agg (a7.c target)),(2, .fn 139 [] []),(4, .own 0 0),(6,DI 0),(7,DB false),(8,DI (x.length:Int)),(9,DI i7),(10,DI j8)], [(0, .blk (a7.c target) 149)],1⟩) (0,(x.length:Int)) (c5.of 1 rfl (tA rfl) ⟨hR rfl,trivial⟩) he ?_
 rintro fu30 ⟨i7,j8⟩ b hm hi31
 apply vb hm<;>intro _ hm
 refine⟨by decide, ?_⟩
 refine⟨rfl, ?_⟩
 obtain⟨e33,hx34,hm⟩:=b5 hm
 refine⟨_,d9 (fun _=>rfl) hx34, ?_⟩
 refine cy hm (Z3 e33 target) fun x35 hm=> ?_
 apply vb hm<;>intro _ hm
 cases hm
 exact⟨(_,((W ((W ((IntKind.u64.wrap (W (i7+j8))).fdiv (2^(min (1:Int).toNat IntKind.u64.bits))))+1)),j8)),c5.of 1 rfl (tA rfl) ⟨hR rfl,trivial⟩,hi31,Nat.lt_succ_self _⟩
 cases hm
 exact⟨(_,(i7,(W ((IntKind.u64.wrap (W (i7+j8))).fdiv (2^(min (1:Int).toNat IntKind.u64.bits)))))),c5.of 1 rfl (tA rfl) ⟨hR rfl,trivial⟩,hi31,Nat.lt_succ_self _⟩
 cases hm
 cases hi31
 have hm:=hk29
 refine⟨rfl, ?_⟩
 apply vb hm<;>intro _ hm
 obtain⟨e39,hx40,hm⟩:=b5 hm
 refine⟨_,d9 (fun _=>rfl) hx40, ?_⟩
 refine cy hm (Z3 e39 target) fun x41 hm=> ?_
 cases hm
 exact d0.le (leD.refl _)
 cases hm
 exact d0.le (leD.refl _)
def t6 (l:(List a7)) (x:a7):Option (Int×Bool):=
 Option.bind (j0 l x) fun⟨x1,x2⟩=>
 some (x1,x2)
theorem S3 (l:(List a7)) (x:a7) (r:(Int×Bool)) (hm:t6 l x=some r):d7 Tryz.prog 209 [lD 4 l a7.c, .agg (a7.c x), .fn 139 [] []] (fun x=>x= .tup [DI r.1,DB r.2]):=by
 refine zn Tryz.func209 rfl ?_
 refine cy hm (F6 l x) ?_
 rintro⟨x1,x2⟩ hm
 cases hm
 exact d0.le (leD.refl _)
def J5 (s:(List b4)) (i:Int) (v:(List b4)):Option (List b4):=
 gd (0≤i∧i.toNat≤s.length)<|
 if((v.length:Int)==0)=true then
  some s
 else
  if(i==(s.length:Int))=true then
   gd ((s.length+v.length)*48≤140737488355328∧s.length+v.length≤9223372036854775807)<|
   some (s++v)
  else
   gd (0≤i∧i.toNat<s.length∧0<v.length∧(s.length+v.length)*48≤140737488355328∧s.length+v.length≤9223372036854775807) (some (s.take i.toNat++v++s.drop i.toNat))
theorem a1B (s:(List b4)) (i:Int) (v:(List b4)) (r:(List b4)) (hm:J5 s i v=some r):b2C Tryz.prog 211 6 s.length (s.flatMap b4.c) 114 [DI i,lD 6 v b4.c] 6 r.length (r.flatMap b4.c):=by
 obtain⟨hg0,hm⟩:=c6 hm
 refine a7b (X:=⟨Tryz.prog,tt,Tryz.f211.ntmps, [], [], [], [], [], []⟩) (t:=26) (tI:=3) (tB:=4) (ov:=224) (ty:=114) (args:= [lD 6 v b4.c]) pok Tryz.func211 rfl rfl .mk .mk (Nat.le_of_ble_eq_true rfl) hg0 rfl rfl rfl rfl rfl rfl (by kernel_rfl) ⟨⟨_,4,Tryz.func224,by kernel_rfl,by kernel_rfl,by kernel_rfl,by kernel_rfl⟩⟩ (by decide) ?_
 apply vb hm<;>intro _ hm
 cases hm
 exact⟨rfl,rfl⟩
 apply vb hm<;>intro _ hm
 obtain⟨hg,hm⟩:=c6 hm
 refine⟨hg,_,_,c9 (c:=b4.c) (l:=(s:List b4)) (r:=(v:List b4)), ?_⟩
 cases hm
 exact⟨rfl,rfl⟩
 obtain⟨hg,hm⟩:=c6 hm
 cases hm
 exact b7O (fun _=>rfl) hg
def s5 (x:(List b4)) (target:b4):(Int×Int)→Option (Sum (Int×Int) (Int×Int)):=fun(i7,j8)=>
 if(decide (i7<j8))=true then
  Option.bind (idx x (W ((IntKind.u64.wrap (W (i7+j8))).fdiv (2^(min (1:Int).toNat IntKind.u64.bits))))) fun e16=>
  Option.bind (E3 e16 target) fun x18=>
  if(decide (x18<0))=true then
   some (.inl ((W ((W ((IntKind.u64.wrap (W (i7+j8))).fdiv (2^(min (1:Int).toNat IntKind.u64.bits))))+1)),j8))
  else
   some (.inl (i7,(W ((IntKind.u64.wrap (W (i7+j8))).fdiv (2^(min (1:Int).toNat IntKind.u64.bits))))))
 else
  some (.inr (i7,j8))
def j4 (x:(List b4)) (target:b4):Option (Int×Bool):=
 Option.bind (l8 (s5 x target) (0,(x.length:Int))) fun(i21,j22)=>
 if(decide (i21<(x.length:Int)))=true then
  Option.bind (idx x i21) fun e24=>
  Option.bind (E3 e24 target) fun x26=>
  some (i21,(x26==0))
 else
  some (i21,false)
theorem G5 (x:(List b4)) (target:b4) (r:(Int×Bool)) (hm:j4 x target=some r):d7 Tryz.prog 152 [lD 6 x b4.c, .agg (b4.c target), .fn 95 [] []] (fun x=>x= .tup [DI r.1,DB r.2]):=by
 refine zy c4v [] [] [] Tryz.func152 rfl ?_
 obtain⟨ev28,he,hk29⟩:=b5 hm
 refine u4.ofL (s5 x target) (fun(i7,j8)=>⟨[(0,lD 6 x b4.c),(1, .agg (b4.c target)),(2, .fn 95 [] []),(4, .own 0 0),(6,DI 0),(7,DB false),(8,DI (x.length:Int)),(9,DI i7),(10,DI j8)], [(0, .blk (b4.c target) 114)],1⟩) (0,(x.length:Int)) (c5.of 1 rfl (tA rfl) ⟨hR rfl,trivial⟩) he ?_
 rintro fu30 ⟨i7,j8⟩ b hm hi31
 apply vb hm<;>intro _ hm
 refine⟨by decide, ?_⟩
 refine⟨rfl, ?_⟩
 obtain⟨e33,hx34,hm⟩:=b5 hm
 refine⟨_,d9 (fun _=>rfl) hx34, ?_⟩
 refine cy hm (Y7 e33 target) fun x35 hm=> ?_
 apply vb hm<;>intro _ hm
 cases hm
 exact⟨(_,((W ((W ((IntKind.u64.wrap (W (i7+j8))).fdiv (2^(min (1:Int).toNat IntKind.u64.bits))))+1)),j8)),c5.of 1 rfl (tA rfl) ⟨hR rfl,trivial⟩,hi31,Nat.lt_succ_self _⟩
 cases hm
 exact⟨(_,(i7,(W ((IntKind.u64.wrap (W (i7+j8))).fdiv (2^(min (1:Int).toNat IntKind.u64.bits)))))),c5.of 1 rfl (tA rfl) ⟨hR rfl,trivial⟩,hi31,Nat.lt_succ_self _⟩
 cases hm
 cases hi31
 have hm:=hk29
 refine⟨rfl, ?_⟩
 apply vb hm<;>intro _ hm
 obtain⟨e39,hx40,hm⟩:=b5 hm
 refine⟨_,d9 (fun _=>rfl) hx40, ?_⟩
 refine cy hm (Y7 e39 target) fun x41 hm=> ?_
 cases hm
 exact d0.le (leD.refl _)
 cases hm
 exact d0.le (leD.refl _)
def m8 (l:(List b4)) (x:b4):Option (Int×Bool):=
 Option.bind (j4 l x) fun⟨x1,x2⟩=>
 some (x1,x2)
theorem I8 (l:(List b4)) (x:b4) (r:(Int×Bool)) (hm:m8 l x=some r):d7 Tryz.prog 94 [lD 6 l b4.c, .agg (b4.c x), .fn 95 [] []] (fun x=>x= .tup [DI r.1,DB r.2]):=by
 refine zn Tryz.func94 rfl ?_
 refine cy hm (G5 l x) ?_
 rintro⟨x1,x2⟩ hm
 cases hm
 exact d0.le (leD.refl _)
theorem b2K:d7 Tryz.prog 96 [] (fun x=>x= .mp [(1,154),(2,155),(3,156),(4,157),(5,158),(6,159)]):=
 c0k (t:=140) (kt:=3) (et:=139) Tryz.func96 rfl (.mk (.cons (.cons (.cons (.cons (.cons (.cons .nil))))))) (by decide) rfl rfl (by kernel_rfl) (by kernel_rfl)
def a0A (c:b8) (v9:(List a8)):Option (Sum ((List a8)×Int) Unit):=
 Option.bind (u3 v9 (⟨c.Night,0,0,0⟩:a8)) fun⟨x122,x123⟩=>
 if x123=true then
  some (.inl (v9,x122))
 else
  if((v9.length:Int)==12)=true then
   some (.inr ())
  else
   Option.bind (J4 v9 x122 ([(⟨c.Night,0,0,0⟩:a8)]:List a8)) fun x127=>
   some (.inl (x127,x122))
def P4 (c:b8) (v9:(List a8)):Option (Sum ((List a8)×Int) Unit):=
 Option.bind (a0A c v9) fun e=>
 match e with
 | .inl (v120,x121)=>
  Option.bind (idx v120 x121) fun e131=>
  some (.inl (v120,x121))
 | .inr _=>
  some (.inr ())
def R9 (c:b8) (v9:(List a8)):Option ((List a8)×Bool):=
 Option.bind (P4 c v9) fun e=>
 match e with
 | .inl (v111,x112)=>
  Option.bind (idx v111 x112) fun e142=>
  if(decide (c.Ballot>e142.Promised))=true then
   Option.bind (idx v111 x112) fun e145=>
   some ((v111.set x112.toNat (⟨e145.Night,c.Ballot,e145.Ballot,e145.Value⟩:a8)),true)
  else
   some (v111,true)
 | .inr _=>
  some (v9,false)
def R4 (c:b8) (v10:(List b9)):Option (List b9):=
 Option.bind (s8 v10 c) fun x292=>
 if(decide (x292<0))=true then
  some v10
 else
  Option.bind (idx v10 x292) fun e295=>
  Option.bind (idx v10 x292) fun e297=>
  if e297.Asked=true then
   some v10
  else
   Option.bind (idx v10 x292) fun e300=>
   Option.bind (R1 e300.Mask c.From) fun x302=>
   if x302=true then
    some v10
   else
    Option.bind (idx v10 x292) fun e305=>
    Option.bind (K7 e305.Mask c.From) fun x307=>
    Option.bind (M0 x307) fun x309=>
    Option.bind (idx v10 x292) fun e311=>
    Option.bind (idx (v10.set x292.toNat (⟨e311.Night,e311.Ballot,e311.Value,e311.Best,x307,e311.Asked⟩:b9)) x292) fun e313=>
    Option.bind (idx ((v10.set x292.toNat (⟨e311.Night,e311.Ballot,e311.Value,e311.Best,x307,e311.Asked⟩:b9)).set x292.toNat (⟨e313.Night,e313.Ballot,e313.Value,e313.Best,e313.Mask,x309⟩:b9)) x292) fun e315=>
    if(decide (c.Best>e315.Best))=true then
     Option.bind (idx ((v10.set x292.toNat (⟨e311.Night,e311.Ballot,e311.Value,e311.Best,x307,e311.Asked⟩:b9)).set x292.toNat (⟨e313.Night,e313.Ballot,e313.Value,e313.Best,e313.Mask,x309⟩:b9)) x292) fun e318=>
     Option.bind (idx (((v10.set x292.toNat (⟨e311.Night,e311.Ballot,e311.Value,e311.Best,x307,e311.Asked⟩:b9)).set x292.toNat (⟨e313.Night,e313.Ballot,e313.Value,e313.Best,e313.Mask,x309⟩:b9)).set x292.toNat (⟨e318.Night,e318.Ballot,e318.Value,c.Best,e318.Mask,e318.Asked⟩:b9)) x292) fun e320=>
     some ((((v10.set x292.toNat (⟨e311.Night,e311.Ballot,e311.Value,e311.Best,x307,e311.Asked⟩:b9)).set x292.toNat (⟨e313.Night,e313.Ballot,e313.Value,e313.Best,e313.Mask,x309⟩:b9)).set x292.toNat (⟨e318.Night,e318.Ballot,e318.Value,c.Best,e318.Mask,e318.Asked⟩:b9)).set x292.toNat (⟨e320.Night,e320.Ballot,c.Value,e320.Best,e320.Mask,e320.Asked⟩:b9))
    else
     some ((v10.set x292.toNat (⟨e311.Night,e311.Ballot,e311.Value,e311.Best,x307,e311.Asked⟩:b9)).set x292.toNat (⟨e313.Night,e313.Ballot,e313.Value,e313.Best,e313.Mask,x309⟩:b9))
def U4 (c:b8) (v9:(List a8)):Option ((List a8)×Bool):=
 Option.bind (P4 c v9) fun e=>
 match e with
 | .inl (v430,x431)=>
  Option.bind (idx v430 x431) fun e461=>
  if(decide (c.Ballot≥e461.Promised))=true then
   Option.bind (idx v430 x431) fun e464=>
   Option.bind (idx (v430.set x431.toNat (⟨e464.Night,c.Ballot,e464.Ballot,e464.Value⟩:a8)) x431) fun e466=>
   Option.bind (idx ((v430.set x431.toNat (⟨e464.Night,c.Ballot,e464.Ballot,e464.Value⟩:a8)).set x431.toNat (⟨e466.Night,e466.Promised,c.Ballot,e466.Value⟩:a8)) x431) fun e468=>
   some ((((v430.set x431.toNat (⟨e464.Night,c.Ballot,e464.Ballot,e464.Value⟩:a8)).set x431.toNat (⟨e466.Night,e466.Promised,c.Ballot,e466.Value⟩:a8)).set x431.toNat (⟨e468.Night,e468.Promised,e468.Ballot,c.Value⟩:a8)),true)
  else
   some (v430,true)
 | .inr _=>
  some (v9,false)
def a0v (c:b8) (v11:(List a7)):Option (Sum ((List a7)×Int) Unit):=
 Option.bind (t6 v11 (⟨c.Night,c.Ballot,c.Value,0⟩:a7)) fun⟨x632,x633⟩=>
 if x633=true then
  some (.inl (v11,x632))
 else
  if((v11.length:Int)==60)=true then
   some (.inr ())
  else
   Option.bind (I2 v11 x632 ([(⟨c.Night,c.Ballot,c.Value,0⟩:a7)]:List a7)) fun x637=>
   some (.inl (x637,x632))
def P7 (c:b8) (v11:(List a7)):Option ((List a7)×Bool):=
 Option.bind (a0v c v11) fun e=>
 match e with
 | .inl (v630,x631)=>
  Option.bind (idx v630 x631) fun e641=>
  Option.bind (idx v630 x631) fun e643=>
  if(e643.Value==c.Value)=true then
   Option.bind (idx v630 x631) fun e646=>
   Option.bind (idx v630 x631) fun e648=>
   Option.bind (K7 e648.Mask c.From) fun x650=>
   Option.bind (idx v630 x631) fun e652=>
   Option.bind (idx v630 x631) fun e654=>
   some ((v630.set x631.toNat (⟨e654.Night,e654.Ballot,e654.Value,x650⟩:a7)),true)
  else
   some (v630,true)
 | .inr _=>
  some (v11,false)
def a0H (c:b8) (v13:(List b4)):Option (Sum ((List b4)×Int) Unit):=
 Option.bind (m8 v13 (⟨c.From,c.No,c.Thing,c.Start,c.Until,false⟩:b4)) fun⟨x736,x737⟩=>
 if x737=true then
  some (.inl (v13,x736))
 else
  if((v13.length:Int)==60)=true then
   some (.inr ())
  else
   Option.bind (J5 v13 x736 ([(⟨c.From,c.No,c.Thing,c.Start,c.Until,false⟩:b4)]:List b4)) fun x741=>
   some (.inl (x741,x736))
def V6 (c:b8) (v13:(List b4)):Option ((List b4)×Bool):=
 Option.bind (a0H c v13) fun e=>
 match e with
 | .inl (v734,x735)=>
  some (v734,true)
 | .inr _=>
  some (v13,false)
def L0 (c:b8) (v12:(List b6)):(Int×(List b6))→Option (Sum (Int×(List b6)) (Int×(List b6))):=fun(v858,v859)=>
 if(decide (v858<(v12.length:Int)))=true then
  Option.bind (idx v859 v858) fun e879=>
  Option.bind (idx v859 v858) fun e881=>
  if(e881.No==c.No)=true then
   Option.bind (idx v859 v858) fun e884=>
   if(e884.Thing==c.Thing)=true then
    Option.bind (idx v859 v858) fun e887=>
    if(e887.To==c.From)=true then
     Option.bind (idx v859 v858) fun e890=>
     Option.bind (idx v859 v858) fun e892=>
     Option.bind (idx v859 v858) fun e894=>
     some (.inl ((W (v858+1)),(v859.set v858.toNat (⟨e894.No,e894.Thing,e894.To,e894.From,(if(if e892.From>c.Until then e892.From else c.Until)<e890.Until then(if e892.From>c.Until then e892.From else c.Until)else e890.Until)⟩:b6))))
    else
     some (.inl ((W (v858+1)),v859))
   else
    some (.inl ((W (v858+1)),v859))
  else
   some (.inl ((W (v858+1)),v859))
 else
  some (.inr (v858,v859))
def Y8 (c:b8) (v12:(List b6)):Option (List b6):=
 Option.bind (l8 (L0 c v12) (0,v12)) fun(v896,v897)=>
 some v897
end Go.Proofs.YtcedmbakcchkiaaGreatDoor
