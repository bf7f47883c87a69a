/- Functions of the program as pure Lean functions, and that calls do what these say. Printed by a program out of the given form. -/
import Derived.Test.YtcedmbakcchkiaaGreatDoorL0
set_option linter.unusedVariables false
set_option linter.unusedSimpArgs false
namespace Go.Proofs.YtcedmbakcchkiaaGreatDoor
open Go Go.RowKit Go.Sx
set_option maxRecDepth 100000
set_option maxHeartbeats 20000000
def e7 (n:Int) (lo:Int) (hi:Int):Option Bool:=
 if(decide (lo≤n))=true then
  some (decide (n≤hi))
 else
  some false
theorem j1 (n:Int) (lo:Int) (hi:Int) (r:Bool) (hm:e7 n lo hi=some r):d0 Tryz.prog 117 [DI n,DI lo,DI hi] (fun x=>x=DB r):=by
 refine zn Tryz.func117 rfl ?_
 apply vb hm<;>intro _ hm
 exact hm.rr
 exact hm.rr
def s9 (n:Int):Option Bool:=
 Option.bind (e7 n 0 5) fun x1=>
 some x1
theorem B8 (n:Int) (r:Bool) (hm:s9 n=some r):d0 Tryz.prog 64 [DI n] (fun x=>x=DB r):=by
 refine zn Tryz.func64 rfl ?_
 refine cy hm (j1 n 0 5) fun x1 hm=> ?_
 exact hm.rr
def Z7 (x:Int):Option Bool:=
 some (x !=x)
theorem a4Q (x:Int) (r:Bool) (hm:Z7 x=some r):d0 Tryz.prog 183 [DI x] (fun x=>x=DB r):=by
 refine zn Tryz.func183 rfl ?_
 exact hm.rr
def D0 (x:Int) (y:Int):Option Int:=
 Option.bind (Z7 x) fun x1=>
 Option.bind (Z7 y) fun x3=>
 if x1=true then
  if x3=true then
   some 0
  else
   some (-1)
 else
  if x3=true then
   some 1
  else
   if(decide (x<y))=true then
    some (-1)
   else
    if(decide (x>y))=true then
     some 1
    else
     some 0
theorem J7 (x:Int) (y:Int) (r:Int) (hm:D0 x y=some r):d0 Tryz.prog 150 [DI x,DI y] (fun x=>x=DI r):=by
 refine zn Tryz.func150 rfl ?_
 refine cy hm (a4Q x) fun x1 hm=> ?_
 refine cy hm (a4Q y) fun x3 hm=> ?_
 apply vb hm<;>intro _ hm
 apply vb hm<;>intro _ hm
 exact hm.rr
 exact hm.rr
 apply vb hm<;>intro _ hm
 exact hm.rr
 apply vb hm<;>intro _ hm
 exact hm.rr
 apply vb hm<;>intro _ hm
 exact hm.rr
 exact hm.rr
def G7 (a:c4) (b_:c4):Option Int:=
 Option.bind (D0 a.Night b_.Night) fun x1=>
 some x1
theorem V8 (a:c4) (b_:c4) (r:Int) (hm:G7 a b_=some r):d0 Tryz.prog 89 [.agg (c4.c a), .agg (c4.c b_)] (fun x=>x=DI r):=by
 refine zn Tryz.func89 rfl ?_
 refine cy hm (J7 a.Night b_.Night) fun x1 hm=> ?_
 exact hm.rr
def S4 (vals:(List Int)):Int→Option (Sum Int (Sum Int Int)):=fun v5=>
 if(decide (v5<(vals.length:Int)))=true then
  Option.bind (idx vals v5) fun e11=>
  if(e11 !=0)=true then
   some (.inr (.inr e11))
  else
   some (.inl (W (v5+1)))
 else
  some (.inr (.inl v5))
def a0J (vals:(List Int)):Option Int:=
 Option.bind (l5 (S4 vals) 0) fun e=>
 match e with
 | .inl v14=>
  some 0
 | .inr rr15=>
  some rr15
theorem a7H (vals:(List Int)) (r:Int) (hm:a0J vals=some r):d0 Tryz.prog 153 [lD 1 vals cI] (fun x=>x=DI r):=by
 refine zn Tryz.func153 rfl ?_
 obtain⟨ev16,he,hk17⟩:=a8 hm
 refine q9.ofL (S4 vals) (fun v5=>⟨[(0,lD 1 vals cI),(2,DI 0),(3,DI 0),(6,lD 1 vals cI),(7,DI (vals.length:Int)),(8,DI v5)], [],0⟩) 0 (c5.of 0 rfl (tA rfl) trivial) he ?_
 rintro fu18 v5 b hm hi19
 apply vb hm<;>intro _ hm
 obtain⟨e21,hx22,hm⟩:=a8 hm
 refine⟨_,c8 (fun _=>rfl) hx22, ?_⟩
 apply vb hm<;>intro _ hm
 cases hm
 cases hi19
 have hm:=hk17
 exact hm.rr
 cases hm
 exact⟨(_,(W (v5+1))),c5.of 0 rfl (tA rfl) trivial,hi19,Nat.lt_succ_self _⟩
 cases hm
 cases hi19
 have hm:=hk17
 exact hm.rr
def F1 (a:b9) (b_:b9):Option Int:=
 Option.bind (D0 a.Owner b_.Owner) fun x1=>
 Option.bind (D0 a.No b_.No) fun x3=>
 Option.bind (a0J ([x1,x3]:List Int)) fun x5=>
 some x5
theorem T0 (a:b9) (b_:b9) (r:Int) (hm:F1 a b_=some r):d0 Tryz.prog 95 [.agg (b9.c a), .agg (b9.c b_)] (fun x=>x=DI r):=by
 refine zy c5j [] [] [] Tryz.func95 rfl ?_
 refine⟨rfl, ?_⟩
 refine cy hm (J7 a.Owner b_.Owner) fun x1 hm=> ?_
 refine cy hm (J7 a.No b_.No) fun x3 hm=> ?_
 refine⟨([x1,x3]:List Int).flatMap cI,([x1,x3]:List Int).length,⟨rfl,rfl⟩, ?_⟩
 refine co hm (a7H (([x1,x3]:List Int))) fun x5 hm=> ?_
 exact hm.rr
def c9 (n:Int):Option Int:=
 some (n.tmod 6)
theorem e9 (n:Int) (r:Int) (hm:c9 n=some r):d0 Tryz.prog 71 [DI n] (fun x=>x=DI r):=by
 refine zn Tryz.func71 rfl ?_
 refine⟨by decide, ?_⟩
 exact hm.rr
def o4 (n:Int):Option Bool:=
 Option.bind (e7 n 0 100000) fun x1=>
 some x1
theorem r7 (n:Int) (r:Bool) (hm:o4 n=some r):d0 Tryz.prog 86 [DI n] (fun x=>x=DB r):=by
 refine zn Tryz.func86 rfl ?_
 refine cy hm (j1 n 0 100000) fun x1 hm=> ?_
 exact hm.rr
def i0 (n:Int):Option Bool:=
 Option.bind (e7 n 1 1000000) fun x1=>
 some x1
theorem j4 (n:Int) (r:Bool) (hm:i0 n=some r):d0 Tryz.prog 87 [DI n] (fun x=>x=DB r):=by
 refine zn Tryz.func87 rfl ?_
 refine cy hm (j1 n 1 1000000) fun x1 hm=> ?_
 exact hm.rr
def a0l (x:Int):Option Int:=
 some (W ((BitVec.ofInt IntKind.i64.bits (W (IntKind.u64.wrap ((IntKind.u64.wrap ((IntKind.u64.wrap ((IntKind.u64.wrap ((BitVec.ofInt IntKind.u64.bits (IntKind.u64.wrap (((IntKind.u64.wrap ((IntKind.u64.wrap ((BitVec.ofInt IntKind.u64.bits ((IntKind.u64.wrap ((IntKind.u64.wrap ((BitVec.ofInt IntKind.u64.bits (x.fdiv (2^(min (1:Int).toNat IntKind.u64.bits)))&&&BitVec.ofInt IntKind.u64.bits 6148914691236517205).toNat:Int))+(IntKind.u64.wrap ((BitVec.ofInt IntKind.u64.bits x&&&BitVec.ofInt IntKind.u64.bits 6148914691236517205).toNat:Int)))).fdiv (2^(min (2:Int).toNat IntKind.u64.bits)))&&&BitVec.ofInt IntKind.u64.bits 3689348814741910323).toNat:Int))+(IntKind.u64.wrap ((BitVec.ofInt IntKind.u64.bits (IntKind.u64.wrap ((IntKind.u64.wrap ((BitVec.ofInt IntKind.u64.bits (x.fdiv (2^(min (1:Int).toNat IntKind.u64.bits)))&&&BitVec.ofInt IntKind.u64.bits 6148914691236517205).toNat:Int))+(IntKind.u64.wrap ((BitVec.ofInt IntKind.u64.bits x&&&BitVec.ofInt IntKind.u64.bits 6148914691236517205).toNat:Int))))&&&BitVec.ofInt IntKind.u64.bits 3689348814741910323).toNat:Int)))).fdiv (2^(min (4:Int).toNat IntKind.u64.bits)))+(IntKind.u64.wrap ((IntKind.u64.wrap ((BitVec.ofInt IntKind.u64.bits ((IntKind.u64.wrap ((IntKind.u64.wrap ((BitVec.ofInt IntKind.u64.bits (x.fdiv (2^(min (1:Int).toNat IntKind.u64.bits)))&&&BitVec.ofInt IntKind.u64.bits 6148914691236517205).toNat:Int))+(IntKind.u64.wrap ((BitVec.ofInt IntKind.u64.bits x&&&BitVec.ofInt IntKind.u64.bits 6148914691236517205).toNat:Int)))).fdiv (2^(min (2:Int).toNat IntKind.u64.bits)))&&&BitVec.ofInt IntKind.u64.bits 3689348814741910323).toNat:Int))+(IntKind.u64.wrap ((BitVec.ofInt IntKind.u64.bits (IntKind.u64.wrap ((IntKind.u64.wrap ((BitVec.ofInt IntKind.u64.bits (x.fdiv (2^(min (1:Int).toNat IntKind.u64.bits)))&&&BitVec.ofInt IntKind.u64.bits 6148914691236517205).toNat:Int))+(IntKind.u64.wrap ((BitVec.ofInt IntKind.u64.bits x&&&BitVec.ofInt IntKind.u64.bits 6148914691236517205).toNat:Int))))&&&BitVec.ofInt IntKind.u64.bits 3689348814741910323).toNat:Int))))))&&&BitVec.ofInt IntKind.u64.bits 1085102592571150095).toNat:Int))+((IntKind.u64.wrap ((BitVec.ofInt IntKind.u64.bits (IntKind.u64.wrap (((IntKind.u64.wrap ((IntKind.u64.wrap ((BitVec.ofInt IntKind.u64.bits ((IntKind.u64.wrap ((IntKind.u64.wrap ((BitVec.ofInt IntKind.u64.bits (x.fdiv (2^(min (1:Int).toNat IntKind.u64.bits)))&&&BitVec.ofInt IntKind.u64.bits 6148914691236517205).toNat:Int))+(IntKind.u64.wrap ((BitVec.ofInt IntKind.u64.bits x&&&BitVec.ofInt IntKind.u64.bits 6148914691236517205).toNat:Int)))).fdiv (2^(min (2:Int).toNat IntKind.u64.bits)))&&&BitVec.ofInt IntKind.u64.bits 3689348814741910323).toNat:Int))+(IntKind.u64.wrap ((BitVec.ofInt IntKind.u64.bits (IntKind.u64.wrap ((IntKind.u64.wrap ((BitVec.ofInt IntKind.u64.bits (x.fdiv (2^(min (1:Int).toNat IntKind.u64.bits)))&&&BitVec.ofInt IntKind.u64.bits 6148914691236517205).toNat:Int))+(IntKind.u64.wrap ((BitVec.ofInt IntKind.u64.bits x&&&BitVec.ofInt IntKind.u64.bits 6148914691236517205).toNat:Int))))&&&BitVec.ofInt IntKind.u64.bits 3689348814741910323).toNat:Int)))).fdiv (2^(min (4:Int).toNat IntKind.u64.bits)))+(IntKind.u64.wrap ((IntKind.u64.wrap ((BitVec.ofInt IntKind.u64.bits ((IntKind.u64.wrap ((IntKind.u64.wrap ((BitVec.ofInt IntKind.u64.bits (x.fdiv (2^(min (1:Int).toNat IntKind.u64.bits)))&&&BitVec.ofInt IntKind.u64.bits 6148914691236517205).toNat:Int))+(IntKind.u64.wrap ((BitVec.ofInt IntKind.u64.bits x&&&BitVec.ofInt IntKind.u64.bits 6148914691236517205).toNat:Int)))).fdiv (2^(min (2:Int).toNat IntKind.u64.bits)))&&&BitVec.ofInt IntKind.u64.bits 3689348814741910323).toNat:Int))+(IntKind.u64.wrap ((BitVec.ofInt IntKind.u64.bits (IntKind.u64.wrap ((IntKind.u64.wrap ((BitVec.ofInt IntKind.u64.bits (x.fdiv (2^(min (1:Int).toNat IntKind.u64.bits)))&&&BitVec.ofInt IntKind.u64.bits 6148914691236517205).toNat:Int))+(IntKind.u64.wrap ((BitVec.ofInt IntKind.u64.bits x&&&BitVec.ofInt IntKind.u64.bits 6148914691236517205).toNat:Int))))&&&BitVec.ofInt IntKind.u64.bits 3689348814741910323).toNat:Int))))))&&&BitVec.ofInt IntKind.u64.bits 1085102592571150095).toNat:Int)).fdiv (2^(min (8:Int).toNat IntKind.u64.bits)))))+((IntKind.u64.wrap ((IntKind.u64.wrap ((BitVec.ofInt IntKind.u64.bits (IntKind.u64.wrap (((IntKind.u64.wrap ((IntKind.u64.wrap ((BitVec.ofInt IntKind.u64.bits ((IntKind.u64.wrap ((IntKind.u64.wrap ((BitVec.ofInt IntKind.u64.bits (x.fdiv (2^(min (1:Int).toNat IntKind.u64.bits)))&&&BitVec.ofInt IntKind.u64.bits 6148914691236517205).toNat:Int))+(IntKind.u64.wrap ((BitVec.ofInt IntKind.u64.bits x&&&BitVec.ofInt IntKind.u64.bits 6148914691236517205).toNat:Int)))).fdiv (2^(min (2:Int).toNat IntKind.u64.bits)))&&&BitVec.ofInt IntKind.u64.bits 3689348814741910323).toNat:Int))+(IntKind.u64.wrap ((BitVec.ofInt IntKind.u64.bits (IntKind.u64.wrap ((IntKind.u64.wrap ((BitVec.ofInt IntKind.u64.bits (x.fdiv (2^(min (1:Int).toNat IntKind.u64.bits)))&&&BitVec.ofInt IntKind.u64.bits 6148914691236517205).toNat:Int))+(IntKind.u64.wrap ((BitVec.ofInt IntKind.u64.bits x&&&BitVec.ofInt IntKind.u64.bits 6148914691236517205).toNat:Int))))&&&BitVec.ofInt IntKind.u64.bits 3689348814741910323).toNat:Int)))).fdiv (2^(min (4:Int).toNat IntKind.u64.bits)))+(IntKind.u64.wrap ((IntKind.u64.wrap ((BitVec.ofInt IntKind.u64.bits ((IntKind.u64.wrap ((IntKind.u64.wrap ((BitVec.ofInt IntKind.u64.bits (x.fdiv (2^(min (1:Int).toNat IntKind.u64.bits)))&&&BitVec.ofInt IntKind.u64.bits 6148914691236517205).toNat:Int))+(IntKind.u64.wrap ((BitVec.ofInt IntKind.u64.bits x&&&BitVec.ofInt IntKind.u64.bits 6148914691236517205).toNat:Int)))).fdiv (2^(min (2:Int).toNat IntKind.u64.bits)))&&&BitVec.ofInt IntKind.u64.bits 3689348814741910323).toNat:Int))+(IntKind.u64.wrap ((BitVec.ofInt IntKind.u64.bits (IntKind.u64.wrap ((IntKind.u64.wrap ((BitVec.ofInt IntKind.u64.bits (x.fdiv (2^(min (1:Int).toNat IntKind.u64.bits)))&&&BitVec.ofInt IntKind.u64.bits 6148914691236517205).toNat:Int))+(IntKind.u64.wrap ((BitVec.ofInt IntKind.u64.bits x&&&BitVec.ofInt IntKind.u64.bits 6148914691236517205).toNat:Int))))&&&BitVec.ofInt IntKind.u64.bits 3689348814741910323).toNat:Int))))))&&&BitVec.ofInt IntKind.u64.bits 1085102592571150095).toNat:Int))+((IntKind.u64.wrap ((BitVec.ofInt IntKind.u64.bits (IntKind.u64.wrap (((IntKind.u64.wrap ((IntKind.u64.wrap ((BitVec.ofInt IntKind.u64.bits ((IntKind.u64.wrap ((IntKind.u64.wrap ((BitVec.ofInt IntKind.u64.bits (x.fdiv (2^(min (1:Int).toNat IntKind.u64.bits)))&&&BitVec.ofInt IntKind.u64.bits 6148914691236517205).toNat:Int))+(IntKind.u64.wrap ((BitVec.ofInt IntKind.u64.bits x&&&BitVec.ofInt IntKind.u64.bits 6148914691236517205).toNat:Int)))).fdiv (2^(min (2:Int).toNat IntKind.u64.bits)))&&&BitVec.ofInt IntKind.u64.bits 3689348814741910323).toNat:Int))+(IntKind.u64.wrap ((BitVec.ofInt IntKind.u64.bits (IntKind.u64.wrap ((IntKind.u64.wrap ((BitVec.ofInt IntKind.u64.bits (x.fdiv (2^(min (1:Int).toNat IntKind.u64.bits)))&&&BitVec.ofInt IntKind.u64.bits 6148914691236517205).toNat:Int))+(IntKind.u64.wrap ((BitVec.ofInt IntKind.u64.bits x&&&BitVec.ofInt IntKind.u64.bits 6148914691236517205).toNat:Int))))&&&BitVec.ofInt IntKind.u64.bits 3689348814741910323).toNat:Int)))).fdiv (2^(min (4:Int).toNat IntKind.u64.bits)))+(IntKind.u64.wrap ((IntKind.u64.wrap ((BitVec.ofInt IntKind.u64.bits ((IntKind.u64.wrap ((IntKind.u64.wrap ((BitVec.ofInt IntKind.u64.bits (x.fdiv (2^(min (1:Int).toNat IntKind.u64.bits)))&&&BitVec.ofInt IntKind.u64.bits 6148914691236517205).toNat:Int))+(IntKind.u64.wrap ((BitVec.ofInt IntKind.u64.bits x&&&BitVec.ofInt IntKind.u64.bits 6148914691236517205).toNat:Int)))).fdiv (2^(min (2:Int).toNat IntKind.u64.bits)))&&&BitVec.ofInt IntKind.u64.bits 3689348814741910323).toNat:Int))+(IntKind.u64.wrap ((BitVec.ofInt IntKind.u64.bits (IntKind.u64.wrap ((IntKind.u64.wrap ((BitVec.ofInt IntKind.u64.bits (x.fdiv (2^(min (1:Int).toNat IntKind.u64.bits)))&&&BitVec.ofInt IntKind.u64.bits 6148914691236517205).toNat:Int))+(IntKind.u64.wrap ((BitVec.ofInt IntKind.u64.bits x&&&BitVec.ofInt IntKind.u64.bits 6148914691236517205).toNat:Int))))&&&BitVec.ofInt IntKind.u64.bits 3689348814741910323).toNat:Int))))))&&&BitVec.ofInt IntKind.u64.bits 1085102592571150095).toNat:Int)).fdiv (2^(min (8:Int).toNat IntKind.u64.bits))))).fdiv (2^(min (16:Int).toNat IntKind.u64.bits)))))+((IntKind.u64.wrap ((IntKind.u64.wrap ((IntKind.u64.wrap ((BitVec.ofInt IntKind.u64.bits (IntKind.u64.wrap (((IntKind.u64.wrap ((IntKind.u64.wrap ((BitVec.ofInt IntKind.u64.bits ((IntKind.u64.wrap ((IntKind.u64.wrap ((BitVec.ofInt IntKind.u64.bits (x.fdiv (2^(min (1:Int).toNat IntKind.u64.bits)))&&&BitVec.ofInt IntKind.u64.bits 6148914691236517205).toNat:Int))+(IntKind.u64.wrap ((BitVec.ofInt IntKind.u64.bits x&&&BitVec.ofInt IntKind.u64.bits 6148914691236517205).toNat:Int)))).fdiv (2^(min (2:Int).toNat IntKind.u64.bits)))&&&BitVec.ofInt IntKind.u64.bits 3689348814741910323).toNat:Int))+(IntKind.u64.wrap ((BitVec.ofInt IntKind.u64.bits (IntKind.u64.wrap ((IntKind.u64.wrap ((BitVec.ofInt IntKind.u64.bits (x.fdiv (2^(min (1:Int).toNat IntKind.u64.bits)))&&&BitVec.ofInt IntKind.u64.bits 6148914691236517205).toNat:Int))+(IntKind.u64.wrap ((BitVec.ofInt IntKind.u64.bits x&&&BitVec.ofInt IntKind.u64.bits 6148914691236517205).toNat:Int))))&&&BitVec.ofInt IntKind.u64.bits 3689348814741910323).toNat:Int)))).fdiv (2^(min (4:Int).toNat IntKind.u64.bits)))+(IntKind.u64.wrap ((IntKind.u64.wrap ((BitVec.ofInt IntKind.u64.bits ((IntKind.u64.wrap ((IntKind.u64.wrap ((BitVec.ofInt IntKind.u64.bits (x.fdiv (2^(min (1:Int).toNat IntKind.u64.bits)))&&&BitVec.ofInt IntKind.u64.bits 6148914691236517205).toNat:Int))+(IntKind.u64.wrap ((BitVec.ofInt IntKind.u64.bits x&&&BitVec.ofInt IntKind.u64.bits 6148914691236517205).toNat:Int)))).fdiv (2^(min (2:Int).toNat IntKind.u64.bits)))&&&BitVec.ofInt IntKind.u64.bits 3689348814741910323).toNat:Int))+(IntKind.u64.wrap ((BitVec.ofInt IntKind.u64.bits (IntKind.u64.wrap ((IntKind.u64.wrap ((BitVec.ofInt IntKind.u64.bits (x.fdiv (2^(min (1:Int).toNat IntKind.u64.bits)))&&&BitVec.ofInt IntKind.u64.bits 6148914691236517205).toNat:Int))+(IntKind.u64.wrap ((BitVec.ofInt IntKind.u64.bits x&&&BitVec.ofInt IntKind.u64.bits 6148914691236517205).toNat:Int))))&&&BitVec.ofInt IntKind.u64.bits 3689348814741910323).toNat:Int))))))&&&BitVec.ofInt IntKind.u64.bits 1085102592571150095).toNat:Int))+((IntKind.u64.wrap ((BitVec.ofInt IntKind.u64.bits (IntKind.u64.wrap (((IntKind.u64.wrap ((IntKind.u64.wrap ((BitVec.ofInt IntKind.u64.bits ((IntKind.u64.wrap ((IntKind.u64.wrap ((BitVec.ofInt IntKind.u64.bits (x.fdiv (2^(min (1:Int).toNat IntKind.u64.bits)))&&&BitVec.ofInt IntKind.u64.bits 6148914691236517205).toNat:Int))+(IntKind.u64.wrap ((BitVec.ofInt IntKind.u64.bits x&&&BitVec.ofInt IntKind.u64.bits 6148914691236517205).toNat:Int)))).fdiv (2^(min (2:Int).toNat IntKind.u64.bits)))&&&BitVec.ofInt IntKind.u64.bits 3689348814741910323).toNat:Int))+(IntKind.u64.wrap ((BitVec.ofInt IntKind.u64.bits (IntKind.u64.wrap ((IntKind.u64.wrap ((BitVec.ofInt IntKind.u64.bits (x.fdiv (2^(min (1:Int).toNat IntKind.u64.bits)))&&&BitVec.ofInt IntKind.u64.bits 6148914691236517205).toNat:Int))+(IntKind.u64.wrap ((BitVec.ofInt IntKind.u64.bits x&&&BitVec.ofInt IntKind.u64.bits 6148914691236517205).toNat:Int))))&&&BitVec.ofInt IntKind.u64.bits 3689348814741910323).toNat:Int)))).fdiv (2^(min (4:Int).toNat IntKind.u64.bits)))+(IntKind.u64.wrap ((IntKind.u64.wrap ((BitVec.ofInt IntKind.u64.bits ((IntKind.u64.wrap ((IntKind.u64.wrap ((BitVec.ofInt IntKind.u64.bits (x.fdiv (2^(min (1:Int).toNat IntKind.u64.bits)))&&&BitVec.ofInt IntKind.u64.bits 6148914691236517205).toNat:Int))+(IntKind.u64.wrap ((BitVec.ofInt IntKind.u64.bits x&&&BitVec.ofInt IntKind.u64.bits 6148914691236517205).toNat:Int)))).fdiv (2^(min (2:Int).toNat IntKind.u64.bits)))&&&BitVec.ofInt IntKind.u64.bits 3689348814741910323).toNat:Int))+(IntKind.u64.wrap ((BitVec.ofInt IntKind.u64.bits (IntKind.u64.wrap ((IntKind.u64.wrap ((BitVec.ofInt IntKind.u64.bits (x.fdiv (2^(min (1:Int).toNat IntKind.u64.bits)))&&&BitVec.ofInt IntKind.u64.bits 6148914691236517205).toNat:Int))+(IntKind.u64.wrap ((BitVec.ofInt IntKind.u64.bits x&&&BitVec.ofInt IntKind.u64.bits 6148914691236517205).toNat:Int))))&&&BitVec.ofInt IntKind.u64.bits 3689348814741910323).toNat:Int))))))&&&BitVec.ofInt IntKind.u64.bits 1085102592571150095).toNat:Int)).fdiv (2^(min (8:Int).toNat IntKind.u64.bits)))))+((IntKind.u64.wrap ((IntKind.u64.wrap ((BitVec.ofInt IntKind.u64.bits (IntKind.u64.wrap (((IntKind.u64.wrap ((IntKind.u64.wrap ((BitVec.ofInt IntKind.u64.bits ((IntKind.u64.wrap ((IntKind.u64.wrap ((BitVec.ofInt IntKind.u64.bits (x.fdiv (2^(min (1:Int).toNat IntKind.u64.bits)))&&&BitVec.ofInt IntKind.u64.bits 6148914691236517205).toNat:Int))+(IntKind.u64.wrap ((BitVec.ofInt IntKind.u64.bits x&&&BitVec.ofInt IntKind.u64.bits 6148914691236517205).toNat:Int)))).fdiv (2^(min (2:Int).toNat IntKind.u64.bits)))&&&BitVec.ofInt IntKind.u64.bits 3689348814741910323).toNat:Int))+(IntKind.u64.wrap ((BitVec.ofInt IntKind.u64.bits (IntKind.u64.wrap ((IntKind.u64.wrap ((BitVec.ofInt IntKind.u64.bits (x.fdiv (2^(min (1:Int).toNat IntKind.u64.bits)))&&&BitVec.ofInt IntKind.u64.bits 6148914691236517205).toNat:Int))+(IntKind.u64.wrap ((BitVec.ofInt IntKind.u64.bits x&&&BitVec.ofInt IntKind.u64.bits 6148914691236517205).toNat:Int))))&&&BitVec.ofInt IntKind.u64.bits 3689348814741910323).toNat:Int)))).fdiv (2^(min (4:Int).toNat IntKind.u64.bits)))+(IntKind.u64.wrap ((IntKind.u64.wrap ((BitVec.ofInt IntKind.u64.bits ((IntKind.u64.wrap ((IntKind.u64.wrap ((BitVec.ofInt IntKind.u64.bits (x.fdiv (2^(min (1:Int).toNat IntKind.u64.bits)))&&&BitVec.ofInt IntKind.u64.bits 6148914691236517205).toNat:Int))+(IntKind.u64.wrap ((BitVec.ofInt IntKind.u64.bits x&&&BitVec.ofInt IntKind.u64.bits 6148914691236517205).toNat:Int)))).fdiv (2^(min (2:Int).toNat IntKind.u64.bits)))&&&BitVec.ofInt IntKind.u64.bits 3689348814741910323).toNat:Int))+(IntKind.u64.wrap ((BitVec.ofInt IntKind.u64.bits (IntKind.u64.wrap ((IntKind.u64.wrap ((BitVec.ofInt IntKind.u64.bits (x.fdiv (2^(min (1:Int).toNat IntKind.u64.bits)))&&&BitVec.ofInt IntKind.u64.bits 6148914691236517205).toNat:Int))+(IntKind.u64.wrap ((BitVec.ofInt IntKind.u64.bits x&&&BitVec.ofInt IntKind.u64.bits 6148914691236517205).toNat:Int))))&&&BitVec.ofInt IntKind.u64.bits 3689348814741910323).toNat:Int))))))&&&BitVec.ofInt IntKind.u64.bits 1085102592571150095).toNat:Int))+((IntKind.u64.wrap ((BitVec.ofInt IntKind.u64.bits (IntKind.u64.wrap (((IntKind.u64.wrap ((IntKind.u64.wrap ((BitVec.ofInt IntKind.u64.bits ((IntKind.u64.wrap ((IntKind.u64.wrap ((BitVec.ofInt IntKind.u64.bits (x.fdiv (2^(min (1:Int).toNat IntKind.u64.bits)))&&&BitVec.ofInt IntKind.u64.bits 6148914691236517205).toNat:Int))+(IntKind.u64.wrap ((BitVec.ofInt IntKind.u64.bits x&&&BitVec.ofInt IntKind.u64.bits 6148914691236517205).toNat:Int)))).fdiv (2^(min (2:Int).toNat IntKind.u64.bits)))&&&BitVec.ofInt IntKind.u64.bits 3689348814741910323).toNat:Int))+(IntKind.u64.wrap ((BitVec.ofInt IntKind.u64.bits (IntKind.u64.wrap ((IntKind.u64.wrap ((BitVec.ofInt IntKind.u64.bits (x.fdiv (2^(min (1:Int).toNat IntKind.u64.bits)))&&&BitVec.ofInt IntKind.u64.bits 6148914691236517205).toNat:Int))+(IntKind.u64.wrap ((BitVec.ofInt IntKind.u64.bits x&&&BitVec.ofInt IntKind.u64.bits 6148914691236517205).toNat:Int))))&&&BitVec.ofInt IntKind.u64.bits 3689348814741910323).toNat:Int)))).fdiv (2^(min (4:Int).toNat IntKind.u64.bits)))+(IntKind.u64.wrap ((IntKind.u64.wrap ((BitVec.ofInt IntKind.u64.bits ((IntKind.u64.wrap ((IntKind.u64.wrap ((BitVec.ofInt IntKind.u64.bits (x.fdiv (2^(min (1:Int).toNat IntKind.u64.bits)))&&&BitVec.ofInt IntKind.u64.bits 6148914691236517205).toNat:Int))+(IntKind.u64.wrap ((BitVec.ofInt IntKind.u64.bits x&&&BitVec.ofInt IntKind.u64.bits 6148914691236517205).toNat:Int)))).fdiv (2^(min (2:Int).toNat IntKind.u64.bits)))&&&BitVec.ofInt IntKind.u64.bits 3689348814741910323).toNat:Int))+(IntKind.u64.wrap ((BitVec.ofInt IntKind.u64.bits (IntKind.u64.wrap ((IntKind.u64.wrap ((BitVec.ofInt IntKind.u64.bits (x.fdiv (2^(min (1:Int).toNat IntKind.u64.bits)))&&&BitVec.ofInt IntKind.u64.bits 6148914691236517205).toNat:Int))+(IntKind.u64.wrap ((BitVec.ofInt IntKind.u64.bits x&&&BitVec.ofInt IntKind.u64.bits 6148914691236517205).toNat:Int))))&&&BitVec.ofInt IntKind.u64.bits 3689348814741910323).toNat:Int))))))&&&BitVec.ofInt IntKind.u64.bits 1085102592571150095).toNat:Int)).fdiv (2^(min (8:Int).toNat IntKind.u64.bits))))).fdiv (2^(min (16:Int).toNat IntKind.u64.bits))))).fdiv (2^(min (32:Int).toNat IntKind.u64.bits))))))&&&BitVec.ofInt IntKind.i64.bits 127).toNat:Int))
theorem a3P (x:Int) (r:Int) (hm:a0l x=some r):d0 Tryz.prog 203 [.v (.int .u64 x)] (fun x=>x=DI r):=by
 refine zn Tryz.func203 rfl ?_
 refine⟨by decide, ?_⟩
 refine⟨by decide, ?_⟩
 refine⟨by decide, ?_⟩
 refine⟨by decide, ?_⟩
 refine⟨by decide, ?_⟩
 refine⟨by decide, ?_⟩
 exact hm.rr
def a1c (x:Int):Option Int:=
 Option.bind (a0l x) fun x1=>
 some x1
theorem a4Y (x:Int) (r:Int) (hm:a1c x=some r):d0 Tryz.prog 169 [.v (.int .u64 x)] (fun x=>x=DI r):=by
 refine zn Tryz.func169 rfl ?_
 refine cy hm (a3P x) fun x1 hm=> ?_
 exact hm.rr
def G3 (m:Int):Option Bool:=
 Option.bind (a1c (IntKind.u64.wrap m)) fun x1=>
 some (decide (x1≥4))
theorem V0 (m:Int) (r:Bool) (hm:G3 m=some r):d0 Tryz.prog 105 [DI m] (fun x=>x=DB r):=by
 refine zn Tryz.func105 rfl ?_
 refine cy hm (a4Y (IntKind.u64.wrap m)) fun x1 hm=> ?_
 exact hm.rr
def P3 (m:Int):Option Bool:=
 Option.bind (e7 m 0 63) fun x1=>
 some x1
theorem a1V (m:Int) (r:Bool) (hm:P3 m=some r):d0 Tryz.prog 123 [DI m] (fun x=>x=DB r):=by
 refine zn Tryz.func123 rfl ?_
 refine cy hm (j1 m 0 63) fun x1 hm=> ?_
 exact hm.rr
def u0 (n:Int):Option Bool:=
 Option.bind (e7 n 6 59999) fun x1=>
 some x1
theorem C6 (n:Int) (r:Bool) (hm:u0 n=some r):d0 Tryz.prog 125 [DI n] (fun x=>x=DB r):=by
 refine zn Tryz.func125 rfl ?_
 refine cy hm (j1 n 6 59999) fun x1 hm=> ?_
 exact hm.rr
def a0b (h:b4):Option Bool:=
 Option.bind (u0 h.Ballot) fun x1=>
 if x1=true then
  Option.bind (o4 h.Night) fun x4=>
  if x4=true then
   Option.bind (i0 h.Value) fun x7=>
   if x7=true then
    if(h.Mask !=0)=true then
     Option.bind (P3 h.Mask) fun x11=>
     some x11
    else
     some false
   else
    some false
  else
   some false
 else
  some false
theorem a6D (h:b4) (r:Bool) (hm:a0b h=some r):d0 Tryz.prog 124 [.agg (b4.c h)] (fun x=>x=DB r):=by
 refine zn Tryz.func124 rfl ?_
 refine cy hm (C6 h.Ballot) fun x1 hm=> ?_
 apply vb hm<;>intro _ hm
 refine cy hm (r7 h.Night) fun x4 hm=> ?_
 apply vb hm<;>intro _ hm
 refine cy hm (j4 h.Value) fun x7 hm=> ?_
 apply vb hm<;>intro _ hm
 apply vb hm<;>intro _ hm
 refine cy hm (a1V h.Mask) fun x11 hm=> ?_
 exact hm.rr
 exact hm.rr
 exact hm.rr
 exact hm.rr
 exact hm.rr
def s5 (n:Int):Option Bool:=
 Option.bind (e7 n 1 99) fun x1=>
 some x1
theorem B9 (n:Int) (r:Bool) (hm:s5 n=some r):d0 Tryz.prog 70 [DI n] (fun x=>x=DB r):=by
 refine zn Tryz.func70 rfl ?_
 refine cy hm (j1 n 1 99) fun x1 hm=> ?_
 exact hm.rr
def d6 (n:Int):Option Bool:=
 Option.bind (e7 n 0 144001439) fun x1=>
 some x1
theorem j6 (n:Int) (r:Bool) (hm:d6 n=some r):d0 Tryz.prog 91 [DI n] (fun x=>x=DB r):=by
 refine zn Tryz.func91 rfl ?_
 refine cy hm (j1 n 0 144001439) fun x1 hm=> ?_
 exact hm.rr
def M9 (from_:Int) (until_:Int):Option Bool:=
 Option.bind (d6 from_) fun x1=>
 if x1=true then
  Option.bind (d6 until_) fun x4=>
  if x4=true then
   some (decide (from_≤until_))
  else
   some false
 else
  some false
theorem Z3 (from_:Int) (until_:Int) (r:Bool) (hm:M9 from_ until_=some r):d0 Tryz.prog 127 [DI from_,DI until_] (fun x=>x=DB r):=by
 refine zn Tryz.func127 rfl ?_
 refine cy hm (j6 from_) fun x1 hm=> ?_
 apply vb hm<;>intro _ hm
 refine cy hm (j6 until_) fun x4 hm=> ?_
 apply vb hm<;>intro _ hm
 exact hm.rr
 exact hm.rr
 exact hm.rr
def Z2 (s:b6):Option Bool:=
 if(s.Ballot==0)=true then
  if(s.Value==0)=true then
   Option.bind (o4 s.Night) fun x3=>
   if x3=true then
    Option.bind (u0 s.Promised) fun x6=>
    if x6=true then
     some true
    else
     some false
   else
    some false
  else
   Option.bind (e7 s.Ballot 6 s.Promised) fun x9=>
   if x9=true then
    Option.bind (i0 s.Value) fun x12=>
    Option.bind (o4 s.Night) fun x14=>
    if x14=true then
     Option.bind (u0 s.Promised) fun x17=>
     if x17=true then
      some x12
     else
      some false
    else
     some false
   else
    Option.bind (o4 s.Night) fun x20=>
    if x20=true then
     Option.bind (u0 s.Promised) fun x23=>
     if x23=true then
      some false
     else
      some false
    else
     some false
 else
  Option.bind (e7 s.Ballot 6 s.Promised) fun x26=>
  if x26=true then
   Option.bind (i0 s.Value) fun x29=>
   Option.bind (o4 s.Night) fun x31=>
   if x31=true then
    Option.bind (u0 s.Promised) fun x34=>
    if x34=true then
     some x29
    else
     some false
   else
    some false
  else
   Option.bind (o4 s.Night) fun x37=>
   if x37=true then
    Option.bind (u0 s.Promised) fun x40=>
    if x40=true then
     some false
    else
     some false
   else
    some false
theorem a9z (s:b6) (r:Bool) (hm:Z2 s=some r):d0 Tryz.prog 130 [.agg (b6.c s)] (fun x=>x=DB r):=by
 refine zn Tryz.func130 rfl ?_
 apply vb hm<;>intro _ hm
 apply vb hm<;>intro _ hm
 refine cy hm (r7 s.Night) fun x3 hm=> ?_
 apply vb hm<;>intro _ hm
 refine cy hm (C6 s.Promised) fun x6 hm=> ?_
 apply vb hm<;>intro _ hm
 exact hm.rr
 exact hm.rr
 exact hm.rr
 refine cy hm (j1 s.Ballot 6 s.Promised) fun x9 hm=> ?_
 apply vb hm<;>intro _ hm
 refine cy hm (j4 s.Value) fun x12 hm=> ?_
 refine cy hm (r7 s.Night) fun x14 hm=> ?_
 apply vb hm<;>intro _ hm
 refine cy hm (C6 s.Promised) fun x17 hm=> ?_
 apply vb hm<;>intro _ hm
 exact hm.rr
 exact hm.rr
 exact hm.rr
 refine cy hm (r7 s.Night) fun x20 hm=> ?_
 apply vb hm<;>intro _ hm
 refine cy hm (C6 s.Promised) fun x23 hm=> ?_
 apply vb hm<;>intro _ hm
 exact hm.rr
 exact hm.rr
 exact hm.rr
 refine cy hm (j1 s.Ballot 6 s.Promised) fun x26 hm=> ?_
 apply vb hm<;>intro _ hm
 refine cy hm (j4 s.Value) fun x29 hm=> ?_
 refine cy hm (r7 s.Night) fun x31 hm=> ?_
 apply vb hm<;>intro _ hm
 refine cy hm (C6 s.Promised) fun x34 hm=> ?_
 apply vb hm<;>intro _ hm
 exact hm.rr
 exact hm.rr
 exact hm.rr
 refine cy hm (r7 s.Night) fun x37 hm=> ?_
 apply vb hm<;>intro _ hm
 refine cy hm (C6 s.Promised) fun x40 hm=> ?_
 apply vb hm<;>intro _ hm
 exact hm.rr
 exact hm.rr
 exact hm.rr
def F0 (a:b6) (b_:b6):Option Int:=
 Option.bind (D0 a.Night b_.Night) fun x1=>
 some x1
theorem U0 (a:b6) (b_:b6) (r:Int) (hm:F0 a b_=some r):d0 Tryz.prog 136 [.agg (b6.c a), .agg (b6.c b_)] (fun x=>x=DI r):=by
 refine zn Tryz.func136 rfl ?_
 refine cy hm (J7 a.Night b_.Night) fun x1 hm=> ?_
 exact hm.rr
def F2 (a:b4) (b_:b4):Option Int:=
 Option.bind (D0 a.Ballot b_.Ballot) fun x1=>
 Option.bind (D0 a.Night b_.Night) fun x3=>
 Option.bind (a0J ([x1,x3]:List Int)) fun x5=>
 some x5
theorem S9 (a:b4) (b_:b4) (r:Int) (hm:F2 a b_=some r):d0 Tryz.prog 139 [.agg (b4.c a), .agg (b4.c b_)] (fun x=>x=DI r):=by
 refine zy c4d [] [] [] Tryz.func139 rfl ?_
 refine⟨rfl, ?_⟩
 refine cy hm (J7 a.Ballot b_.Ballot) fun x1 hm=> ?_
 refine cy hm (J7 a.Night b_.Night) fun x3 hm=> ?_
 refine⟨([x1,x3]:List Int).flatMap cI,([x1,x3]:List Int).length,⟨rfl,rfl⟩, ?_⟩
 refine co hm (a7H (([x1,x3]:List Int))) fun x5 hm=> ?_
 exact hm.rr
def Y3 (a:a7) (b_:a7):Option Bool:=
 some (decide ((if b_.From>a.From then b_.From else a.From)<(if b_.Until<a.Until then b_.Until else a.Until)))
theorem a6n (a:a7) (b_:a7) (r:Bool) (hm:Y3 a b_=some r):d0 Tryz.prog 145 [.agg (a7.c a), .agg (a7.c b_)] (fun x=>x=DB r):=by
 refine zn Tryz.func145 rfl ?_
 exact hm.rr
def D6 (x:b6):Option Bool:=
 Option.bind (Z2 x) fun x1=>
 some (!x1)
theorem U5 (x:b6) (r:Bool) (hm:D6 x=some r):d0 Tryz.prog 172 [.agg (b6.c x), .ptr [.fn 130 [] []] 0] (fun x=>x=DB r):=by
 refine zn Tryz.func172 rfl ?_
 refine cy hm (a9z x) fun x1 hm=> ?_
 exact hm.rr
def n5 (s:(List b6)):Int→Option (Sum Int (Sum Int Int)):=fun v7=>
 if(decide (v7<(s.length:Int)))=true then
  Option.bind (idx s v7) fun e15=>
  Option.bind (D6 e15) fun x17=>
  if x17=true then
   some (.inr (.inr v7))
  else
   some (.inl (W (v7+1)))
 else
  some (.inr (.inl v7))
def n9 (s:(List b6)):Option Int:=
 Option.bind (l5 (n5 s) 0) fun e=>
 match e with
 | .inl v20=>
  some (-1)
 | .inr rr21=>
  some rr21
theorem D2 (s:(List b6)) (r:Int) (hm:n9 s=some r):d0 Tryz.prog 205 [lD 4 s b6.c, .fn 172 [] [.ptr [.fn 130 [] []] 0]] (fun x=>x=DI r):=by
 refine zn Tryz.func205 rfl ?_
 obtain⟨ev22,he,hk23⟩:=a8 hm
 refine q9.ofL (n5 s) (fun v7=>⟨[(0,lD 4 s b6.c),(1, .fn 172 [] [.ptr [.fn 130 [] []] 0]),(4,DI 0),(7,DI (s.length:Int)),(8,DI v7)], [],0⟩) 0 (c5.of 0 rfl (tA rfl) trivial) he ?_
 rintro fu24 v7 b hm hi25
 apply vb hm<;>intro _ hm
 obtain⟨e27,hx28,hm⟩:=a8 hm
 refine⟨_,c8 (fun _=>rfl) hx28, ?_⟩
 refine cy hm (U5 e27) fun x29 hm=> ?_
 apply vb hm<;>intro _ hm
 cases hm
 cases hi25
 have hm:=hk23
 exact hm.rr
 cases hm
 exact⟨(_,(W (v7+1))),c5.of 0 rfl (tA rfl) trivial,hi25,Nat.lt_succ_self _⟩
 cases hm
 cases hi25
 have hm:=hk23
 exact hm.rr
def m8 (s:(List b6)):Option Bool:=
 Option.bind (n9 s) fun x1=>
 some (decide (x1≥0))
theorem B5 (s:(List b6)) (r:Bool) (hm:m8 s=some r):d0 Tryz.prog 171 [lD 4 s b6.c, .fn 172 [] [.ptr [.fn 130 [] []] 0]] (fun x=>x=DB r):=by
 refine zn Tryz.func171 rfl ?_
 refine cy hm (D2 s) fun x1 hm=> ?_
 exact hm.rr
def E2 (l:(List b6)) (most:Int):Option Bool:=
 if(decide ((l.length:Int)≤most))=true then
  Option.bind (m8 l) fun x2=>
  some (!x2)
 else
  some false
theorem W9 (l:(List b6)) (most:Int) (r:Bool) (hm:E2 l most=some r):d0 Tryz.prog 129 [lD 4 l b6.c,DI most, .fn 130 [] []] (fun x=>x=DB r):=by
 refine zn Tryz.func129 rfl ?_
 apply vb hm<;>intro _ hm
 refine co hm (B5 l) fun x2 hm=> ?_
 exact hm.rr
 exact hm.rr
def R4 (b_:c4) (c_0:b5) (c_1:Int):Option Bool:=
 Option.bind (o4 b_.Night) fun x1=>
 if x1=true then
  Option.bind (e7 b_.Ballot 6 (W ((W (6*c_0.Round))+c_1))) fun x4=>
  if x4=true then
   Option.bind (c9 b_.Ballot) fun x7=>
   if(x7==c_1)=true then
    Option.bind (i0 b_.Value) fun x10=>
    if x10=true then
     Option.bind (e7 b_.Best 0 (W (b_.Ballot-1))) fun x13=>
     if x13=true then
      Option.bind (P3 b_.Mask) fun x16=>
      if x16=true then
       Option.bind (G3 b_.Mask) fun x19=>
       some (b_.Asked==x19)
      else
       some false
     else
      some false
    else
     some false
   else
    some false
  else
   some false
 else
  some false
theorem a6A (b_:c4) (c_0:b5) (c_1:Int) (r:Bool) (hm:R4 b_ c_0 c_1=some r):d0 Tryz.prog 122 [.agg (c4.c b_), .ptr (b5.c c_0) 0, .ptr [DI c_1] 0] (fun x=>x=DB r):=by
 refine zy c4m [] [] [] Tryz.func122 rfl ?_
 refine⟨rfl, ?_⟩
 refine cy hm (r7 b_.Night) fun x1 hm=> ?_
 apply vb hm<;>intro _ hm
 refine cy hm (j1 b_.Ballot 6 (W ((W (6*c_0.Round))+c_1))) fun x4 hm=> ?_
 apply vb hm<;>intro _ hm
 refine cy hm (e9 b_.Ballot) fun x7 hm=> ?_
 apply vb hm<;>intro _ hm
 refine cy hm (j4 b_.Value) fun x10 hm=> ?_
 apply vb hm<;>intro _ hm
 refine cy hm (j1 b_.Best 0 (W (b_.Ballot-1))) fun x13 hm=> ?_
 apply vb hm<;>intro _ hm
 refine cy hm (a1V b_.Mask) fun x16 hm=> ?_
 apply vb hm<;>intro _ hm
 refine cy hm (V0 b_.Mask) fun x19 hm=> ?_
 exact hm.rr
 exact hm.rr
 exact hm.rr
 exact hm.rr
 exact hm.rr
 exact hm.rr
 exact hm.rr
def B6 (x:c4) (c_0:b5) (c_1:Int):Option Bool:=
 Option.bind (R4 x c_0 c_1) fun x1=>
 some (!x1)
theorem S6 (x:c4) (c_0:b5) (c_1:Int) (r:Bool) (hm:B6 x c_0 c_1=some r):d0 Tryz.prog 173 [.agg (c4.c x), .ptr [.fn 122 [] [.ptr (b5.c c_0) 0, .ptr [DI c_1] 0]] 0] (fun x=>x=DB r):=by
 refine zn Tryz.func173 rfl ?_
 refine cy hm (a6A x c_0 c_1) fun x1 hm=> ?_
 exact hm.rr
def n6 (s:(List c4)) (c1_0:b5) (c1_1:Int):Int→Option (Sum Int (Sum Int Int)):=fun v7=>
 if(decide (v7<(s.length:Int)))=true then
  Option.bind (idx s v7) fun e15=>
  Option.bind (B6 e15 c1_0 c1_1) fun x17=>
  if x17=true then
   some (.inr (.inr v7))
  else
   some (.inl (W (v7+1)))
 else
  some (.inr (.inl v7))
def o0 (s:(List c4)) (c1_0:b5) (c1_1:Int):Option Int:=
 Option.bind (l5 (n6 s c1_0 c1_1) 0) fun e=>
 match e with
 | .inl v20=>
  some (-1)
 | .inr rr21=>
  some rr21
theorem C9 (s:(List c4)) (c1_0:b5) (c1_1:Int) (r:Int) (hm:o0 s c1_0 c1_1=some r):d0 Tryz.prog 178 [lD 6 s c4.c, .fn 173 [] [.ptr [.fn 122 [] [.ptr (b5.c c1_0) 0, .ptr [DI c1_1] 0]] 0]] (fun x=>x=DI r):=by
 refine zn Tryz.func178 rfl ?_
 obtain⟨ev22,he,hk23⟩:=a8 hm
 refine q9.ofL (n6 s c1_0 c1_1) (fun v7=>⟨[(0,lD 6 s c4.c),(1, .fn 173 [] [.ptr [.fn 122 [] [.ptr (b5.c c1_0) 0, .ptr [DI c1_1] 0]] 0]),(4,DI 0),(7,DI (s.length:Int)),(8,DI v7)], [],0⟩) 0 (c5.of 0 rfl (tA rfl) trivial) he ?_
 rintro fu24 v7 b hm hi25
 apply vb hm<;>intro _ hm
 obtain⟨e27,hx28,hm⟩:=a8 hm
 refine⟨_,c8 (fun _=>rfl) hx28, ?_⟩
 refine cy hm (S6 e27 c1_0 c1_1) fun x29 hm=> ?_
 apply vb hm<;>intro _ hm
 cases hm
 cases hi25
 have hm:=hk23
 exact hm.rr
 cases hm
 exact⟨(_,(W (v7+1))),c5.of 0 rfl (tA rfl) trivial,hi25,Nat.lt_succ_self _⟩
 cases hm
 cases hi25
 have hm:=hk23
 exact hm.rr
def m7 (s:(List c4)) (c1_0:b5) (c1_1:Int):Option Bool:=
 Option.bind (o0 s c1_0 c1_1) fun x1=>
 some (decide (x1≥0))
theorem B3 (s:(List c4)) (c1_0:b5) (c1_1:Int) (r:Bool) (hm:m7 s c1_0 c1_1=some r):d0 Tryz.prog 141 [lD 6 s c4.c, .fn 173 [] [.ptr [.fn 122 [] [.ptr (b5.c c1_0) 0, .ptr [DI c1_1] 0]] 0]] (fun x=>x=DB r):=by
 refine zn Tryz.func141 rfl ?_
 refine cy hm (C9 s c1_0 c1_1) fun x1 hm=> ?_
 exact hm.rr
def D5 (l:(List c4)) (most:Int) (c2_0:b5) (c2_1:Int):Option Bool:=
 if(decide ((l.length:Int)≤most))=true then
  Option.bind (m7 l c2_0 c2_1) fun x2=>
  some (!x2)
 else
  some false
theorem U4 (l:(List c4)) (most:Int) (c2_0:b5) (c2_1:Int) (r:Bool) (hm:D5 l most c2_0 c2_1=some r):d0 Tryz.prog 131 [lD 6 l c4.c,DI most, .fn 122 [] [.ptr (b5.c c2_0) 0, .ptr [DI c2_1] 0]] (fun x=>x=DB r):=by
 refine zn Tryz.func131 rfl ?_
 apply vb hm<;>intro _ hm
 refine co hm (B3 l c2_0 c2_1) fun x2 hm=> ?_
 exact hm.rr
 exact hm.rr
def y9 (x:b4):Option Bool:=
 Option.bind (a0b x) fun x1=>
 some (!x1)
theorem Q4 (x:b4) (r:Bool) (hm:y9 x=some r):d0 Tryz.prog 175 [.agg (b4.c x), .ptr [.fn 124 [] []] 0] (fun x=>x=DB r):=by
 refine zn Tryz.func175 rfl ?_
 refine cy hm (a6D x) fun x1 hm=> ?_
 exact hm.rr
def j9 (s:(List b4)):Int→Option (Sum Int (Sum Int Int)):=fun v7=>
 if(decide (v7<(s.length:Int)))=true then
  Option.bind (idx s v7) fun e15=>
  Option.bind (y9 e15) fun x17=>
  if x17=true then
   some (.inr (.inr v7))
  else
   some (.inl (W (v7+1)))
 else
  some (.inr (.inl v7))
def l7 (s:(List b4)):Option Int:=
 Option.bind (l5 (j9 s) 0) fun e=>
 match e with
 | .inl v20=>
  some (-1)
 | .inr rr21=>
  some rr21
theorem A0 (s:(List b4)) (r:Int) (hm:l7 s=some r):d0 Tryz.prog 206 [lD 4 s b4.c, .fn 175 [] [.ptr [.fn 124 [] []] 0]] (fun x=>x=DI r):=by
 refine zn Tryz.func206 rfl ?_
 obtain⟨ev22,he,hk23⟩:=a8 hm
 refine q9.ofL (j9 s) (fun v7=>⟨[(0,lD 4 s b4.c),(1, .fn 175 [] [.ptr [.fn 124 [] []] 0]),(4,DI 0),(7,DI (s.length:Int)),(8,DI v7)], [],0⟩) 0 (c5.of 0 rfl (tA rfl) trivial) he ?_
 rintro fu24 v7 b hm hi25
 apply vb hm<;>intro _ hm
 obtain⟨e27,hx28,hm⟩:=a8 hm
 refine⟨_,c8 (fun _=>rfl) hx28, ?_⟩
 refine cy hm (Q4 e27) fun x29 hm=> ?_
 apply vb hm<;>intro _ hm
 cases hm
 cases hi25
 have hm:=hk23
 exact hm.rr
 cases hm
 exact⟨(_,(W (v7+1))),c5.of 0 rfl (tA rfl) trivial,hi25,Nat.lt_succ_self _⟩
 cases hm
 cases hi25
 have hm:=hk23
 exact hm.rr
def l4 (s:(List b4)):Option Bool:=
 Option.bind (l7 s) fun x1=>
 some (decide (x1≥0))
theorem w7 (s:(List b4)) (r:Bool) (hm:l4 s=some r):d0 Tryz.prog 174 [lD 4 s b4.c, .fn 175 [] [.ptr [.fn 124 [] []] 0]] (fun x=>x=DB r):=by
 refine zn Tryz.func174 rfl ?_
 refine cy hm (A0 s) fun x1 hm=> ?_
 exact hm.rr
def B2 (l:(List b4)) (most:Int):Option Bool:=
 if(decide ((l.length:Int)≤most))=true then
  Option.bind (l4 l) fun x2=>
  some (!x2)
 else
  some false
theorem S0 (l:(List b4)) (most:Int) (r:Bool) (hm:B2 l most=some r):d0 Tryz.prog 132 [lD 4 l b4.c,DI most, .fn 124 [] []] (fun x=>x=DB r):=by
 refine zn Tryz.func132 rfl ?_
 apply vb hm<;>intro _ hm
 refine co hm (w7 l) fun x2 hm=> ?_
 exact hm.rr
 exact hm.rr
def R7 (l:a7) (c_0:Int):Option Bool:=
 Option.bind (s5 l.Thing) fun x1=>
 if x1=true then
  Option.bind (c9 l.Thing) fun x4=>
  if(x4==c_0)=true then
   Option.bind (s9 l.To) fun x7=>
   if x7=true then
    if(l.To !=c_0)=true then
     Option.bind (M9 l.From l.Until) fun x11=>
     some x11
    else
     some false
   else
    some false
  else
   some false
 else
  some false
theorem a6Z (l:a7) (c_0:Int) (r:Bool) (hm:R7 l c_0=some r):d0 Tryz.prog 126 [.agg (a7.c l), .ptr [DI c_0] 0] (fun x=>x=DB r):=by
 refine zy c3W [] [] [] Tryz.func126 rfl ?_
 refine⟨rfl, ?_⟩
 refine cy hm (B9 l.Thing) fun x1 hm=> ?_
 apply vb hm<;>intro _ hm
 refine cy hm (e9 l.Thing) fun x4 hm=> ?_
 apply vb hm<;>intro _ hm
 refine cy hm (B8 l.To) fun x7 hm=> ?_
 apply vb hm<;>intro _ hm
 apply vb hm<;>intro _ hm
 refine cy hm (Z3 l.From l.Until) fun x11 hm=> ?_
 exact hm.rr
 exact hm.rr
 exact hm.rr
 exact hm.rr
 exact hm.rr
def z6 (x:a7) (c_0:Int):Option Bool:=
 Option.bind (R7 x c_0) fun x1=>
 some (!x1)
theorem Q3 (x:a7) (c_0:Int) (r:Bool) (hm:z6 x c_0=some r):d0 Tryz.prog 176 [.agg (a7.c x), .ptr [.fn 126 [] [.ptr [DI c_0] 0]] 0] (fun x=>x=DB r):=by
 refine zn Tryz.func176 rfl ?_
 refine cy hm (a6Z x c_0) fun x1 hm=> ?_
 exact hm.rr
def k6 (s:(List a7)) (c1_0:Int):Int→Option (Sum Int (Sum Int Int)):=fun v7=>
 if(decide (v7<(s.length:Int)))=true then
  Option.bind (idx s v7) fun e15=>
  Option.bind (z6 e15 c1_0) fun x17=>
  if x17=true then
   some (.inr (.inr v7))
  else
   some (.inl (W (v7+1)))
 else
  some (.inr (.inl v7))
def l6 (s:(List a7)) (c1_0:Int):Option Int:=
 Option.bind (l5 (k6 s c1_0) 0) fun e=>
 match e with
 | .inl v20=>
  some (-1)
 | .inr rr21=>
  some rr21
theorem A1 (s:(List a7)) (c1_0:Int) (r:Int) (hm:l6 s c1_0=some r):d0 Tryz.prog 179 [lD 5 s a7.c, .fn 176 [] [.ptr [.fn 126 [] [.ptr [DI c1_0] 0]] 0]] (fun x=>x=DI r):=by
 refine zn Tryz.func179 rfl ?_
 obtain⟨ev22,he,hk23⟩:=a8 hm
 refine q9.ofL (k6 s c1_0) (fun v7=>⟨[(0,lD 5 s a7.c),(1, .fn 176 [] [.ptr [.fn 126 [] [.ptr [DI c1_0] 0]] 0]),(4,DI 0),(7,DI (s.length:Int)),(8,DI v7)], [],0⟩) 0 (c5.of 0 rfl (tA rfl) trivial) he ?_
 rintro fu24 v7 b hm hi25
 apply vb hm<;>intro _ hm
 obtain⟨e27,hx28,hm⟩:=a8 hm
 refine⟨_,c8 (fun _=>rfl) hx28, ?_⟩
 refine cy hm (Q3 e27 c1_0) fun x29 hm=> ?_
 apply vb hm<;>intro _ hm
 cases hm
 cases hi25
 have hm:=hk23
 exact hm.rr
 cases hm
 exact⟨(_,(W (v7+1))),c5.of 0 rfl (tA rfl) trivial,hi25,Nat.lt_succ_self _⟩
 cases hm
 cases hi25
 have hm:=hk23
 exact hm.rr
def k5 (s:(List a7)) (c1_0:Int):Option Bool:=
 Option.bind (l6 s c1_0) fun x1=>
 some (decide (x1≥0))
theorem w8 (s:(List a7)) (c1_0:Int) (r:Bool) (hm:k5 s c1_0=some r):d0 Tryz.prog 143 [lD 5 s a7.c, .fn 176 [] [.ptr [.fn 126 [] [.ptr [DI c1_0] 0]] 0]] (fun x=>x=DB r):=by
 refine zn Tryz.func143 rfl ?_
 refine cy hm (A1 s c1_0) fun x1 hm=> ?_
 exact hm.rr
def B1 (l:(List a7)) (most:Int) (c2_0:Int):Option Bool:=
 if(decide ((l.length:Int)≤most))=true then
  Option.bind (k5 l c2_0) fun x2=>
  some (!x2)
 else
  some false
theorem S3 (l:(List a7)) (most:Int) (c2_0:Int) (r:Bool) (hm:B1 l most c2_0=some r):d0 Tryz.prog 133 [lD 5 l a7.c,DI most, .fn 126 [] [.ptr [DI c2_0] 0]] (fun x=>x=DB r):=by
 refine zn Tryz.func133 rfl ?_
 apply vb hm<;>intro _ hm
 refine co hm (w8 l c2_0) fun x2 hm=> ?_
 exact hm.rr
 exact hm.rr
def R2 (l:b9) (c_0:Int):Option Bool:=
 Option.bind (s9 l.Owner) fun x1=>
 if x1=true then
  if(l.Owner !=c_0)=true then
   Option.bind (e7 l.No 1 40) fun x5=>
   if x5=true then
    Option.bind (s5 l.Thing) fun x8=>
    if x8=true then
     Option.bind (c9 l.Thing) fun x11=>
     if(x11==l.Owner)=true then
      Option.bind (M9 l.From l.Until) fun x14=>
      some x14
     else
      some false
    else
     some false
   else
    some false
  else
   some false
 else
  some false
theorem a6Y (l:b9) (c_0:Int) (r:Bool) (hm:R2 l c_0=some r):d0 Tryz.prog 128 [.agg (b9.c l), .ptr [DI c_0] 0] (fun x=>x=DB r):=by
 refine zy c4y [] [] [] Tryz.func128 rfl ?_
 refine⟨rfl, ?_⟩
 refine cy hm (B8 l.Owner) fun x1 hm=> ?_
 apply vb hm<;>intro _ hm
 apply vb hm<;>intro _ hm
 refine cy hm (j1 l.No 1 40) fun x5 hm=> ?_
 apply vb hm<;>intro _ hm
 refine cy hm (B9 l.Thing) fun x8 hm=> ?_
 apply vb hm<;>intro _ hm
 refine cy hm (e9 l.Thing) fun x11 hm=> ?_
 apply vb hm<;>intro _ hm
 refine cy hm (Z3 l.From l.Until) fun x14 hm=> ?_
 exact hm.rr
 exact hm.rr
 exact hm.rr
 exact hm.rr
 exact hm.rr
 exact hm.rr
def A2 (x:b9) (c_0:Int):Option Bool:=
 Option.bind (R2 x c_0) fun x1=>
 some (!x1)
theorem R6 (x:b9) (c_0:Int) (r:Bool) (hm:A2 x c_0=some r):d0 Tryz.prog 177 [.agg (b9.c x), .ptr [.fn 128 [] [.ptr [DI c_0] 0]] 0] (fun x=>x=DB r):=by
 refine zn Tryz.func177 rfl ?_
 refine cy hm (a6Y x c_0) fun x1 hm=> ?_
 exact hm.rr
def l9 (s:(List b9)) (c1_0:Int):Int→Option (Sum Int (Sum Int Int)):=fun v7=>
 if(decide (v7<(s.length:Int)))=true then
  Option.bind (idx s v7) fun e15=>
  Option.bind (A2 e15 c1_0) fun x17=>
  if x17=true then
   some (.inr (.inr v7))
  else
   some (.inl (W (v7+1)))
 else
  some (.inr (.inl v7))
def m9 (s:(List b9)) (c1_0:Int):Option Int:=
 Option.bind (l5 (l9 s c1_0) 0) fun e=>
 match e with
 | .inl v20=>
  some (-1)
 | .inr rr21=>
  some rr21
theorem B7 (s:(List b9)) (c1_0:Int) (r:Int) (hm:m9 s c1_0=some r):d0 Tryz.prog 190 [lD 6 s b9.c, .fn 177 [] [.ptr [.fn 128 [] [.ptr [DI c1_0] 0]] 0]] (fun x=>x=DI r):=by
 refine zn Tryz.func190 rfl ?_
 obtain⟨ev22,he,hk23⟩:=a8 hm
 refine q9.ofL (l9 s c1_0) (fun v7=>⟨[(0,lD 6 s b9.c),(1, .fn 177 [] [.ptr [.fn 128 [] [.ptr [DI c1_0] 0]] 0]),(4,DI 0),(7,DI (s.length:Int)),(8,DI v7)], [],0⟩) 0 (c5.of 0 rfl (tA rfl) trivial) he ?_
 rintro fu24 v7 b hm hi25
 apply vb hm<;>intro _ hm
 obtain⟨e27,hx28,hm⟩:=a8 hm
 refine⟨_,c8 (fun _=>rfl) hx28, ?_⟩
 refine cy hm (R6 e27 c1_0) fun x29 hm=> ?_
 apply vb hm<;>intro _ hm
 cases hm
 cases hi25
 have hm:=hk23
 exact hm.rr
 cases hm
 exact⟨(_,(W (v7+1))),c5.of 0 rfl (tA rfl) trivial,hi25,Nat.lt_succ_self _⟩
 cases hm
 cases hi25
 have hm:=hk23
 exact hm.rr
def l8 (s:(List b9)) (c1_0:Int):Option Bool:=
 Option.bind (m9 s c1_0) fun x1=>
 some (decide (x1≥0))
theorem z7 (s:(List b9)) (c1_0:Int) (r:Bool) (hm:l8 s c1_0=some r):d0 Tryz.prog 165 [lD 6 s b9.c, .fn 177 [] [.ptr [.fn 128 [] [.ptr [DI c1_0] 0]] 0]] (fun x=>x=DB r):=by
 refine zn Tryz.func165 rfl ?_
 refine cy hm (B7 s c1_0) fun x1 hm=> ?_
 exact hm.rr
def C5 (l:(List b9)) (most:Int) (c2_0:Int):Option Bool:=
 if(decide ((l.length:Int)≤most))=true then
  Option.bind (l8 l c2_0) fun x2=>
  some (!x2)
 else
  some false
theorem U1 (l:(List b9)) (most:Int) (c2_0:Int) (r:Bool) (hm:C5 l most c2_0=some r):d0 Tryz.prog 134 [lD 6 l b9.c,DI most, .fn 128 [] [.ptr [DI c2_0] 0]] (fun x=>x=DB r):=by
 refine zn Tryz.func134 rfl ?_
 apply vb hm<;>intro _ hm
 refine co hm (z7 l c2_0) fun x2 hm=> ?_
 exact hm.rr
 exact hm.rr
def E6 (l:(List b6)):Int→Option (Sum Int (Sum Int Bool)):=fun i9=>
 if(decide (i9<(l.length:Int)))=true then
  Option.bind (idx l (W (i9-1))) fun e19=>
  Option.bind (idx l i9) fun e21=>
  Option.bind (F0 e19 e21) fun x23=>
  if(decide (x23≥0))=true then
   some (.inr (.inr false))
  else
   some (.inl (W (i9+1)))
 else
  some (.inr (.inl i9))
def y6 (l:(List b6)):Option Bool:=
 Option.bind (l5 (E6 l) 1) fun e=>
 match e with
 | .inl i26=>
  some true
 | .inr rr27=>
  some rr27
theorem P7 (l:(List b6)) (r:Bool) (hm:y6 l=some r):d0 Tryz.prog 135 [lD 4 l b6.c, .fn 136 [] []] (fun x=>x=DB r):=by
 refine zy c3h [] [] [] Tryz.func135 rfl ?_
 obtain⟨ev28,he,hk29⟩:=a8 hm
 refine q9.ofL (E6 l) (fun i9=>⟨[(0,lD 4 l b6.c),(1, .fn 136 [] []),(4,DB false),(5,DI i9)], [],0⟩) 1 (c5.of 0 rfl (tA rfl) trivial) he ?_
 rintro fu30 i9 b hm hi31
 apply vb hm<;>intro _ hm
 refine⟨rfl, ?_⟩
 obtain⟨e33,hx34,hm⟩:=a8 hm
 refine⟨_,c8 (fun _=>rfl) hx34, ?_⟩
 obtain⟨e35,hx36,hm⟩:=a8 hm
 refine⟨_,c8 (fun _=>rfl) hx36, ?_⟩
 refine cy hm (U0 e33 e35) fun x37 hm=> ?_
 apply vb hm<;>intro _ hm
 cases hm
 cases hi31
 have hm:=hk29
 exact hm.rr
 cases hm
 exact⟨(_,(W (i9+1))),c5.of 0 rfl (tA rfl) trivial,hi31,Nat.lt_succ_self _⟩
 cases hm
 cases hi31
 have hm:=hk29
 exact hm.rr
def F5 (l:(List c4)):Int→Option (Sum Int (Sum Int Bool)):=fun i9=>
 if(decide (i9<(l.length:Int)))=true then
  Option.bind (idx l (W (i9-1))) fun e19=>
  Option.bind (idx l i9) fun e21=>
  Option.bind (G7 e19 e21) fun x23=>
  if(decide (x23≥0))=true then
   some (.inr (.inr false))
  else
   some (.inl (W (i9+1)))
 else
  some (.inr (.inl i9))
def A4 (l:(List c4)):Option Bool:=
 Option.bind (l5 (F5 l) 1) fun e=>
 match e with
 | .inl i26=>
  some true
 | .inr rr27=>
  some rr27
theorem R3 (l:(List c4)) (r:Bool) (hm:A4 l=some r):d0 Tryz.prog 137 [lD 6 l c4.c, .fn 89 [] []] (fun x=>x=DB r):=by
 refine zy c4i [] [] [] Tryz.func137 rfl ?_
 obtain⟨ev28,he,hk29⟩:=a8 hm
 refine q9.ofL (F5 l) (fun i9=>⟨[(0,lD 6 l c4.c),(1, .fn 89 [] []),(4,DB false),(5,DI i9)], [],0⟩) 1 (c5.of 0 rfl (tA rfl) trivial) he ?_
 rintro fu30 i9 b hm hi31
 apply vb hm<;>intro _ hm
 refine⟨rfl, ?_⟩
 obtain⟨e33,hx34,hm⟩:=a8 hm
 refine⟨_,c8 (fun _=>rfl) hx34, ?_⟩
 obtain⟨e35,hx36,hm⟩:=a8 hm
 refine⟨_,c8 (fun _=>rfl) hx36, ?_⟩
 refine cy hm (V8 e33 e35) fun x37 hm=> ?_
 apply vb hm<;>intro _ hm
 cases hm
 cases hi31
 have hm:=hk29
 exact hm.rr
 cases hm
 exact⟨(_,(W (i9+1))),c5.of 0 rfl (tA rfl) trivial,hi31,Nat.lt_succ_self _⟩
 cases hm
 cases hi31
 have hm:=hk29
 exact hm.rr
def E4 (l:(List b4)):Int→Option (Sum Int (Sum Int Bool)):=fun i9=>
 if(decide (i9<(l.length:Int)))=true then
  Option.bind (idx l (W (i9-1))) fun e19=>
  Option.bind (idx l i9) fun e21=>
  Option.bind (F2 e19 e21) fun x23=>
  if(decide (x23≥0))=true then
   some (.inr (.inr false))
  else
   some (.inl (W (i9+1)))
 else
  some (.inr (.inl i9))
def w3 (l:(List b4)):Option Bool:=
 Option.bind (l5 (E4 l) 1) fun e=>
 match e with
 | .inl i26=>
  some true
 | .inr rr27=>
  some rr27
theorem P1 (l:(List b4)) (r:Bool) (hm:w3 l=some r):d0 Tryz.prog 138 [lD 4 l b4.c, .fn 139 [] []] (fun x=>x=DB r):=by
 refine zy c3E [] [] [] Tryz.func138 rfl ?_
 obtain⟨ev28,he,hk29⟩:=a8 hm
 refine q9.ofL (E4 l) (fun i9=>⟨[(0,lD 4 l b4.c),(1, .fn 139 [] []),(4,DB false),(5,DI i9)], [],0⟩) 1 (c5.of 0 rfl (tA rfl) trivial) he ?_
 rintro fu30 i9 b hm hi31
 apply vb hm<;>intro _ hm
 refine⟨rfl, ?_⟩
 obtain⟨e33,hx34,hm⟩:=a8 hm
 refine⟨_,c8 (fun _=>rfl) hx34, ?_⟩
 obtain⟨e35,hx36,hm⟩:=a8 hm
 refine⟨_,c8 (fun _=>rfl) hx36, ?_⟩
 refine cy hm (S9 e33 e35) fun x37 hm=> ?_
 apply vb hm<;>intro _ hm
 cases hm
 cases hi31
 have hm:=hk29
 exact hm.rr
 cases hm
 exact⟨(_,(W (i9+1))),c5.of 0 rfl (tA rfl) trivial,hi31,Nat.lt_succ_self _⟩
 cases hm
 cases hi31
 have hm:=hk29
 exact hm.rr
def E7 (l:(List b9)):Int→Option (Sum Int (Sum Int Bool)):=fun i9=>
 if(decide (i9<(l.length:Int)))=true then
  Option.bind (idx l (W (i9-1))) fun e19=>
  Option.bind (idx l i9) fun e21=>
  Option.bind (F1 e19 e21) fun x23=>
  if(decide (x23≥0))=true then
   some (.inr (.inr false))
  else
   some (.inl (W (i9+1)))
 else
  some (.inr (.inl i9))
def w9 (l:(List b9)):Option Bool:=
 Option.bind (l5 (E7 l) 1) fun e=>
 match e with
 | .inl i26=>
  some true
 | .inr rr27=>
  some rr27
theorem P8 (l:(List b9)) (r:Bool) (hm:w9 l=some r):d0 Tryz.prog 140 [lD 6 l b9.c, .fn 95 [] []] (fun x=>x=DB r):=by
 refine zy c4l [] [] [] Tryz.func140 rfl ?_
 obtain⟨ev28,he,hk29⟩:=a8 hm
 refine q9.ofL (E7 l) (fun i9=>⟨[(0,lD 6 l b9.c),(1, .fn 95 [] []),(4,DB false),(5,DI i9)], [],0⟩) 1 (c5.of 0 rfl (tA rfl) trivial) he ?_
 rintro fu30 i9 b hm hi31
 apply vb hm<;>intro _ hm
 refine⟨rfl, ?_⟩
 obtain⟨e33,hx34,hm⟩:=a8 hm
 refine⟨_,c8 (fun _=>rfl) hx34, ?_⟩
 obtain⟨e35,hx36,hm⟩:=a8 hm
 refine⟨_,c8 (fun _=>rfl) hx36, ?_⟩
 refine cy hm (T0 e33 e35) fun x37 hm=> ?_
 apply vb hm<;>intro _ hm
 cases hm
 cases hi31
 have hm:=hk29
 exact hm.rr
 cases hm
 exact⟨(_,(W (i9+1))),c5.of 0 rfl (tA rfl) trivial,hi31,Nat.lt_succ_self _⟩
 cases hm
 cases hi31
 have hm:=hk29
 exact hm.rr
def Z8 (c:c4) (c_0:c4):Option Bool:=
 some (c.Ballot==c_0.Ballot)
theorem a6S (c:c4) (c_0:c4) (r:Bool) (hm:Z8 c c_0=some r):d0 Tryz.prog 142 [.agg (c4.c c), .ptr (c4.c c_0) 0] (fun x=>x=DB r):=by
 refine zn Tryz.func142 rfl ?_
 exact hm.rr
def A7 (s:(List c4)) (c1_0:c4):Int→Option (Sum Int (Sum Int Int)):=fun v7=>
 if(decide (v7<(s.length:Int)))=true then
  Option.bind (idx s v7) fun e15=>
  Option.bind (Z8 e15 c1_0) fun x17=>
  if x17=true then
   some (.inr (.inr v7))
  else
   some (.inl (W (v7+1)))
 else
  some (.inr (.inl v7))
def C8 (s:(List c4)) (c1_0:c4):Option Int:=
 Option.bind (l5 (A7 s c1_0) 0) fun e=>
 match e with
 | .inl v20=>
  some (-1)
 | .inr rr21=>
  some rr21
theorem K5 (s:(List c4)) (c1_0:c4) (r:Int) (hm:C8 s c1_0=some r):d0 Tryz.prog 178 [lD 6 s c4.c, .fn 142 [] [.ptr (c4.c c1_0) 0]] (fun x=>x=DI r):=by
 refine zn Tryz.func178 rfl ?_
 obtain⟨ev22,he,hk23⟩:=a8 hm
 refine q9.ofL (A7 s c1_0) (fun v7=>⟨[(0,lD 6 s c4.c),(1, .fn 142 [] [.ptr (c4.c c1_0) 0]),(4,DI 0),(7,DI (s.length:Int)),(8,DI v7)], [],0⟩) 0 (c5.of 0 rfl (tA rfl) trivial) he ?_
 rintro fu24 v7 b hm hi25
 apply vb hm<;>intro _ hm
 obtain⟨e27,hx28,hm⟩:=a8 hm
 refine⟨_,c8 (fun _=>rfl) hx28, ?_⟩
 refine cy hm (a6S e27 c1_0) fun x29 hm=> ?_
 apply vb hm<;>intro _ hm
 cases hm
 cases hi25
 have hm:=hk23
 exact hm.rr
 cases hm
 exact⟨(_,(W (v7+1))),c5.of 0 rfl (tA rfl) trivial,hi25,Nat.lt_succ_self _⟩
 cases hm
 cases hi25
 have hm:=hk23
 exact hm.rr
def A8 (s:(List c4)) (c1_0:c4):Option Bool:=
 Option.bind (C8 s c1_0) fun x1=>
 some (decide (x1≥0))
theorem J4 (s:(List c4)) (c1_0:c4) (r:Bool) (hm:A8 s c1_0=some r):d0 Tryz.prog 141 [lD 6 s c4.c, .fn 142 [] [.ptr (c4.c c1_0) 0]] (fun x=>x=DB r):=by
 refine zn Tryz.func141 rfl ?_
 refine cy hm (K5 s c1_0) fun x1 hm=> ?_
 exact hm.rr
def a0a (o:a7) (c_0:a7):Option Bool:=
 if(o.Thing==c_0.Thing)=true then
  Option.bind (Y3 o c_0) fun x2=>
  some x2
 else
  some false
theorem a6M (o:a7) (c_0:a7) (r:Bool) (hm:a0a o c_0=some r):d0 Tryz.prog 144 [.agg (a7.c o), .ptr (a7.c c_0) 0] (fun x=>x=DB r):=by
 refine zn Tryz.func144 rfl ?_
 apply vb hm<;>intro _ hm
 refine cy hm (a6n o c_0) fun x2 hm=> ?_
 exact hm.rr
 exact hm.rr
def w4 (s:(List a7)) (c1_0:a7):Int→Option (Sum Int (Sum Int Int)):=fun v7=>
 if(decide (v7<(s.length:Int)))=true then
  Option.bind (idx s v7) fun e15=>
  Option.bind (a0a e15 c1_0) fun x17=>
  if x17=true then
   some (.inr (.inr v7))
  else
   some (.inl (W (v7+1)))
 else
  some (.inr (.inl v7))
def z8 (s:(List a7)) (c1_0:a7):Option Int:=
 Option.bind (l5 (w4 s c1_0) 0) fun e=>
 match e with
 | .inl v20=>
  some (-1)
 | .inr rr21=>
  some rr21
theorem I8 (s:(List a7)) (c1_0:a7) (r:Int) (hm:z8 s c1_0=some r):d0 Tryz.prog 179 [lD 5 s a7.c, .fn 144 [] [.ptr (a7.c c1_0) 0]] (fun x=>x=DI r):=by
 refine zn Tryz.func179 rfl ?_
 obtain⟨ev22,he,hk23⟩:=a8 hm
 refine q9.ofL (w4 s c1_0) (fun v7=>⟨[(0,lD 5 s a7.c),(1, .fn 144 [] [.ptr (a7.c c1_0) 0]),(4,DI 0),(7,DI (s.length:Int)),(8,DI v7)], [],0⟩) 0 (c5.of 0 rfl (tA rfl) trivial) he ?_
 rintro fu24 v7 b hm hi25
 apply vb hm<;>intro _ hm
 obtain⟨e27,hx28,hm⟩:=a8 hm
 refine⟨_,c8 (fun _=>rfl) hx28, ?_⟩
 refine cy hm (a6M e27 c1_0) fun x29 hm=> ?_
 apply vb hm<;>intro _ hm
 cases hm
 cases hi25
 have hm:=hk23
 exact hm.rr
 cases hm
 exact⟨(_,(W (v7+1))),c5.of 0 rfl (tA rfl) trivial,hi25,Nat.lt_succ_self _⟩
 cases hm
 cases hi25
 have hm:=hk23
 exact hm.rr
def w6 (s:(List a7)) (c1_0:a7):Option Bool:=
 Option.bind (z8 s c1_0) fun x1=>
 some (decide (x1≥0))
theorem I1 (s:(List a7)) (c1_0:a7) (r:Bool) (hm:w6 s c1_0=some r):d0 Tryz.prog 143 [lD 5 s a7.c, .fn 144 [] [.ptr (a7.c c1_0) 0]] (fun x=>x=DB r):=by
 refine zn Tryz.func143 rfl ?_
 refine cy hm (I8 s c1_0) fun x1 hm=> ?_
 exact hm.rr
def J9 (s:b5):Int→Option (Sum Int (Sum Int Bool)):=fun v41=>
 if(decide (v41<(s.Bids.length:Int)))=true then
  Option.bind (idx s.Bids v41) fun e50=>
  gd ((0≤v41∧v41≤(s.Bids.length:Int)))<|
  Option.bind (some (sub s.Bids 0 (v41).toNat)) fun sl52=>
  Option.bind (A8 sl52 e50) fun x53=>
  if x53=true then
   some (.inr (.inr false))
  else
   some (.inl (W (v41+1)))
 else
  some (.inr (.inl v41))
def K1 (s:b5):Int→Option (Sum Int (Sum Int Bool)):=fun v65=>
 if(decide (v65<(s.Leases.length:Int)))=true then
  Option.bind (idx s.Leases v65) fun e75=>
  if(e75.No !=(W (v65+1)))=true then
   some (.inr (.inr false))
  else
   gd ((0≤v65∧v65≤(s.Leases.length:Int)))<|
   Option.bind (some (sub s.Leases 0 (v65).toNat)) fun sl78=>
   Option.bind (w6 sl78 e75) fun x79=>
   if x79=true then
    some (.inr (.inr false))
   else
    some (.inl (W (v65+1)))
 else
  some (.inr (.inl v65))
def L1 (me:Int) (s:b5):Option Bool:=
 Option.bind (s9 me) fun x1=>
 if(!x1)=true then
  some false
 else
  Option.bind (e7 s.Round 0 9999) fun x4=>
  if(!x4)=true then
   some false
  else
   Option.bind (E2 s.Slots 12) fun x7=>
   if(!x7)=true then
    some false
   else
    Option.bind (D5 s.Bids 12 s me) fun x10=>
    if(!x10)=true then
     some false
    else
     Option.bind (B2 s.Heard 60) fun x13=>
     if(!x13)=true then
      some false
     else
      Option.bind (B1 s.Leases 40 me) fun x16=>
      if(!x16)=true then
       some false
      else
       Option.bind (C5 s.Loans 60 me) fun x19=>
       if(!x19)=true then
        some false
       else
        Option.bind (y6 s.Slots) fun x22=>
        if(!x22)=true then
         some false
        else
         Option.bind (A4 s.Bids) fun x25=>
         if(!x25)=true then
          some false
         else
          Option.bind (w3 s.Heard) fun x28=>
          if(!x28)=true then
           some false
          else
           Option.bind (w9 s.Loans) fun x31=>
           if(!x31)=true then
            some false
           else
            Option.bind (l5 (J9 s) 0) fun e=>
            match e with
            | .inl v56=>
             Option.bind (l5 (K1 s) 0) fun e=>
             match e with
             | .inl v82=>
              some true
             | .inr rr83=>
              some rr83
            | .inr rr96=>
             some rr96
theorem a1g (me:Int) (s:b5) (r:Bool) (hm:L1 me s=some r):d0 Tryz.prog 73 [DI me, .agg (b5.c s)] (fun x=>x=DB r):=by
 refine zn Tryz.func73 rfl ?_
 refine cy hm (B8 me) fun x1 hm=> ?_
 apply vb hm<;>intro _ hm
 exact hm.rr
 refine cy hm (j1 s.Round 0 9999) fun x4 hm=> ?_
 apply vb hm<;>intro _ hm
 exact hm.rr
 refine cy hm (W9 s.Slots 12) fun x7 hm=> ?_
 apply vb hm<;>intro _ hm
 exact hm.rr
 refine co hm (U4 s.Bids 12 s me) fun x10 hm=> ?_
 apply vb hm<;>intro _ hm
 exact hm.rr
 refine cy hm (S0 s.Heard 60) fun x13 hm=> ?_
 apply vb hm<;>intro _ hm
 exact hm.rr
 refine co hm (S3 s.Leases 40 me) fun x16 hm=> ?_
 apply vb hm<;>intro _ hm
 exact hm.rr
 refine co hm (U1 s.Loans 60 me) fun x19 hm=> ?_
 apply vb hm<;>intro _ hm
 exact hm.rr
 refine cy hm (P7 s.Slots) fun x22 hm=> ?_
 apply vb hm<;>intro _ hm
 exact hm.rr
 refine cy hm (R3 s.Bids) fun x25 hm=> ?_
 apply vb hm<;>intro _ hm
 exact hm.rr
 refine cy hm (P1 s.Heard) fun x28 hm=> ?_
 apply vb hm<;>intro _ hm
 exact hm.rr
 refine cy hm (P8 s.Loans) fun x31 hm=> ?_
 apply vb hm<;>intro _ hm
 exact hm.rr
 obtain⟨ev97,he,hk98⟩:=a8 hm
 refine q9.ofL (J9 s) (fun v41=>⟨[(0,DI me),(1, .agg (b5.c s)),(2, .own 0 0),(3, .own 1 0),(4,DB false),(5, .fn 122 [] [.own 1 0, .own 0 0]),(6, .fn 124 [] []),(7, .fn 126 [] [.own 0 0]),(8, .fn 128 [] [.own 0 0]),(58,DB (!x19)),(80,DB (!x31)),(82,lD 6 s.Bids c4.c),(83,DI (s.Bids.length:Int)),(84,DI v41)], [(0, .blk [DI me] 3),(1, .blk (b5.c s) 28)],2⟩) 0 (c5.of 2 rfl (tA rfl) ⟨hR rfl,hR rfl,trivial⟩) he ?_
 rintro fu99 v41 b hm hi100
 apply vb hm<;>intro _ hm
 obtain⟨e102,hx103,hm⟩:=a8 hm
 refine⟨_,c8 (fun _=>rfl) hx103, ?_⟩
 obtain⟨hg,hm⟩:=i4 hm
 obtain⟨sl104,hy,hm⟩:=a8 hm
 refine⟨hg,_,(b4R (c:=c4.c) (z:=6) (fun _=>rfl) _ _ _).trans (congrArg _ (Option.some.inj hy)), ?_⟩
 have hl:sl104.length=(v41).toNat-0:=by rw [←Option.some.inj hy];exact b7a (by omega)
 rw [←hl]
 refine co hm (J4 sl104 e102) fun x105 hm=> ?_
 apply vb hm<;>intro _ hm
 cases hm
 cases hi100
 have hm:=hk98
 exact hm.rr
 cases hm
 exact⟨(_,(W (v41+1))),c5.of 2 rfl (tA rfl) ⟨hR rfl,hR rfl,trivial⟩,hi100,Nat.lt_succ_self _⟩
 cases hm
 cases hi100
 have hm:=hk98
 obtain⟨ev135,he,hk136⟩:=a8 hm
 refine q9.ofL (K1 s) (fun v116=>⟨[(0,DI me),(1, .agg (b5.c s)),(2, .own 0 0),(3, .own 1 0),(4,DB false),(5, .fn 122 [] [.own 1 0, .own 0 0]),(6, .fn 124 [] []),(7, .fn 126 [] [.own 0 0]),(8, .fn 128 [] [.own 0 0]),(58,DB (!x19)),(80,DB (!x31)),(82,lD 6 s.Bids c4.c),(83,DI (s.Bids.length:Int)),(84,DI v41),(85,DB (decide (v41<(s.Bids.length:Int)))),(97,lD 5 s.Leases a7.c),(98,DI (s.Leases.length:Int)),(99,DI v116)], [(0, .blk [DI me] 3),(1, .blk (b5.c s) 28)],2⟩) 0 (c5.of 2 rfl (tA rfl) ⟨hR rfl,hR rfl,trivial⟩) he ?_
 rintro fu137 v116 b hm hi138
 apply vb hm<;>intro _ hm
 obtain⟨e140,hx141,hm⟩:=a8 hm
 refine⟨_,c8 (fun _=>rfl) hx141, ?_⟩
 apply vb hm<;>intro _ hm
 cases hm
 cases hi138
 have hm:=hk136
 exact hm.rr
 obtain⟨hg,hm⟩:=i4 hm
 obtain⟨sl143,hy,hm⟩:=a8 hm
 refine⟨hg,_,(b4R (c:=a7.c) (z:=5) (fun _=>rfl) _ _ _).trans (congrArg _ (Option.some.inj hy)), ?_⟩
 have hl:sl143.length=(v116).toNat-0:=by rw [←Option.some.inj hy];exact b7a (by omega)
 rw [←hl]
 refine co hm (I1 sl143 e140) fun x144 hm=> ?_
 apply vb hm<;>intro _ hm
 cases hm
 cases hi138
 have hm:=hk136
 exact hm.rr
 cases hm
 exact⟨(_,(W (v116+1))),c5.of 2 rfl (tA rfl) ⟨hR rfl,hR rfl,trivial⟩,hi138,Nat.lt_succ_self _⟩
 cases hm
 cases hi138
 have hm:=hk136
 exact hm.rr
def V7 (x:a6):Option Int:=
 Option.bind (L1 x.Me x.Now) fun x1=>
 if(!x1)=true then
  some 90
 else
  Option.bind (L1 x.Me x.Safe) fun x4=>
  if(!x4)=true then
   some 90
  else
   some 0
theorem U8 (x:a6) (r:Int) (hm:V7 x=some r):d0 Tryz.prog 27 [.agg (a6.c x)] (fun x=>x=DI r):=by
 refine zn Tryz.func27 rfl ?_
 refine cy hm (a1g x.Me x.Now) fun x1 hm=> ?_
 apply vb hm<;>intro _ hm
 exact hm.rr
 refine cy hm (a1g x.Me x.Safe) fun x4 hm=> ?_
 apply vb hm<;>intro _ hm
 exact hm.rr
 exact hm.rr
def D1 (s:List b6):Option (List b6):=gd (s.length*32≤140737488355328∧s.length≤9223372036854775807) (some s)
theorem a0M (s:List b6) (r:List b6) (hm:D1 s=some r):d0 Tryz.prog 112 [.lst 4 s.length (s.flatMap b6.c)] (fun x=>x= .lst 4 r.length (r.flatMap b6.c)):=by
 obtain⟨hg,hm⟩:=i4 hm
 cases hm
 refine zn Tryz.func112 rfl ?_
 intro b hb
 refine VIf.mk (fun h=> ?_) (fun h=> ?_)
 · have h0:=hb h
   have h1:s= []:=List.eq_nil_of_length_eq_zero h0
   subst h1
   exact d8.le leD.nil
 · refine⟨[],0,⟨rfl,rfl⟩, ?_⟩
   exact⟨by omega,s.flatMap b6.c,s.length,⟨rfl,Nat.zero_add _⟩,d8.le (leD.refl _)⟩
theorem a0V (s:List b6) (r:List b6) (hm:D1 s=some r):a8R Tryz.prog 112 [.lst 4 s.length (s.flatMap b6.c)] 4 r.length (r.flatMap b6.c) 110:=by
 obtain⟨hg,hm⟩:=i4 hm
 cases hm
 refine a7W (X:=⟨Tryz.prog,tt,Tryz.f112.ntmps, [], [], [], [], [], []⟩) pok _ Tryz.func112 rfl rfl (Nat.le_of_ble_eq_true rfl) ?_
 intro b hb
 refine VIf.mk (fun h=> ?_) (fun h=> ?_)
 · have h0:=hb h
   have h1:s= []:=List.eq_nil_of_length_eq_zero h0
   subst h1
   exact⟨rfl,rfl⟩
 · refine⟨[],0,⟨rfl,rfl⟩, ?_⟩
   exact⟨by omega,s.flatMap b6.c,s.length,⟨rfl,Nat.zero_add _⟩,⟨rfl,rfl⟩⟩
def E3 (s:List c4):Option (List c4):=gd (s.length*48≤140737488355328∧s.length≤9223372036854775807) (some s)
theorem a1h (s:List c4) (r:List c4) (hm:E3 s=some r):d0 Tryz.prog 113 [.lst 6 s.length (s.flatMap c4.c)] (fun x=>x= .lst 6 r.length (r.flatMap c4.c)):=by
 obtain⟨hg,hm⟩:=i4 hm
 cases hm
 refine zn Tryz.func113 rfl ?_
 intro b hb
 refine VIf.mk (fun h=> ?_) (fun h=> ?_)
 · have h0:=hb h
   have h1:s= []:=List.eq_nil_of_length_eq_zero h0
   subst h1
   exact d8.le leD.nil
 · refine⟨[],0,⟨rfl,rfl⟩, ?_⟩
   exact⟨by omega,s.flatMap c4.c,s.length,⟨rfl,Nat.zero_add _⟩,d8.le (leD.refl _)⟩
theorem a1u (s:List c4) (r:List c4) (hm:E3 s=some r):a8R Tryz.prog 113 [.lst 6 s.length (s.flatMap c4.c)] 6 r.length (r.flatMap c4.c) 108:=by
 obtain⟨hg,hm⟩:=i4 hm
 cases hm
 refine a7W (X:=⟨Tryz.prog,tt,Tryz.f113.ntmps, [], [], [], [], [], []⟩) pok _ Tryz.func113 rfl rfl (Nat.le_of_ble_eq_true rfl) ?_
 intro b hb
 refine VIf.mk (fun h=> ?_) (fun h=> ?_)
 · have h0:=hb h
   have h1:s= []:=List.eq_nil_of_length_eq_zero h0
   subst h1
   exact⟨rfl,rfl⟩
 · refine⟨[],0,⟨rfl,rfl⟩, ?_⟩
   exact⟨by omega,s.flatMap c4.c,s.length,⟨rfl,Nat.zero_add _⟩,⟨rfl,rfl⟩⟩
def A3 (s:List b4):Option (List b4):=gd (s.length*32≤140737488355328∧s.length≤9223372036854775807) (some s)
theorem a0j (s:List b4) (r:List b4) (hm:A3 s=some r):d0 Tryz.prog 114 [.lst 4 s.length (s.flatMap b4.c)] (fun x=>x= .lst 4 r.length (r.flatMap b4.c)):=by
 obtain⟨hg,hm⟩:=i4 hm
 cases hm
 refine zn Tryz.func114 rfl ?_
 intro b hb
 refine VIf.mk (fun h=> ?_) (fun h=> ?_)
 · have h0:=hb h
   have h1:s= []:=List.eq_nil_of_length_eq_zero h0
   subst h1
   exact d8.le leD.nil
 · refine⟨[],0,⟨rfl,rfl⟩, ?_⟩
   exact⟨by omega,s.flatMap b4.c,s.length,⟨rfl,Nat.zero_add _⟩,d8.le (leD.refl _)⟩
theorem Z9 (s:List b4) (r:List b4) (hm:A3 s=some r):a8R Tryz.prog 114 [.lst 4 s.length (s.flatMap b4.c)] 4 r.length (r.flatMap b4.c) 149:=by
 obtain⟨hg,hm⟩:=i4 hm
 cases hm
 refine a7W (X:=⟨Tryz.prog,tt,Tryz.f114.ntmps, [], [], [], [], [], []⟩) pok _ Tryz.func114 rfl rfl (Nat.le_of_ble_eq_true rfl) ?_
 intro b hb
 refine VIf.mk (fun h=> ?_) (fun h=> ?_)
 · have h0:=hb h
   have h1:s= []:=List.eq_nil_of_length_eq_zero h0
   subst h1
   exact⟨rfl,rfl⟩
 · refine⟨[],0,⟨rfl,rfl⟩, ?_⟩
   exact⟨by omega,s.flatMap b4.c,s.length,⟨rfl,Nat.zero_add _⟩,⟨rfl,rfl⟩⟩
def A6 (s:List a7):Option (List a7):=gd (s.length*40≤140737488355328∧s.length≤9223372036854775807) (some s)
theorem a0k (s:List a7) (r:List a7) (hm:A6 s=some r):d0 Tryz.prog 115 [.lst 5 s.length (s.flatMap a7.c)] (fun x=>x= .lst 5 r.length (r.flatMap a7.c)):=by
 obtain⟨hg,hm⟩:=i4 hm
 cases hm
 refine zn Tryz.func115 rfl ?_
 intro b hb
 refine VIf.mk (fun h=> ?_) (fun h=> ?_)
 · have h0:=hb h
   have h1:s= []:=List.eq_nil_of_length_eq_zero h0
   subst h1
   exact d8.le leD.nil
 · refine⟨[],0,⟨rfl,rfl⟩, ?_⟩
   exact⟨by omega,s.flatMap a7.c,s.length,⟨rfl,Nat.zero_add _⟩,d8.le (leD.refl _)⟩
theorem a0f (s:List a7) (r:List a7) (hm:A6 s=some r):a8R Tryz.prog 115 [.lst 5 s.length (s.flatMap a7.c)] 5 r.length (r.flatMap a7.c) 112:=by
 obtain⟨hg,hm⟩:=i4 hm
 cases hm
 refine a7W (X:=⟨Tryz.prog,tt,Tryz.f115.ntmps, [], [], [], [], [], []⟩) pok _ Tryz.func115 rfl rfl (Nat.le_of_ble_eq_true rfl) ?_
 intro b hb
 refine VIf.mk (fun h=> ?_) (fun h=> ?_)
 · have h0:=hb h
   have h1:s= []:=List.eq_nil_of_length_eq_zero h0
   subst h1
   exact⟨rfl,rfl⟩
 · refine⟨[],0,⟨rfl,rfl⟩, ?_⟩
   exact⟨by omega,s.flatMap a7.c,s.length,⟨rfl,Nat.zero_add _⟩,⟨rfl,rfl⟩⟩
def D3 (s:List b9):Option (List b9):=gd (s.length*48≤140737488355328∧s.length≤9223372036854775807) (some s)
theorem a0Q (s:List b9) (r:List b9) (hm:D3 s=some r):d0 Tryz.prog 116 [.lst 6 s.length (s.flatMap b9.c)] (fun x=>x= .lst 6 r.length (r.flatMap b9.c)):=by
 obtain⟨hg,hm⟩:=i4 hm
 cases hm
 refine zn Tryz.func116 rfl ?_
 intro b hb
 refine VIf.mk (fun h=> ?_) (fun h=> ?_)
 · have h0:=hb h
   have h1:s= []:=List.eq_nil_of_length_eq_zero h0
   subst h1
   exact d8.le leD.nil
 · refine⟨[],0,⟨rfl,rfl⟩, ?_⟩
   exact⟨by omega,s.flatMap b9.c,s.length,⟨rfl,Nat.zero_add _⟩,d8.le (leD.refl _)⟩
theorem a0X (s:List b9) (r:List b9) (hm:D3 s=some r):a8R Tryz.prog 116 [.lst 6 s.length (s.flatMap b9.c)] 6 r.length (r.flatMap b9.c) 114:=by
 obtain⟨hg,hm⟩:=i4 hm
 cases hm
 refine a7W (X:=⟨Tryz.prog,tt,Tryz.f116.ntmps, [], [], [], [], [], []⟩) pok _ Tryz.func116 rfl rfl (Nat.le_of_ble_eq_true rfl) ?_
 intro b hb
 refine VIf.mk (fun h=> ?_) (fun h=> ?_)
 · have h0:=hb h
   have h1:s= []:=List.eq_nil_of_length_eq_zero h0
   subst h1
   exact⟨rfl,rfl⟩
 · refine⟨[],0,⟨rfl,rfl⟩, ?_⟩
   exact⟨by omega,s.flatMap b9.c,s.length,⟨rfl,Nat.zero_add _⟩,⟨rfl,rfl⟩⟩
def B0 (s:b5):Option b5:=
 Option.bind (D1 s.Slots) fun x1=>
 Option.bind (E3 s.Bids) fun x3=>
 Option.bind (A3 s.Heard) fun x5=>
 Option.bind (A6 s.Leases) fun x7=>
 Option.bind (D3 s.Loans) fun x9=>
 some (⟨s.Round,x1,x3,x5,x7,x9⟩:b5)
theorem S1 (s:b5) (r:b5) (hm:B0 s=some r):d0 Tryz.prog 62 [.agg (b5.c s)] (fun x=>x= .agg (b5.c r)):=by
 refine zy c2Y [] [] [] Tryz.func62 rfl ?_
 refine⟨rfl, ?_⟩
 obtain⟨x1,hx2,hm⟩:=a8 hm
 refine a3J.det (a0M s.Slots _ hx2) ?_
 obtain⟨x3,hx4,hm⟩:=a8 hm
 refine a3J.det (a1h s.Bids _ hx4) ?_
 obtain⟨x5,hx6,hm⟩:=a8 hm
 refine a3J.det (a0j s.Heard _ hx6) ?_
 obtain⟨x7,hx8,hm⟩:=a8 hm
 refine a3J.det (a0k s.Leases _ hx8) ?_
 obtain⟨x9,hx10,hm⟩:=a8 hm
 refine a3J.det (a0Q s.Loans _ hx10) ?_
 cases hm
 exact d8.le (leD.refl _)
theorem L3 (s:b5) (r:b5) (hm:B0 s=some r):b6Y Tryz.prog 62 [.agg (b5.c s)] [(4,r.Slots.length,r.Slots.flatMap b6.c,110),(6,r.Bids.length,r.Bids.flatMap c4.c,108),(4,r.Heard.length,r.Heard.flatMap b4.c,149),(5,r.Leases.length,r.Leases.flatMap a7.c,112),(6,r.Loans.length,r.Loans.flatMap b9.c,114)] [DI r.Round, .row 0 4, .row 1 6, .row 2 4, .row 3 5, .row 4 6]:=by
 refine c1B (X:=⟨Tryz.prog,tt,Tryz.f62.ntmps,c2Y, [99,106,149,210,211,220], [112,113,114,115,116], [], [], []⟩) pok _ Tryz.func62 rfl rfl (Nat.le_of_ble_eq_true rfl) rfl ?_
 refine⟨rfl, ?_⟩
 obtain⟨x1,hx2,hm⟩:=a8 hm
 refine .inl (b0j.mk ⟨_,_,_,_,a0V s.Slots _ hx2, ?_⟩)
 obtain⟨x3,hx4,hm⟩:=a8 hm
 refine .inl (b0j.mk ⟨_,_,_,_,a1u s.Bids _ hx4, ?_⟩)
 obtain⟨x5,hx6,hm⟩:=a8 hm
 refine .inl (b0j.mk ⟨_,_,_,_,Z9 s.Heard _ hx6, ?_⟩)
 obtain⟨x7,hx8,hm⟩:=a8 hm
 refine .inl (b0j.mk ⟨_,_,_,_,a0f s.Leases _ hx8, ?_⟩)
 obtain⟨x9,hx10,hm⟩:=a8 hm
 refine .inl (b0j.mk ⟨_,_,_,_,a0X s.Loans _ hx10, ?_⟩)
 cases hm
 exact⟨rfl,⟨⟨rfl,rfl⟩,⟨⟨rfl,rfl,rfl,rfl⟩,⟨⟨rfl,rfl,rfl,rfl⟩,⟨⟨rfl,rfl,rfl,rfl⟩,⟨⟨rfl,rfl,rfl,rfl⟩,⟨⟨rfl,rfl,rfl,rfl⟩,rfl⟩⟩⟩⟩⟩⟩⟩
def K8 (x:a6):Option ((Option e8)×Int):=
 Option.bind (V7 x) fun x1=>
 if(x1 !=0)=true then
  some (none,x1)
 else
  Option.bind (B0 x.Now) fun x4=>
  Option.bind (B0 x.Safe) fun x6=>
  some ((some (⟨(⟨x.Me,x4,x6⟩:a6)⟩:e8)),0)
theorem a1y (x:a6) (r:((Option e8)×Int)) (hm:K8 x=some r):d0 Tryz.prog 61 [.agg (a6.c x)] (fun x=>x= .tup [c2Q e8.c r.1,DI r.2]):=by
 refine zy b9b [] [] [] Tryz.func61 rfl ?_
 refine cy hm (U8 x) fun x1 hm=> ?_
 apply vb hm<;>intro _ hm
 cases hm
 exact d8.le (leD.refl _)
 refine⟨rfl, ?_⟩
 refine cy hm (S1 x.Now) fun x4 hm=> ?_
 refine cy hm (S1 x.Safe) fun x6 hm=> ?_
 cases hm
 exact d8.le (leD.refl _)
def a1n (x:a6):Option (Sum Int ((List b6)×(List c4)×(List b4)×(List a7)×(List b9)×(List b6)×(List c4)×(List b4)×(List a7)×(List b9)×Int×Int×Int)):=
 Option.bind (V7 x) fun x22=>
 if(x22 !=0)=true then
  some (.inl x22)
 else
  Option.bind (B0 x.Now) fun x25=>
  Option.bind (B0 x.Safe) fun x27=>
  some (.inr (x25.Slots,x25.Bids,x25.Heard,x25.Leases,x25.Loans,x27.Slots,x27.Bids,x27.Heard,x27.Leases,x27.Loans,x.Me,x25.Round,x27.Round))
def a6L (x:a6):Option (Sum Int (Int×Int×(List b6)×(List c4)×(List b4)×(List a7)×(List b9)×Int×(List b6)×(List c4)×(List b4)×(List a7)×(List b9))):=
 Option.bind (V7 x) fun x22=>
 if(x22 !=0)=true then
  some (.inl x22)
 else
  Option.bind (B0 x.Now) fun x25=>
  Option.bind (B0 x.Safe) fun x27=>
  some (.inr (x.Me,x25.Round,x25.Slots,x25.Bids,x25.Heard,x25.Leases,x25.Loans,x27.Round,x27.Slots,x27.Bids,x27.Heard,x27.Leases,x27.Loans))
def a2q (x:a6):Option (a6×Int):=
 Option.bind (a6L x) fun e=>
 match e with
 | .inl x8=>
  if(x8 !=0)=true then
   some ((⟨0,(⟨0, [], [], [], [], []⟩:b5),(⟨0, [], [], [], [], []⟩:b5)⟩:a6),x8)
  else
   none
 | .inr (x9,x10,x11,x12,x13,x14,x15,x16,x17,x18,x19,x20,x21)=>
  Option.bind (B0 (⟨x10,x11,x12,x13,x14,x15⟩:b5)) fun x32=>
  some ((⟨x9,(⟨x10,x11,x12,x13,x14,x15⟩:b5),x32⟩:a6),0)
theorem b1u (x:a6) (r:(a6×Int)) (hm:a2q x=some r):d0 Tryz.prog 12 [.agg (a6.c x)] (fun x=>x= .tup [.agg (a6.c r.1),DI r.2]):=by
 refine zy [] [] [] [61] Tryz.func12 rfl ?_
 obtain⟨ev29,he30,hm⟩:=a8 hm
 refine K4.ofZ pok ⟨[(0, .agg (a6.c x)),(1000000, .agg (a6.c x)),(1000001, .own 0 0),(1000002, .own 1 0),(1000003,DI 0)], [(0, .blk (a6.c x) 30),(1, .blk [DI 0,DI 0,nS,nS,nS,nS,nS,DI 0,nS,nS,nS,nS,nS] 30)],2⟩ (match ev29 with| .inl x8=>(⟨[(0, .agg (a6.c x)),(1, .own 0 0),(2, .own 1 0),(3,DI 0),(8, .tup [.v (.pointer none),DI x8])], [(0, .blk (a6.c x) 30),(1, .blk [DI 0,DI 0,nS,nS,nS,nS,nS,DI 0,nS,nS,nS,nS,nS] 30)],2⟩:Sy)| .inr (x9,x10,x11,x12,x13,x14,x15,x16,x17,x18,x19,x20,x21)=>(⟨[(0, .agg (a6.c x)),(1, .own 0 0),(2, .own 1 0),(3,DI 0),(8, .tup [.own 3 0,DI 0])], [(0, .blk (a6.c x) 30),(1, .blk [DI 0,DI 0,nS,nS,nS,nS,nS,DI 0,nS,nS,nS,nS,nS] 30),(3, .blk [DI x9,DI x10,lD 4 x11 b6.c,lD 6 x12 c4.c,lD 4 x13 b4.c,lD 5 x14 a7.c,lD 6 x15 b9.c,DI x16,lD 4 x17 b6.c,lD 6 x18 c4.c,lD 4 x19 b4.c,lD 5 x20 a7.c,lD 6 x21 b9.c] 102)],4⟩:Sy):Sy) b9b [] [] [61] Tryz.func61 rfl rfl rfl (c5.of 2 rfl (tA rfl) ⟨hR rfl,hR rfl,trivial⟩) (fun sv=> ?_) ?_
 have hm:=he30
 refine cy hm (U8 x) fun x34 hm=> ?_
 apply vb hm<;>intro _ hm
 cases hm
 exact c5.of 2 rfl (tA rfl) ⟨hR rfl,hR rfl,trivial⟩
 refine⟨rfl, ?_⟩
 refine cy hm (S1 x.Now) fun x37 hm=> ?_
 refine cy hm (S1 x.Safe) fun x39 hm=> ?_
 cases hm
 exact c5.of 4 rfl (tA rfl) ⟨hR rfl,hR rfl,hR rfl,trivial⟩
 rcases ev29 with x8|⟨x9,x10,x11,x12,x13,x14,x15,x16,x17,x18,x19,x20,x21⟩
 apply vb hm<;>intro _ hm
 cases hm
 exact d8.le (⟨_,rfl,⟨⟨_,rfl,⟨leD.refl _,leD.refl _,leD.nil,leD.nil,leD.nil,leD.nil,leD.nil,leD.refl _,leD.nil,leD.nil,leD.nil,leD.nil,leD.nil,trivial⟩⟩,leD.refl _,trivial⟩⟩)
 cases hm
 refine cy hm (S1 ((⟨x10,x11,x12,x13,x14,x15⟩:b5))) fun x32 hm=> ?_
 cases hm
 exact d8.le (leD.refl _)
def F4 (n:Int) (lo:Int) (hi:Int):Option Bool:=
 if(decide (lo≤n))=true then
  some (decide (n≤hi))
 else
  some false
theorem J2 (n:Int) (lo:Int) (hi:Int) (r:Bool) (hm:F4 n lo hi=some r):d0 Tryz.prog 74 [DI n,DI lo,DI hi] (fun x=>x=DB r):=by
 refine zn Tryz.func74 rfl ?_
 apply vb hm<;>intro _ hm
 exact hm.rr
 exact hm.rr
def Z0 (n:Int):Option Bool:=
 Option.bind (F4 n 0 5) fun x1=>
 some x1
theorem a3y (n:Int) (r:Bool) (hm:Z0 n=some r):d0 Tryz.prog 67 [DI n] (fun x=>x=DB r):=by
 refine zn Tryz.func67 rfl ?_
 refine cy hm (J2 n 0 5) fun x1 hm=> ?_
 exact hm.rr
def S8 (n:Int):Option Bool:=
 Option.bind (F4 n 0 100000) fun x1=>
 some x1
theorem a1A (n:Int) (r:Bool) (hm:S8 n=some r):d0 Tryz.prog 82 [DI n] (fun x=>x=DB r):=by
 refine zn Tryz.func82 rfl ?_
 refine cy hm (J2 n 0 100000) fun x1 hm=> ?_
 exact hm.rr
def U6 (n:Int):Option Bool:=
 Option.bind (F4 n 6 59999) fun x1=>
 some x1
theorem a2I (n:Int) (r:Bool) (hm:U6 n=some r):d0 Tryz.prog 83 [DI n] (fun x=>x=DB r):=by
 refine zn Tryz.func83 rfl ?_
 refine cy hm (J2 n 6 59999) fun x1 hm=> ?_
 exact hm.rr
def H3 (n:Int):Option Bool:=
 Option.bind (F4 n 1 1000000) fun x1=>
 some x1
theorem O8 (n:Int) (r:Bool) (hm:H3 n=some r):d0 Tryz.prog 85 [DI n] (fun x=>x=DB r):=by
 refine zn Tryz.func85 rfl ?_
 refine cy hm (J2 n 1 1000000) fun x1 hm=> ?_
 exact hm.rr
def N2 (l:(List b6)):Int→Option (Sum Int (Sum Int Bool)):=fun i25=>
 if(decide (i25<(l.length:Int)))=true then
  Option.bind (idx l i25) fun e71=>
  Option.bind (S8 e71.Night) fun x73=>
  if(!x73)=true then
   some (.inr (.inr false))
  else
   if(decide (i25>0))=true then
    Option.bind (idx l (W (i25-1))) fun e77=>
    if(decide (e77.Night≥e71.Night))=true then
     some (.inr (.inr false))
    else
     Option.bind (U6 e71.Promised) fun x80=>
     if(!x80)=true then
      some (.inr (.inr false))
     else
      if(e71.Ballot==0)=true then
       if(!(e71.Value==0))=true then
        Option.bind (F4 e71.Ballot 6 e71.Promised) fun x85=>
        if(!x85)=true then
         some (.inr (.inr false))
        else
         Option.bind (H3 e71.Value) fun x88=>
         if(!x88)=true then
          some (.inr (.inr false))
         else
          some (.inl (W (i25+1)))
       else
        some (.inl (W (i25+1)))
      else
       Option.bind (F4 e71.Ballot 6 e71.Promised) fun x91=>
       if(!x91)=true then
        some (.inr (.inr false))
       else
        Option.bind (H3 e71.Value) fun x94=>
        if(!x94)=true then
         some (.inr (.inr false))
        else
         some (.inl (W (i25+1)))
   else
    Option.bind (U6 e71.Promised) fun x97=>
    if(!x97)=true then
     some (.inr (.inr false))
    else
     if(e71.Ballot==0)=true then
      if(!(e71.Value==0))=true then
       Option.bind (F4 e71.Ballot 6 e71.Promised) fun x102=>
       if(!x102)=true then
        some (.inr (.inr false))
       else
        Option.bind (H3 e71.Value) fun x105=>
        if(!x105)=true then
         some (.inr (.inr false))
        else
         some (.inl (W (i25+1)))
      else
       some (.inl (W (i25+1)))
     else
      Option.bind (F4 e71.Ballot 6 e71.Promised) fun x108=>
      if(!x108)=true then
       some (.inr (.inr false))
      else
       Option.bind (H3 e71.Value) fun x111=>
       if(!x111)=true then
        some (.inr (.inr false))
       else
        some (.inl (W (i25+1)))
 else
  some (.inr (.inl i25))
def a2v (l:(List b6)):Option Bool:=
 if(decide ((l.length:Int)>12))=true then
  some false
 else
  Option.bind (l5 (N2 l) 0) fun e=>
  match e with
  | .inl i114=>
   some true
  | .inr rr115=>
   some rr115
theorem b0D (l:(List b6)) (r:Bool) (hm:a2v l=some r):d0 Tryz.prog 75 [lD 4 l b6.c] (fun x=>x=DB r):=by
 refine zy c4C [] [] [] Tryz.func75 rfl ?_
 apply vb hm<;>intro _ hm
 exact hm.rr
 obtain⟨ev116,he,hk117⟩:=a8 hm
 refine q9.ofL (N2 l) (fun i25=>⟨[(0,lD 4 l b6.c),(2,DB false),(3,DI i25),(8,DB (decide ((l.length:Int)>12)))], [],0⟩) 0 (c5.of 0 rfl (tA rfl) trivial) he ?_
 rintro fu118 i25 b hm hi119
 apply vb hm<;>intro _ hm
 obtain⟨e121,hx122,hm⟩:=a8 hm
 refine⟨_,c8 (fun _=>rfl) hx122, ?_⟩
 refine⟨rfl, ?_⟩
 refine cy hm (a1A e121.Night) fun x123 hm=> ?_
 apply vb hm<;>intro _ hm
 cases hm
 cases hi119
 have hm:=hk117
 exact hm.rr
 apply vb hm<;>intro _ hm
 obtain⟨e127,hx128,hm⟩:=a8 hm
 refine⟨_,c8 (fun _=>rfl) hx128, ?_⟩
 apply vb hm<;>intro _ hm
 cases hm
 cases hi119
 have hm:=hk117
 exact hm.rr
 refine cy hm (a2I e121.Promised) fun x130 hm=> ?_
 apply vb hm<;>intro _ hm
 cases hm
 cases hi119
 have hm:=hk117
 exact hm.rr
 apply vb hm<;>intro _ hm
 apply vb hm<;>intro _ hm
 refine cy hm (J2 e121.Ballot 6 e121.Promised) fun x135 hm=> ?_
 apply vb hm<;>intro _ hm
 cases hm
 cases hi119
 have hm:=hk117
 exact hm.rr
 refine cy hm (O8 e121.Value) fun x138 hm=> ?_
 apply vb hm<;>intro _ hm
 cases hm
 cases hi119
 have hm:=hk117
 exact hm.rr
 cases hm
 exact⟨(_,(W (i25+1))),c5.of 0 rfl (tA rfl) trivial,hi119,Nat.lt_succ_self _⟩
 cases hm
 exact⟨(_,(W (i25+1))),c5.of 0 rfl (tA rfl) trivial,hi119,Nat.lt_succ_self _⟩
 refine cy hm (J2 e121.Ballot 6 e121.Promised) fun x141 hm=> ?_
 apply vb hm<;>intro _ hm
 cases hm
 cases hi119
 have hm:=hk117
 exact hm.rr
 refine cy hm (O8 e121.Value) fun x144 hm=> ?_
 apply vb hm<;>intro _ hm
 cases hm
 cases hi119
 have hm:=hk117
 exact hm.rr
 cases hm
 exact⟨(_,(W (i25+1))),c5.of 0 rfl (tA rfl) trivial,hi119,Nat.lt_succ_self _⟩
 refine cy hm (a2I e121.Promised) fun x147 hm=> ?_
 apply vb hm<;>intro _ hm
 cases hm
 cases hi119
 have hm:=hk117
 exact hm.rr
 apply vb hm<;>intro _ hm
 apply vb hm<;>intro _ hm
 refine cy hm (J2 e121.Ballot 6 e121.Promised) fun x152 hm=> ?_
 apply vb hm<;>intro _ hm
 cases hm
 cases hi119
 have hm:=hk117
 exact hm.rr
 refine cy hm (O8 e121.Value) fun x155 hm=> ?_
 apply vb hm<;>intro _ hm
 cases hm
 cases hi119
 have hm:=hk117
 exact hm.rr
 cases hm
 exact⟨(_,(W (i25+1))),c5.of 0 rfl (tA rfl) trivial,hi119,Nat.lt_succ_self _⟩
 cases hm
 exact⟨(_,(W (i25+1))),c5.of 0 rfl (tA rfl) trivial,hi119,Nat.lt_succ_self _⟩
 refine cy hm (J2 e121.Ballot 6 e121.Promised) fun x158 hm=> ?_
 apply vb hm<;>intro _ hm
 cases hm
 cases hi119
 have hm:=hk117
 exact hm.rr
 refine cy hm (O8 e121.Value) fun x161 hm=> ?_
 apply vb hm<;>intro _ hm
 cases hm
 cases hi119
 have hm:=hk117
 exact hm.rr
 cases hm
 exact⟨(_,(W (i25+1))),c5.of 0 rfl (tA rfl) trivial,hi119,Nat.lt_succ_self _⟩
 cases hm
 cases hi119
 have hm:=hk117
 exact hm.rr
def a3L (n:Int) (m:Int):Option Int:=
 gd (m≠0)<|
 gd (m≠0)<|
 some ((W ((n.tmod m)+m)).tmod m)
theorem b2D (n:Int) (m:Int) (r:Int) (hm:a3L n m=some r):d0 Tryz.prog 40 [DI n,DI m] (fun x=>x=DI r):=by
 refine zn Tryz.func40 rfl ?_
 obtain⟨hg,hm⟩:=i4 hm
 refine⟨hg, ?_⟩
 obtain⟨hg,hm⟩:=i4 hm
 refine⟨hg, ?_⟩
 exact hm.rr
def a8s (depot:Int):Option Int:=
 gd (0≤depot)<|
 some (W (1*(2^(min depot.toNat IntKind.i64.bits))))
theorem b7q (depot:Int) (r:Int) (hm:a8s depot=some r):d0 Tryz.prog 161 [DI depot] (fun x=>x=DI r):=by
 refine zn Tryz.func161 rfl ?_
 obtain⟨hg,hm⟩:=i4 hm
 refine⟨hg, ?_⟩
 exact hm.rr
def Z6 (mask:Int):(Int×Int)→Option (Sum (Int×Int) (Int×Int)):=fun(n4,d5)=>
 if(decide (d5<6))=true then
  Option.bind (a8s d5) fun x11=>
  if((W ((BitVec.ofInt IntKind.i64.bits mask&&&BitVec.ofInt IntKind.i64.bits x11).toNat:Int)) !=0)=true then
   some (.inl ((W (n4+1)),(W (d5+1))))
  else
   some (.inl (n4,(W (d5+1))))
 else
  some (.inr (n4,d5))
def I7 (mask:Int):Option Bool:=
 Option.bind (l5 (Z6 mask) (0,0)) fun(n14,d15)=>
 some (decide (n14≥4))
theorem a4J (mask:Int) (r:Bool) (hm:I7 mask=some r):d0 Tryz.prog 107 [DI mask] (fun x=>x=DB r):=by
 refine zn Tryz.func107 rfl ?_
 obtain⟨ev16,he,hk17⟩:=a8 hm
 refine q9.ofL (Z6 mask) (fun(n4,d5)=>⟨[(0,DI mask),(2,DB false),(3,DI n4),(4,DI d5)], [],0⟩) (0,0) (c5.of 0 rfl (tA rfl) trivial) he ?_
 rintro fu18 ⟨n4,d5⟩ b hm hi19
 apply vb hm<;>intro _ hm
 refine cy hm (b7q d5) fun x21 hm=> ?_
 apply vb hm<;>intro _ hm
 cases hm
 exact⟨(_,((W (n4+1)),(W (d5+1)))),c5.of 0 rfl (tA rfl) trivial,hi19,Nat.lt_succ_self _⟩
 cases hm
 exact⟨(_,(n4,(W (d5+1)))),c5.of 0 rfl (tA rfl) trivial,hi19,Nat.lt_succ_self _⟩
 cases hm
 cases hi19
 have hm:=hk17
 exact hm.rr
def X5 (n:Int):Option Bool:=
 Option.bind (F4 n 0 63) fun x1=>
 some x1
theorem a4C (n:Int) (r:Bool) (hm:X5 n=some r):d0 Tryz.prog 146 [DI n] (fun x=>x=DB r):=by
 refine zn Tryz.func146 rfl ?_
 refine cy hm (J2 n 0 63) fun x1 hm=> ?_
 exact hm.rr
def G5 (l:(List c4)) (i26:Int) (e104:c4):Int→Option (Sum Int (Sum Int Bool)):=fun k135=>
 if(decide (k135<i26))=true then
  Option.bind (idx l k135) fun e141=>
  if(e141.Ballot==e104.Ballot)=true then
   some (.inr (.inr false))
  else
   some (.inl (W (k135+1)))
 else
  some (.inr (.inl k135))
def P4 (l:(List c4)) (me:Int) (round:Int):Int→Option (Sum Int (Sum Int Bool)):=fun i26=>
 if(decide (i26<(l.length:Int)))=true then
  Option.bind (idx l i26) fun e104=>
  Option.bind (S8 e104.Night) fun x106=>
  if(!x106)=true then
   some (.inr (.inr false))
  else
   if(decide (i26>0))=true then
    Option.bind (idx l (W (i26-1))) fun e110=>
    if(decide (e110.Night≥e104.Night))=true then
     some (.inr (.inr false))
    else
     Option.bind (H3 e104.Value) fun x113=>
     if(!x113)=true then
      some (.inr (.inr false))
     else
      Option.bind (F4 e104.Ballot (W (6+me)) (W ((W (6*round))+me))) fun x116=>
      if(!x116)=true then
       some (.inr (.inr false))
      else
       Option.bind (a3L e104.Ballot 6) fun x119=>
       if(x119 !=me)=true then
        some (.inr (.inr false))
       else
        Option.bind (F4 e104.Best 0 (W (e104.Ballot-1))) fun x122=>
        if(!x122)=true then
         some (.inr (.inr false))
        else
         Option.bind (X5 e104.Mask) fun x125=>
         if(!x125)=true then
          some (.inr (.inr false))
         else
          Option.bind (I7 e104.Mask) fun x128=>
          if(!(e104.Asked==x128))=true then
           some (.inr (.inr false))
          else
           Option.bind (l5 (G5 l i26 e104) 0) fun e=>
           match e with
           | .inl k144=>
            some (.inl (W (i26+1)))
           | .inr rr145=>
            some (.inr (.inr rr145))
   else
    Option.bind (H3 e104.Value) fun x154=>
    if(!x154)=true then
     some (.inr (.inr false))
    else
     Option.bind (F4 e104.Ballot (W (6+me)) (W ((W (6*round))+me))) fun x157=>
     if(!x157)=true then
      some (.inr (.inr false))
     else
      Option.bind (a3L e104.Ballot 6) fun x160=>
      if(x160 !=me)=true then
       some (.inr (.inr false))
      else
       Option.bind (F4 e104.Best 0 (W (e104.Ballot-1))) fun x163=>
       if(!x163)=true then
        some (.inr (.inr false))
       else
        Option.bind (X5 e104.Mask) fun x166=>
        if(!x166)=true then
         some (.inr (.inr false))
        else
         Option.bind (I7 e104.Mask) fun x169=>
         if(!(e104.Asked==x169))=true then
          some (.inr (.inr false))
         else
          Option.bind (l5 (G5 l i26 e104) 0) fun e=>
          match e with
          | .inl k185=>
           some (.inl (W (i26+1)))
          | .inr rr186=>
           some (.inr (.inr rr186))
 else
  some (.inr (.inl i26))
def a3q (l:(List c4)) (me:Int) (round:Int):Option Bool:=
 if(decide ((l.length:Int)>12))=true then
  some false
 else
  Option.bind (l5 (P4 l me round) 0) fun e=>
  match e with
  | .inl i195=>
   some true
  | .inr rr196=>
   some rr196
theorem b1G (l:(List c4)) (me:Int) (round:Int) (r:Bool) (hm:a3q l me round=some r):d0 Tryz.prog 76 [lD 6 l c4.c,DI me,DI round] (fun x=>x=DB r):=by
 refine zy c4D [] [] [] Tryz.func76 rfl ?_
 apply vb hm<;>intro _ hm
 exact hm.rr
 obtain⟨ev197,he,hk198⟩:=a8 hm
 refine q9.ofL (P4 l me round) (fun i26=>⟨[(0,lD 6 l c4.c),(1,DI me),(2,DI round),(6,DB false),(7,DI i26),(12,DB (decide ((l.length:Int)>12)))], [],0⟩) 0 (c5.of 0 rfl (tA rfl) trivial) he ?_
 rintro fu199 i26 b hm hi200
 apply vb hm<;>intro _ hm
 obtain⟨e202,hx203,hm⟩:=a8 hm
 refine⟨_,c8 (fun _=>rfl) hx203, ?_⟩
 refine⟨rfl, ?_⟩
 refine cy hm (a1A e202.Night) fun x204 hm=> ?_
 apply vb hm<;>intro _ hm
 cases hm
 cases hi200
 have hm:=hk198
 exact hm.rr
 apply vb hm<;>intro _ hm
 obtain⟨e208,hx209,hm⟩:=a8 hm
 refine⟨_,c8 (fun _=>rfl) hx209, ?_⟩
 apply vb hm<;>intro _ hm
 cases hm
 cases hi200
 have hm:=hk198
 exact hm.rr
 refine cy hm (O8 e202.Value) fun x211 hm=> ?_
 apply vb hm<;>intro _ hm
 cases hm
 cases hi200
 have hm:=hk198
 exact hm.rr
 refine cy hm (J2 e202.Ballot (W (6+me)) (W ((W (6*round))+me))) fun x214 hm=> ?_
 apply vb hm<;>intro _ hm
 cases hm
 cases hi200
 have hm:=hk198
 exact hm.rr
 refine cy hm (b2D e202.Ballot 6) fun x217 hm=> ?_
 apply vb hm<;>intro _ hm
 cases hm
 cases hi200
 have hm:=hk198
 exact hm.rr
 refine⟨rfl, ?_⟩
 refine cy hm (J2 e202.Best 0 (W (e202.Ballot-1))) fun x220 hm=> ?_
 apply vb hm<;>intro _ hm
 cases hm
 cases hi200
 have hm:=hk198
 exact hm.rr
 refine cy hm (a4C e202.Mask) fun x223 hm=> ?_
 apply vb hm<;>intro _ hm
 cases hm
 cases hi200
 have hm:=hk198
 exact hm.rr
 refine cy hm (a4J e202.Mask) fun x226 hm=> ?_
 apply vb hm<;>intro _ hm
 cases hm
 cases hi200
 have hm:=hk198
 exact hm.rr
 obtain⟨ev244,he,hk245⟩:=a8 hm
 refine q9.ofL (G5 l i26 e202) (fun k233=>⟨[(0,lD 6 l c4.c),(1,DI me),(2,DI round),(6,DB false),(7,DI i26),(8, .own 0 0),(9,DI k233),(12,DB (decide ((l.length:Int)>12))),(16,DB (decide (i26<(l.length:Int)))),(47,DB (!x211)),(64,DB (x217 !=me)),(85,DB (!(e202.Asked==x226)))], [(0, .blk (c4.c e202) 108)],1⟩) 0 (c5.of 1 rfl (tA rfl) ⟨hR rfl,trivial⟩) he ?_
 rintro fu246 k233 b hm hi247
 apply vb hm<;>intro _ hm
 refine⟨rfl, ?_⟩
 obtain⟨e249,hx250,hm⟩:=a8 hm
 refine⟨_,c8 (fun _=>rfl) hx250, ?_⟩
 apply vb hm<;>intro _ hm
 cases hm
 cases hi247
 have hm:=hk245
 cases hm
 cases hi200
 have hm:=hk198
 exact hm.rr
 cases hm
 exact⟨(_,(W (k233+1))),c5.of 1 rfl (tA rfl) ⟨hR rfl,trivial⟩,hi247,Nat.lt_succ_self _⟩
 cases hm
 cases hi247
 have hm:=hk245
 cases hm
 exact⟨(_,(W (i26+1))),c5.of 0 rfl (tA rfl) trivial,hi200,Nat.lt_succ_self _⟩
 refine cy hm (O8 e202.Value) fun x252 hm=> ?_
 apply vb hm<;>intro _ hm
 cases hm
 cases hi200
 have hm:=hk198
 exact hm.rr
 refine cy hm (J2 e202.Ballot (W (6+me)) (W ((W (6*round))+me))) fun x255 hm=> ?_
 apply vb hm<;>intro _ hm
 cases hm
 cases hi200
 have hm:=hk198
 exact hm.rr
 refine cy hm (b2D e202.Ballot 6) fun x258 hm=> ?_
 apply vb hm<;>intro _ hm
 cases hm
 cases hi200
 have hm:=hk198
 exact hm.rr
 refine⟨rfl, ?_⟩
 refine cy hm (J2 e202.Best 0 (W (e202.Ballot-1))) fun x261 hm=> ?_
 apply vb hm<;>intro _ hm
 cases hm
 cases hi200
 have hm:=hk198
 exact hm.rr
 refine cy hm (a4C e202.Mask) fun x264 hm=> ?_
 apply vb hm<;>intro _ hm
 cases hm
 cases hi200
 have hm:=hk198
 exact hm.rr
 refine cy hm (a4J e202.Mask) fun x267 hm=> ?_
 apply vb hm<;>intro _ hm
 cases hm
 cases hi200
 have hm:=hk198
 exact hm.rr
 obtain⟨ev285,he,hk286⟩:=a8 hm
 refine q9.ofL (G5 l i26 e202) (fun k274=>⟨[(0,lD 6 l c4.c),(1,DI me),(2,DI round),(6,DB false),(7,DI i26),(8, .own 0 0),(9,DI k274),(12,DB (decide ((l.length:Int)>12))),(16,DB (decide (i26<(l.length:Int)))),(47,DB (!x252)),(64,DB (x258 !=me)),(85,DB (!(e202.Asked==x267)))], [(0, .blk (c4.c e202) 108)],1⟩) 0 (c5.of 1 rfl (tA rfl) ⟨hR rfl,trivial⟩) he ?_
 rintro fu287 k274 b hm hi288
 apply vb hm<;>intro _ hm
 refine⟨rfl, ?_⟩
 obtain⟨e290,hx291,hm⟩:=a8 hm
 refine⟨_,c8 (fun _=>rfl) hx291, ?_⟩
 apply vb hm<;>intro _ hm
 cases hm
 cases hi288
 have hm:=hk286
 cases hm
 cases hi200
 have hm:=hk198
 exact hm.rr
 cases hm
 exact⟨(_,(W (k274+1))),c5.of 1 rfl (tA rfl) ⟨hR rfl,trivial⟩,hi288,Nat.lt_succ_self _⟩
 cases hm
 cases hi288
 have hm:=hk286
 cases hm
 exact⟨(_,(W (i26+1))),c5.of 0 rfl (tA rfl) trivial,hi200,Nat.lt_succ_self _⟩
 cases hm
 cases hi200
 have hm:=hk198
 exact hm.rr
def N5 (l:(List b4)):Int→Option (Sum Int (Sum Int Bool)):=fun i18=>
 if(decide (i18<(l.length:Int)))=true then
  Option.bind (idx l i18) fun e46=>
  Option.bind (S8 e46.Night) fun x48=>
  if(!x48)=true then
   some (.inr (.inr false))
  else
   Option.bind (U6 e46.Ballot) fun x51=>
   if(!x51)=true then
    some (.inr (.inr false))
   else
    Option.bind (H3 e46.Value) fun x54=>
    if(!x54)=true then
     some (.inr (.inr false))
    else
     Option.bind (X5 e46.Mask) fun x57=>
     if(!x57)=true then
      some (.inr (.inr false))
     else
      if(e46.Mask==0)=true then
       some (.inr (.inr false))
      else
       if(decide (i18>0))=true then
        Option.bind (idx l (W (i18-1))) fun e62=>
        if(decide (e62.Ballot>e46.Ballot))=true then
         some (.inr (.inr false))
        else
         Option.bind (idx l (W (i18-1))) fun e65=>
         if(e65.Ballot==e46.Ballot)=true then
          Option.bind (idx l (W (i18-1))) fun e68=>
          if(decide (e68.Night≥e46.Night))=true then
           some (.inr (.inr false))
          else
           some (.inl (W (i18+1)))
         else
          some (.inl (W (i18+1)))
       else
        some (.inl (W (i18+1)))
 else
  some (.inr (.inl i18))
def a2Q (l:(List b4)):Option Bool:=
 if(decide ((l.length:Int)>60))=true then
  some false
 else
  Option.bind (l5 (N5 l) 0) fun e=>
  match e with
  | .inl i71=>
   some true
  | .inr rr72=>
   some rr72
theorem b0a (l:(List b4)) (r:Bool) (hm:a2Q l=some r):d0 Tryz.prog 77 [lD 4 l b4.c] (fun x=>x=DB r):=by
 refine zy c5g [] [] [] Tryz.func77 rfl ?_
 apply vb hm<;>intro _ hm
 exact hm.rr
 obtain⟨ev73,he,hk74⟩:=a8 hm
 refine q9.ofL (N5 l) (fun i18=>⟨[(0,lD 4 l b4.c),(2,DB false),(3,DI i18),(7,DB (decide ((l.length:Int)>60)))], [],0⟩) 0 (c5.of 0 rfl (tA rfl) trivial) he ?_
 rintro fu75 i18 b hm hi76
 apply vb hm<;>intro _ hm
 obtain⟨e78,hx79,hm⟩:=a8 hm
 refine⟨_,c8 (fun _=>rfl) hx79, ?_⟩
 refine cy hm (a1A e78.Night) fun x80 hm=> ?_
 apply vb hm<;>intro _ hm
 cases hm
 cases hi76
 have hm:=hk74
 exact hm.rr
 refine cy hm (a2I e78.Ballot) fun x83 hm=> ?_
 apply vb hm<;>intro _ hm
 cases hm
 cases hi76
 have hm:=hk74
 exact hm.rr
 refine cy hm (O8 e78.Value) fun x86 hm=> ?_
 apply vb hm<;>intro _ hm
 cases hm
 cases hi76
 have hm:=hk74
 exact hm.rr
 refine cy hm (a4C e78.Mask) fun x89 hm=> ?_
 apply vb hm<;>intro _ hm
 cases hm
 cases hi76
 have hm:=hk74
 exact hm.rr
 apply vb hm<;>intro _ hm
 cases hm
 cases hi76
 have hm:=hk74
 exact hm.rr
 refine⟨rfl, ?_⟩
 apply vb hm<;>intro _ hm
 obtain⟨e94,hx95,hm⟩:=a8 hm
 refine⟨_,c8 (fun _=>rfl) hx95, ?_⟩
 apply vb hm<;>intro _ hm
 cases hm
 cases hi76
 have hm:=hk74
 exact hm.rr
 obtain⟨e97,hx98,hm⟩:=a8 hm
 refine⟨_,c8 (fun _=>rfl) hx98, ?_⟩
 apply vb hm<;>intro _ hm
 obtain⟨e100,hx101,hm⟩:=a8 hm
 refine⟨_,c8 (fun _=>rfl) hx101, ?_⟩
 apply vb hm<;>intro _ hm
 cases hm
 cases hi76
 have hm:=hk74
 exact hm.rr
 cases hm
 exact⟨(_,(W (i18+1))),c5.of 0 rfl (tA rfl) trivial,hi76,Nat.lt_succ_self _⟩
 cases hm
 exact⟨(_,(W (i18+1))),c5.of 0 rfl (tA rfl) trivial,hi76,Nat.lt_succ_self _⟩
 cases hm
 exact⟨(_,(W (i18+1))),c5.of 0 rfl (tA rfl) trivial,hi76,Nat.lt_succ_self _⟩
 cases hm
 cases hi76
 have hm:=hk74
 exact hm.rr
def Y9 (n:Int):Option Bool:=
 Option.bind (F4 n 1 99) fun x1=>
 some x1
theorem a3u (n:Int) (r:Bool) (hm:Y9 n=some r):d0 Tryz.prog 72 [DI n] (fun x=>x=DB r):=by
 refine zn Tryz.func72 rfl ?_
 refine cy hm (J2 n 1 99) fun x1 hm=> ?_
 exact hm.rr
def L7 (n:Int):Option Bool:=
 Option.bind (F4 n 0 144001439) fun x1=>
 some x1
theorem U7 (n:Int) (r:Bool) (hm:L7 n=some r):d0 Tryz.prog 84 [DI n] (fun x=>x=DB r):=by
 refine zn Tryz.func84 rfl ?_
 refine cy hm (J2 n 0 144001439) fun x1 hm=> ?_
 exact hm.rr
def a4E (a:a7) (b_:a7):Option Bool:=
 if(a.Thing==b_.Thing)=true then
  some (decide ((if b_.From>a.From then b_.From else a.From)<(if b_.Until<a.Until then b_.Until else a.Until)))
 else
  some false
theorem b5w (a:a7) (b_:a7) (r:Bool) (hm:a4E a b_=some r):d0 Tryz.prog 93 [.agg (a7.c a), .agg (a7.c b_)] (fun x=>x=DB r):=by
 refine zn Tryz.func93 rfl ?_
 apply vb hm<;>intro _ hm
 exact hm.rr
 exact hm.rr
def L4 (l:(List a7)) (i21:Int) (e63:a7):Int→Option (Sum Int (Sum Int Bool)):=fun k87=>
 if(decide (k87<i21))=true then
  Option.bind (idx l k87) fun e95=>
  Option.bind (a4E e95 e63) fun x97=>
  if x97=true then
   some (.inr (.inr false))
  else
   some (.inl (W (k87+1)))
 else
  some (.inr (.inl k87))
def M2 (l:(List a7)) (me:Int):Int→Option (Sum Int (Sum Int Bool)):=fun i21=>
 if(decide (i21<(l.length:Int)))=true then
  Option.bind (idx l i21) fun e63=>
  if(e63.No !=(W (i21+1)))=true then
   some (.inr (.inr false))
  else
   Option.bind (Y9 e63.Thing) fun x66=>
   if(!x66)=true then
    some (.inr (.inr false))
   else
    if((e63.Thing.tmod 6) !=me)=true then
     some (.inr (.inr false))
    else
     Option.bind (Z0 e63.To) fun x70=>
     if(!x70)=true then
      some (.inr (.inr false))
     else
      if(e63.To==me)=true then
       some (.inr (.inr false))
      else
       Option.bind (L7 e63.From) fun x74=>
       if(!x74)=true then
        some (.inr (.inr false))
       else
        Option.bind (L7 e63.Until) fun x77=>
        if(!x77)=true then
         some (.inr (.inr false))
        else
         if(decide (e63.From>e63.Until))=true then
          some (.inr (.inr false))
         else
          Option.bind (l5 (L4 l i21 e63) 0) fun e=>
          match e with
          | .inl k100=>
           some (.inl (W (i21+1)))
          | .inr rr101=>
           some (.inr (.inr rr101))
 else
  some (.inr (.inl i21))
def a1S (l:(List a7)) (me:Int):Option Bool:=
 if(decide ((l.length:Int)>40))=true then
  some false
 else
  Option.bind (l5 (M2 l me) 0) fun e=>
  match e with
  | .inl i112=>
   some true
  | .inr rr113=>
   some rr113
theorem a9s (l:(List a7)) (me:Int) (r:Bool) (hm:a1S l me=some r):d0 Tryz.prog 78 [lD 5 l a7.c,DI me] (fun x=>x=DB r):=by
 refine zy c5m [] [] [] Tryz.func78 rfl ?_
 apply vb hm<;>intro _ hm
 exact hm.rr
 obtain⟨ev114,he,hk115⟩:=a8 hm
 refine q9.ofL (M2 l me) (fun i21=>⟨[(0,lD 5 l a7.c),(1,DI me),(4,DB false),(5,DI i21),(10,DB (decide ((l.length:Int)>40)))], [],0⟩) 0 (c5.of 0 rfl (tA rfl) trivial) he ?_
 rintro fu116 i21 b hm hi117
 apply vb hm<;>intro _ hm
 obtain⟨e119,hx120,hm⟩:=a8 hm
 refine⟨_,c8 (fun _=>rfl) hx120, ?_⟩
 apply vb hm<;>intro _ hm
 cases hm
 cases hi117
 have hm:=hk115
 exact hm.rr
 refine cy hm (a3u e119.Thing) fun x122 hm=> ?_
 apply vb hm<;>intro _ hm
 cases hm
 cases hi117
 have hm:=hk115
 exact hm.rr
 refine⟨by decide, ?_⟩
 apply vb hm<;>intro _ hm
 cases hm
 cases hi117
 have hm:=hk115
 exact hm.rr
 refine cy hm (a3y e119.To) fun x126 hm=> ?_
 apply vb hm<;>intro _ hm
 cases hm
 cases hi117
 have hm:=hk115
 exact hm.rr
 apply vb hm<;>intro _ hm
 cases hm
 cases hi117
 have hm:=hk115
 exact hm.rr
 refine cy hm (U7 e119.From) fun x130 hm=> ?_
 apply vb hm<;>intro _ hm
 cases hm
 cases hi117
 have hm:=hk115
 exact hm.rr
 refine cy hm (U7 e119.Until) fun x133 hm=> ?_
 apply vb hm<;>intro _ hm
 cases hm
 cases hi117
 have hm:=hk115
 exact hm.rr
 apply vb hm<;>intro _ hm
 cases hm
 cases hi117
 have hm:=hk115
 exact hm.rr
 obtain⟨ev158,he,hk159⟩:=a8 hm
 refine q9.ofL (L4 l i21 e119) (fun k143=>⟨[(0,lD 5 l a7.c),(1,DI me),(4,DB false),(5,DI i21),(6, .own 0 0),(7,DI k143),(10,DB (decide ((l.length:Int)>40))),(14,DB (decide (i21<(l.length:Int)))),(69,DB (decide (e119.From>e119.Until)))], [(0, .blk (a7.c e119) 112)],1⟩) 0 (c5.of 1 rfl (tA rfl) ⟨hR rfl,trivial⟩) he ?_
 rintro fu160 k143 b hm hi161
 apply vb hm<;>intro _ hm
 refine⟨rfl, ?_⟩
 obtain⟨e163,hx164,hm⟩:=a8 hm
 refine⟨_,c8 (fun _=>rfl) hx164, ?_⟩
 refine cy hm (b5w e163 e119) fun x165 hm=> ?_
 apply vb hm<;>intro _ hm
 cases hm
 cases hi161
 have hm:=hk159
 cases hm
 cases hi117
 have hm:=hk115
 exact hm.rr
 cases hm
 exact⟨(_,(W (k143+1))),c5.of 1 rfl (tA rfl) ⟨hR rfl,trivial⟩,hi161,Nat.lt_succ_self _⟩
 cases hm
 cases hi161
 have hm:=hk159
 cases hm
 exact⟨(_,(W (i21+1))),c5.of 0 rfl (tA rfl) trivial,hi117,Nat.lt_succ_self _⟩
 cases hm
 cases hi117
 have hm:=hk115
 exact hm.rr
def N1 (l:(List b9)) (me:Int):Int→Option (Sum Int (Sum Int Bool)):=fun i23=>
 if(decide (i23<(l.length:Int)))=true then
  Option.bind (idx l i23) fun e56=>
  Option.bind (Z0 e56.Owner) fun x58=>
  if(!x58)=true then
   some (.inr (.inr false))
  else
   if(e56.Owner==me)=true then
    some (.inr (.inr false))
   else
    Option.bind (F4 e56.No 1 40) fun x62=>
    if(!x62)=true then
     some (.inr (.inr false))
    else
     Option.bind (Y9 e56.Thing) fun x65=>
     if(!x65)=true then
      some (.inr (.inr false))
     else
      if((e56.Thing.tmod 6) !=e56.Owner)=true then
       some (.inr (.inr false))
      else
       Option.bind (L7 e56.From) fun x69=>
       if(!x69)=true then
        some (.inr (.inr false))
       else
        Option.bind (L7 e56.Until) fun x72=>
        if(!x72)=true then
         some (.inr (.inr false))
        else
         if(decide (e56.From>e56.Until))=true then
          some (.inr (.inr false))
         else
          if(decide (i23>0))=true then
           Option.bind (idx l (W (i23-1))) fun e77=>
           if(decide (e77.Owner>e56.Owner))=true then
            some (.inr (.inr false))
           else
            Option.bind (idx l (W (i23-1))) fun e80=>
            if(e80.Owner==e56.Owner)=true then
             Option.bind (idx l (W (i23-1))) fun e83=>
             if(decide (e83.No≥e56.No))=true then
              some (.inr (.inr false))
             else
              some (.inl (W (i23+1)))
            else
             some (.inl (W (i23+1)))
          else
           some (.inl (W (i23+1)))
 else
  some (.inr (.inl i23))
def a2J (l:(List b9)) (me:Int):Option Bool:=
 if(decide ((l.length:Int)>60))=true then
  some false
 else
  Option.bind (l5 (N1 l me) 0) fun e=>
  match e with
  | .inl i86=>
   some true
  | .inr rr87=>
   some rr87
theorem b1a (l:(List b9)) (me:Int) (r:Bool) (hm:a2J l me=some r):d0 Tryz.prog 79 [lD 6 l b9.c,DI me] (fun x=>x=DB r):=by
 refine zy c5e [] [] [] Tryz.func79 rfl ?_
 apply vb hm<;>intro _ hm
 exact hm.rr
 obtain⟨ev88,he,hk89⟩:=a8 hm
 refine q9.ofL (N1 l me) (fun i23=>⟨[(0,lD 6 l b9.c),(1,DI me),(4,DB false),(5,DI i23),(9,DB (decide ((l.length:Int)>60)))], [],0⟩) 0 (c5.of 0 rfl (tA rfl) trivial) he ?_
 rintro fu90 i23 b hm hi91
 apply vb hm<;>intro _ hm
 obtain⟨e93,hx94,hm⟩:=a8 hm
 refine⟨_,c8 (fun _=>rfl) hx94, ?_⟩
 refine cy hm (a3y e93.Owner) fun x95 hm=> ?_
 apply vb hm<;>intro _ hm
 cases hm
 cases hi91
 have hm:=hk89
 exact hm.rr
 apply vb hm<;>intro _ hm
 cases hm
 cases hi91
 have hm:=hk89
 exact hm.rr
 refine cy hm (J2 e93.No 1 40) fun x99 hm=> ?_
 apply vb hm<;>intro _ hm
 cases hm
 cases hi91
 have hm:=hk89
 exact hm.rr
 refine cy hm (a3u e93.Thing) fun x102 hm=> ?_
 apply vb hm<;>intro _ hm
 cases hm
 cases hi91
 have hm:=hk89
 exact hm.rr
 refine⟨by decide, ?_⟩
 apply vb hm<;>intro _ hm
 cases hm
 cases hi91
 have hm:=hk89
 exact hm.rr
 refine cy hm (U7 e93.From) fun x106 hm=> ?_
 apply vb hm<;>intro _ hm
 cases hm
 cases hi91
 have hm:=hk89
 exact hm.rr
 refine cy hm (U7 e93.Until) fun x109 hm=> ?_
 apply vb hm<;>intro _ hm
 cases hm
 cases hi91
 have hm:=hk89
 exact hm.rr
 apply vb hm<;>intro _ hm
 cases hm
 cases hi91
 have hm:=hk89
 exact hm.rr
 refine⟨rfl, ?_⟩
 apply vb hm<;>intro _ hm
 obtain⟨e114,hx115,hm⟩:=a8 hm
 refine⟨_,c8 (fun _=>rfl) hx115, ?_⟩
 apply vb hm<;>intro _ hm
 cases hm
 cases hi91
 have hm:=hk89
 exact hm.rr
 obtain⟨e117,hx118,hm⟩:=a8 hm
 refine⟨_,c8 (fun _=>rfl) hx118, ?_⟩
 apply vb hm<;>intro _ hm
 obtain⟨e120,hx121,hm⟩:=a8 hm
 refine⟨_,c8 (fun _=>rfl) hx121, ?_⟩
 apply vb hm<;>intro _ hm
 cases hm
 cases hi91
 have hm:=hk89
 exact hm.rr
 cases hm
 exact⟨(_,(W (i23+1))),c5.of 0 rfl (tA rfl) trivial,hi91,Nat.lt_succ_self _⟩
 cases hm
 exact⟨(_,(W (i23+1))),c5.of 0 rfl (tA rfl) trivial,hi91,Nat.lt_succ_self _⟩
 cases hm
 exact⟨(_,(W (i23+1))),c5.of 0 rfl (tA rfl) trivial,hi91,Nat.lt_succ_self _⟩
 cases hm
 cases hi91
 have hm:=hk89
 exact hm.rr
def W6 (me:Int) (s:b5):Option Int:=
 Option.bind (Z0 me) fun x1=>
 if(!x1)=true then
  some 90
 else
  Option.bind (F4 s.Round 0 9999) fun x4=>
  if(!x4)=true then
   some 90
  else
   Option.bind (a2v s.Slots) fun x7=>
   if(!x7)=true then
    some 90
   else
    Option.bind (a3q s.Bids me s.Round) fun x10=>
    if(!x10)=true then
     some 90
    else
     Option.bind (a2Q s.Heard) fun x13=>
     if(!x13)=true then
      some 90
     else
      Option.bind (a1S s.Leases me) fun x16=>
      if(!x16)=true then
       some 90
      else
       Option.bind (a2J s.Loans me) fun x19=>
       if(!x19)=true then
        some 90
       else
        some 0
theorem a3T (me:Int) (s:b5) (r:Int) (hm:W6 me s=some r):d0 Tryz.prog 26 [DI me, .agg (b5.c s)] (fun x=>x=DI r):=by
 refine zn Tryz.func26 rfl ?_
 refine cy hm (a3y me) fun x1 hm=> ?_
 apply vb hm<;>intro _ hm
 exact hm.rr
 refine cy hm (J2 s.Round 0 9999) fun x4 hm=> ?_
 apply vb hm<;>intro _ hm
 exact hm.rr
 refine cy hm (b0D s.Slots) fun x7 hm=> ?_
 apply vb hm<;>intro _ hm
 exact hm.rr
 refine cy hm (b1G s.Bids me s.Round) fun x10 hm=> ?_
 apply vb hm<;>intro _ hm
 exact hm.rr
 refine cy hm (b0a s.Heard) fun x13 hm=> ?_
 apply vb hm<;>intro _ hm
 exact hm.rr
 refine cy hm (a9s s.Leases me) fun x16 hm=> ?_
 apply vb hm<;>intro _ hm
 exact hm.rr
 refine cy hm (b1a s.Loans me) fun x19 hm=> ?_
 apply vb hm<;>intro _ hm
 exact hm.rr
 exact hm.rr
def a3f (x:a6):Option Int:=
 Option.bind (W6 x.Me x.Now) fun x1=>
 if(x1 !=0)=true then
  some 90
 else
  Option.bind (W6 x.Me x.Safe) fun x4=>
  if(x4 !=0)=true then
   some 90
  else
   some 0
theorem b5c (x:a6) (r:Int) (hm:a3f x=some r):d0 Tryz.prog 28 [.agg (a6.c x)] (fun x=>x=DI r):=by
 refine zn Tryz.func28 rfl ?_
 refine cy hm (a3T x.Me x.Now) fun x1 hm=> ?_
 apply vb hm<;>intro _ hm
 exact hm.rr
 refine cy hm (a3T x.Me x.Safe) fun x4 hm=> ?_
 apply vb hm<;>intro _ hm
 exact hm.rr
 exact hm.rr
def a3l (p:e8) (to_:Int):Option (e8×Int):=
 some (p,to_)
theorem a7R (p:e8) (to_:Int) (r:(e8×Int)) (hm:a3l p to_=some r):d0 Tryz.prog 66 [.ptr (e8.c p) 0,DI to_] (fun x=>x= .fn 119 [] [.ptr [.ptr (e8.c r.1) 0] 0, .ptr [DI r.2] 0]):=by
 refine zn Tryz.func66 rfl ?_
 cases hm
 exact d8.le (leD.refl _)
def d9 (x:b7):List D:= [.agg (b7.c x)]
def a0B (c_0:e8) (c_1:Int):Int→Option (List b7×Sum Int Int):=fun v7=>
 if(decide (v7<(c_0.Station.Safe.Bids.length:Int)))=true then
  Option.bind (idx c_0.Station.Safe.Bids v7) fun e15=>
  if e15.Asked=true then
   emit (⟨3,c_0.Station.Me,c_1,e15.Night,e15.Ballot,0,e15.Value,0,0,0,0⟩:b7)<|
   some ([], .inl (W (v7+1)))
  else
   emit (⟨1,c_0.Station.Me,c_1,e15.Night,e15.Ballot,0,0,0,0,0,0⟩:b7)<|
   some ([], .inl (W (v7+1)))
 else
  some ([], .inr v7)
def a0w (c_0:e8) (c_1:Int):Int→Option (List b7×Sum Int Int):=fun v35=>
 if(decide (v35<(c_0.Station.Safe.Slots.length:Int)))=true then
  Option.bind (idx c_0.Station.Safe.Slots v35) fun e51=>
  Option.bind (c9 e51.Promised) fun x53=>
  if(x53==c_1)=true then
   if(decide (e51.Promised>e51.Ballot))=true then
    emit (⟨2,c_0.Station.Me,c_1,e51.Night,e51.Promised,e51.Ballot,e51.Value,0,0,0,0⟩:b7)<|
    if(e51.Ballot !=0)=true then
     emit (⟨4,c_0.Station.Me,c_1,e51.Night,e51.Ballot,0,e51.Value,0,0,0,0⟩:b7)<|
     some ([], .inl (W (v35+1)))
    else
     some ([], .inl (W (v35+1)))
   else
    if(e51.Ballot !=0)=true then
     emit (⟨4,c_0.Station.Me,c_1,e51.Night,e51.Ballot,0,e51.Value,0,0,0,0⟩:b7)<|
     some ([], .inl (W (v35+1)))
    else
     some ([], .inl (W (v35+1)))
  else
   if(e51.Ballot !=0)=true then
    emit (⟨4,c_0.Station.Me,c_1,e51.Night,e51.Ballot,0,e51.Value,0,0,0,0⟩:b7)<|
    some ([], .inl (W (v35+1)))
   else
    some ([], .inl (W (v35+1)))
 else
  some ([], .inr v35)
def a0t (c_0:e8) (c_1:Int):Int→Option (List b7×Sum Int Int):=fun v70=>
 if(decide (v70<(c_0.Station.Safe.Leases.length:Int)))=true then
  Option.bind (idx c_0.Station.Safe.Leases v70) fun e77=>
  if(e77.To==c_1)=true then
   emit (⟨5,c_0.Station.Me,c_1,0,0,0,0,e77.No,e77.Thing,e77.From,e77.Until⟩:b7)<|
   some ([], .inl (W (v70+1)))
  else
   some ([], .inl (W (v70+1)))
 else
  some ([], .inr v70)
def a0p (c_0:e8) (c_1:Int):Int→Option (List b7×Sum Int Int):=fun v88=>
 if(decide (v88<(c_0.Station.Safe.Loans.length:Int)))=true then
  Option.bind (idx c_0.Station.Safe.Loans v88) fun e96=>
  if(e96.Owner==c_1)=true then
   if e96.Back=true then
    emit (⟨6,c_0.Station.Me,c_1,0,0,0,0,e96.No,e96.Thing,0,e96.Until⟩:b7)<|
    some ([], .inl (W (v88+1)))
   else
    some ([], .inl (W (v88+1)))
  else
   some ([], .inl (W (v88+1)))
 else
  some ([], .inr v88)
def a1F (c_0:e8) (c_1:Int):Option (List b7×Unit):=
 b2J (b2R (a0B c_0 c_1) 0) fun v20=>
 b2J (b2R (a0w c_0 c_1) 0) fun v64=>
 b2J (b2R (a0t c_0 c_1) 0) fun v81=>
 b2J (b2R (a0p c_0 c_1) 0) fun v101=>
 some ([],())
def c2h:List (Nat×PT):= [(3, .of [(0, [],true),(1, [],false),(2, [],false),(3, [],false),(4, [],true),(5, [],true),(6, [],false),(7, [],true),(8, [],false),(9, [],true),(10, [],false),(11, [],false),(12, [],false)]),(5, .of [(0, [],false),(1, [],false),(2, [],false),(3, [1],false),(4, [],false),(5, [],false)]),(11, .of [(0, [],false),(1, [],false),(3, [],false),(2, [3],true),(4, [],false),(5, [],false),(6, [],false),(7, [],false),(8, [],false),(9, [],false),(10, [],false),(11, [],false),(12, [],false),(13, [],false),(14, [],false),(15, [],false),(16, [],false),(17, [],false),(18, [],false),(19, [],false),(20, [],false),(21, [],false),(22, [],false),(23, [],false),(24, [],false),(25, [],false),(26, [],false),(27, [],false),(28, [],false)]),(12, .of [(0, [],false),(1, [],false),(2, [],false),(3, [],false),(4, [],false),(5, [],false),(6, [],false),(7, [],false),(8, [],false),(9, [],false),(10, [],false),(11, [],false),(12, [],false),(13, [],false),(14, [],false),(15, [],false),(16, [],false),(17, [],false)]),(17, .of [(0, [],false),(1, [],false),(2, [],false),(3, [],false),(4, [],false),(5, [],false),(6, [],false),(7, [],false),(8, [],false),(9, [],false),(10, [],false),(11, [],false),(12, [],false),(13, [],false),(14, [],false),(15, [],false),(16, [],false),(17, [],false),(18, [],false),(19, [],false),(20, [],false)]),(22, .of [(0, [],false),(1, [],false),(2, [],false),(3, [],false),(4, [],false),(5, [],false),(6, [],false),(7, [],false),(8, [],false),(9, [],false),(10, [],false),(11, [],false),(12, [],false),(13, [],false),(14, [],false),(15, [],false),(16, [],false),(17, [],false),(18, [],false),(19, [],false),(20, [],false),(21, [],false),(22, [],false)])]
theorem a6e (c_0:e8) (c_1:Int) (xs:List b7) (hm:a1F c_0 c_1=some (xs,())):a6X Tryz.prog 119 [.ptr [.ptr (e8.c c_0) 0] 0, .ptr [DI c_1] 0] (xs.map d9):=by
 refine b9x (X:=⟨Tryz.prog,tt,Tryz.f119.ntmps,c2h, [], [], [], [], []⟩) pok _ _ [(11,29),(12,18),(17,21),(22,23)] Tryz.func119 rfl rfl (Nat.le_of_ble_eq_true rfl) rfl ?_
 intro l
 obtain⟨r,hr⟩:∃r:List b7×Unit,r=(xs,()):=⟨_,rfl⟩
 rw [←hr]at hm
 have hp:Hp3 d9 [] r.1 [] (xs.map d9):=⟨by rw [hr];simp⟩
 clear hr
 obtain⟨ev290,rr294,he,hk291,hb1,hb2⟩:=a4s hm
 replace hp:=hp.in1 hb1
 clear hb1 hb2
 refine a6w.of (fun(lpx:Nat×Int)=>match lpx with|(fu292,v7)=>(⟨[(0, .v (.func (.yield l) #[] #[])),(1, .ptr [.ptr (e8.c c_0) 0] 0),(2, .ptr [DI c_1] 0),(18,lD 6 c_0.Station.Safe.Bids c4.c),(19,DI (c_0.Station.Safe.Bids.length:Int)),(20,DI v7)], [],0⟩:Sy)) (fun lpx q=>∃e,a4G (a0B c_0 c_1) lpx.1 lpx.2=some e∧Hp3 d9 q e.1 _ _∧e.2=ev290.2) (fun lpx=>lpx.1) (a5C,0) ⟨_,he,hp,rfl⟩ (c5.of 0 rfl (tA rfl) trivial) ?_
 clear hp he
 rintro⟨fu292,v7⟩ q ⟨el296,hi293,hp,hx297⟩
 obtain⟨fu292,b,tl,rfl,hm,hb1,hi293⟩:=a4B hi293
 replace hp:=hp.in1 hb1
 clear hb1
 have hq:b.2=b.2:=rfl
 apply vb hm<;>intro _ hm
 obtain⟨e300,hx301,hm⟩:=a8 hm
 refine⟨_,c8 (fun _=>rfl) hx301, ?_⟩
 refine⟨rfl, ?_⟩
 apply vb hm<;>intro _ hm
 refine⟨rfl, ?_⟩
 obtain⟨rb303,hm,hb1,hb2⟩:=a0n hm
 refine X8.of (x':=d9 (⟨3,c_0.Station.Me,c_1,e300.Night,e300.Ballot,0,e300.Value,0,0,0,0⟩:b7)) rfl rfl (d8.le (leD.refl _)) (hp.pre hb1) ?_ ?_
 replace hp:=hp.emit hb1
 replace hq:=hq.trans hb2
 cases hm
 rw [hq]at hi293
 obtain⟨e2,hm,rfl,ht⟩:=hi293
 exact⟨(fu292,(W (v7+1))),_,c5.of 0 rfl (tA rfl) trivial,rfl,⟨_,hm,hp.out rfl,ht.symm.trans hx297⟩,Nat.lt_succ_self _⟩
 exact .inl rfl
 obtain⟨rb304,hm,hb1,hb2⟩:=a0n hm
 refine X8.of (x':=d9 (⟨1,c_0.Station.Me,c_1,e300.Night,e300.Ballot,0,0,0,0,0,0⟩:b7)) rfl rfl (d8.le (leD.refl _)) (hp.pre hb1) ?_ ?_
 replace hp:=hp.emit hb1
 replace hq:=hq.trans hb2
 cases hm
 rw [hq]at hi293
 obtain⟨e2,hm,rfl,ht⟩:=hi293
 exact⟨(fu292,(W (v7+1))),_,c5.of 0 rfl (tA rfl) trivial,rfl,⟨_,hm,hp.out rfl,ht.symm.trans hx297⟩,Nat.lt_succ_self _⟩
 exact .inl rfl
 cases hm
 rw [hq]at hi293
 obtain⟨rfl,ht⟩:=hi293
 replace hp:=(hp.out (l':= []) rfl).out rfl
 have hm:=hk291
 try rw [←hx297,ht]at hm
 clear hq
 obtain⟨ev450,rr454,he,hk451,hb1,hb2⟩:=a4s hm
 replace hp:=hp.in1 hb1
 clear hb1 hb2
 refine a6w.of (fun(lpx:Nat×Int)=>match lpx with|(fu452,v319)=>(⟨[(0, .v (.func (.yield l) #[] #[])),(1, .ptr [.ptr (e8.c c_0) 0] 0),(2, .ptr [DI c_1] 0),(18,lD 6 c_0.Station.Safe.Bids c4.c),(19,DI (c_0.Station.Safe.Bids.length:Int)),(20,DI v7),(21,DB (decide (v7<(c_0.Station.Safe.Bids.length:Int)))),(51,lD 4 c_0.Station.Safe.Slots b6.c),(52,DI (c_0.Station.Safe.Slots.length:Int)),(53,DI v319)], [],0⟩:Sy)) (fun lpx q=>∃e,a4G (a0w c_0 c_1) lpx.1 lpx.2=some e∧Hp3 d9 q e.1 _ _∧e.2=ev450.2) (fun lpx=>lpx.1) (a5C,0) ⟨_,he,hp,rfl⟩ (c5.of 0 rfl (tA rfl) trivial) ?_
 clear hp he
 rintro⟨fu452,v319⟩ q ⟨el456,hi453,hp,hx457⟩
 obtain⟨fu452,b,tl,rfl,hm,hb1,hi453⟩:=a4B hi453
 replace hp:=hp.in1 hb1
 clear hb1
 have hq:b.2=b.2:=rfl
 apply vb hm<;>intro _ hm
 obtain⟨e460,hx461,hm⟩:=a8 hm
 refine⟨_,c8 (fun _=>rfl) hx461, ?_⟩
 refine⟨rfl,rfl, ?_⟩
 refine cy hm (e9 e460.Promised) fun x462 hm=> ?_
 apply vb hm<;>intro _ hm
 apply vb hm<;>intro _ hm
 obtain⟨rb468,hm,hb1,hb2⟩:=a0n hm
 refine X8.fz [0] rfl (a6R.of (x':=d9 (⟨2,c_0.Station.Me,c_1,e460.Night,e460.Promised,e460.Ballot,e460.Value,0,0,0,0⟩:b7)) rfl rfl (d8.le (leD.refl _)) (hp.pre hb1) ?_ ?_)
 replace hp:=hp.emit hb1
 replace hq:=hq.trans hb2
 refine⟨rfl,rfl, ?_⟩
 apply vb hm<;>intro _ hm
 obtain⟨rb467,hm,hb1,hb2⟩:=a0n hm
 refine X8.of (x':=d9 (⟨4,c_0.Station.Me,c_1,e460.Night,e460.Ballot,0,e460.Value,0,0,0,0⟩:b7)) rfl rfl (d8.le (leD.refl _)) (hp.pre hb1) ?_ ?_
 replace hp:=hp.emit hb1
 replace hq:=hq.trans hb2
 cases hm
 rw [hq]at hi453
 obtain⟨e2,hm,rfl,ht⟩:=hi453
 exact⟨(fu452,(W (v319+1))),_,c5.of 0 rfl (tA rfl) trivial,rfl,⟨_,hm,hp.out rfl,ht.symm.trans hx457⟩,Nat.lt_succ_self _⟩
 exact .inl rfl
 cases hm
 rw [hq]at hi453
 obtain⟨e2,hm,rfl,ht⟩:=hi453
 exact⟨(fu452,(W (v319+1))),_,c5.of 0 rfl (tA rfl) trivial,rfl,⟨_,hm,hp.out rfl,ht.symm.trans hx457⟩,Nat.lt_succ_self _⟩
 exact .inl rfl
 refine⟨rfl,rfl, ?_⟩
 apply vb hm<;>intro _ hm
 obtain⟨rb470,hm,hb1,hb2⟩:=a0n hm
 refine X8.of (x':=d9 (⟨4,c_0.Station.Me,c_1,e460.Night,e460.Ballot,0,e460.Value,0,0,0,0⟩:b7)) rfl rfl (d8.le (leD.refl _)) (hp.pre hb1) ?_ ?_
 replace hp:=hp.emit hb1
 replace hq:=hq.trans hb2
 cases hm
 rw [hq]at hi453
 obtain⟨e2,hm,rfl,ht⟩:=hi453
 exact⟨(fu452,(W (v319+1))),_,c5.of 0 rfl (tA rfl) trivial,rfl,⟨_,hm,hp.out rfl,ht.symm.trans hx457⟩,Nat.lt_succ_self _⟩
 exact .inl rfl
 cases hm
 rw [hq]at hi453
 obtain⟨e2,hm,rfl,ht⟩:=hi453
 exact⟨(fu452,(W (v319+1))),_,c5.of 0 rfl (tA rfl) trivial,rfl,⟨_,hm,hp.out rfl,ht.symm.trans hx457⟩,Nat.lt_succ_self _⟩
 refine⟨rfl,rfl, ?_⟩
 apply vb hm<;>intro _ hm
 obtain⟨rb472,hm,hb1,hb2⟩:=a0n hm
 refine X8.of (x':=d9 (⟨4,c_0.Station.Me,c_1,e460.Night,e460.Ballot,0,e460.Value,0,0,0,0⟩:b7)) rfl rfl (d8.le (leD.refl _)) (hp.pre hb1) ?_ ?_
 replace hp:=hp.emit hb1
 replace hq:=hq.trans hb2
 cases hm
 rw [hq]at hi453
 obtain⟨e2,hm,rfl,ht⟩:=hi453
 exact⟨(fu452,(W (v319+1))),_,c5.of 0 rfl (tA rfl) trivial,rfl,⟨_,hm,hp.out rfl,ht.symm.trans hx457⟩,Nat.lt_succ_self _⟩
 exact .inl rfl
 cases hm
 rw [hq]at hi453
 obtain⟨e2,hm,rfl,ht⟩:=hi453
 exact⟨(fu452,(W (v319+1))),_,c5.of 0 rfl (tA rfl) trivial,rfl,⟨_,hm,hp.out rfl,ht.symm.trans hx457⟩,Nat.lt_succ_self _⟩
 cases hm
 rw [hq]at hi453
 obtain⟨rfl,ht⟩:=hi453
 replace hp:=(hp.out (l':= []) rfl).out rfl
 have hm:=hk451
 try rw [←hx457,ht]at hm
 clear hq
 obtain⟨ev525,rr529,he,hk526,hb1,hb2⟩:=a4s hm
 replace hp:=hp.in1 hb1
 clear hb1 hb2
 refine a6w.of (fun(lpx:Nat×Int)=>match lpx with|(fu527,v478)=>(⟨[(0, .v (.func (.yield l) #[] #[])),(1, .ptr [.ptr (e8.c c_0) 0] 0),(2, .ptr [DI c_1] 0),(18,lD 6 c_0.Station.Safe.Bids c4.c),(19,DI (c_0.Station.Safe.Bids.length:Int)),(20,DI v7),(21,DB (decide (v7<(c_0.Station.Safe.Bids.length:Int)))),(51,lD 4 c_0.Station.Safe.Slots b6.c),(52,DI (c_0.Station.Safe.Slots.length:Int)),(53,DI v319),(54,DB (decide (v319<(c_0.Station.Safe.Slots.length:Int)))),(116,lD 5 c_0.Station.Safe.Leases a7.c),(117,DI (c_0.Station.Safe.Leases.length:Int)),(118,DI v478)], [],0⟩:Sy)) (fun lpx q=>∃e,a4G (a0t c_0 c_1) lpx.1 lpx.2=some e∧Hp3 d9 q e.1 _ _∧e.2=ev525.2) (fun lpx=>lpx.1) (a5C,0) ⟨_,he,hp,rfl⟩ (c5.of 0 rfl (tA rfl) trivial) ?_
 clear hp he
 rintro⟨fu527,v478⟩ q ⟨el531,hi528,hp,hx532⟩
 obtain⟨fu527,b,tl,rfl,hm,hb1,hi528⟩:=a4B hi528
 replace hp:=hp.in1 hb1
 clear hb1
 have hq:b.2=b.2:=rfl
 apply vb hm<;>intro _ hm
 obtain⟨e535,hx536,hm⟩:=a8 hm
 refine⟨_,c8 (fun _=>rfl) hx536, ?_⟩
 refine⟨rfl,rfl, ?_⟩
 apply vb hm<;>intro _ hm
 obtain⟨rb538,hm,hb1,hb2⟩:=a0n hm
 refine X8.of (x':=d9 (⟨5,c_0.Station.Me,c_1,0,0,0,0,e535.No,e535.Thing,e535.From,e535.Until⟩:b7)) rfl rfl (d8.le (leD.refl _)) (hp.pre hb1) ?_ ?_
 replace hp:=hp.emit hb1
 replace hq:=hq.trans hb2
 cases hm
 rw [hq]at hi528
 obtain⟨e2,hm,rfl,ht⟩:=hi528
 exact⟨(fu527,(W (v478+1))),_,c5.of 0 rfl (tA rfl) trivial,rfl,⟨_,hm,hp.out rfl,ht.symm.trans hx532⟩,Nat.lt_succ_self _⟩
 exact .inl rfl
 cases hm
 rw [hq]at hi528
 obtain⟨e2,hm,rfl,ht⟩:=hi528
 exact⟨(fu527,(W (v478+1))),_,c5.of 0 rfl (tA rfl) trivial,rfl,⟨_,hm,hp.out rfl,ht.symm.trans hx532⟩,Nat.lt_succ_self _⟩
 cases hm
 rw [hq]at hi528
 obtain⟨rfl,ht⟩:=hi528
 replace hp:=(hp.out (l':= []) rfl).out rfl
 have hm:=hk526
 try rw [←hx532,ht]at hm
 clear hq
 obtain⟨ev559,rr563,he,hk560,hb1,hb2⟩:=a4s hm
 replace hp:=hp.in1 hb1
 clear hb1 hb2
 refine a6w.of (fun(lpx:Nat×Int)=>match lpx with|(fu561,v545)=>(⟨[(0, .v (.func (.yield l) #[] #[])),(1, .ptr [.ptr (e8.c c_0) 0] 0),(2, .ptr [DI c_1] 0),(18,lD 6 c_0.Station.Safe.Bids c4.c),(19,DI (c_0.Station.Safe.Bids.length:Int)),(20,DI v7),(21,DB (decide (v7<(c_0.Station.Safe.Bids.length:Int)))),(51,lD 4 c_0.Station.Safe.Slots b6.c),(52,DI (c_0.Station.Safe.Slots.length:Int)),(53,DI v319),(54,DB (decide (v319<(c_0.Station.Safe.Slots.length:Int)))),(116,lD 5 c_0.Station.Safe.Leases a7.c),(117,DI (c_0.Station.Safe.Leases.length:Int)),(118,DI v478),(119,DB (decide (v478<(c_0.Station.Safe.Leases.length:Int)))),(152,lD 6 c_0.Station.Safe.Loans b9.c),(153,DI (c_0.Station.Safe.Loans.length:Int)),(154,DI v545)], [],0⟩:Sy)) (fun lpx q=>∃e,a4G (a0p c_0 c_1) lpx.1 lpx.2=some e∧Hp3 d9 q e.1 _ _∧e.2=ev559.2) (fun lpx=>lpx.1) (a5C,0) ⟨_,he,hp,rfl⟩ (c5.of 0 rfl (tA rfl) trivial) ?_
 clear hp he
 rintro⟨fu561,v545⟩ q ⟨el565,hi562,hp,hx566⟩
 obtain⟨fu561,b,tl,rfl,hm,hb1,hi562⟩:=a4B hi562
 replace hp:=hp.in1 hb1
 clear hb1
 have hq:b.2=b.2:=rfl
 apply vb hm<;>intro _ hm
 obtain⟨e569,hx570,hm⟩:=a8 hm
 refine⟨_,c8 (fun _=>rfl) hx570, ?_⟩
 refine⟨rfl,rfl, ?_⟩
 apply vb hm<;>intro _ hm
 apply vb hm<;>intro _ hm
 obtain⟨rb573,hm,hb1,hb2⟩:=a0n hm
 refine X8.of (x':=d9 (⟨6,c_0.Station.Me,c_1,0,0,0,0,e569.No,e569.Thing,0,e569.Until⟩:b7)) rfl rfl (d8.le (leD.refl _)) (hp.pre hb1) ?_ ?_
 replace hp:=hp.emit hb1
 replace hq:=hq.trans hb2
 cases hm
 rw [hq]at hi562
 obtain⟨e2,hm,rfl,ht⟩:=hi562
 exact⟨(fu561,(W (v545+1))),_,c5.of 0 rfl (tA rfl) trivial,rfl,⟨_,hm,hp.out rfl,ht.symm.trans hx566⟩,Nat.lt_succ_self _⟩
 exact .inl rfl
 cases hm
 rw [hq]at hi562
 obtain⟨e2,hm,rfl,ht⟩:=hi562
 exact⟨(fu561,(W (v545+1))),_,c5.of 0 rfl (tA rfl) trivial,rfl,⟨_,hm,hp.out rfl,ht.symm.trans hx566⟩,Nat.lt_succ_self _⟩
 cases hm
 rw [hq]at hi562
 obtain⟨e2,hm,rfl,ht⟩:=hi562
 exact⟨(fu561,(W (v545+1))),_,c5.of 0 rfl (tA rfl) trivial,rfl,⟨_,hm,hp.out rfl,ht.symm.trans hx566⟩,Nat.lt_succ_self _⟩
 cases hm
 rw [hq]at hi562
 obtain⟨rfl,ht⟩:=hi562
 replace hp:=(hp.out (l':= []) rfl).out rfl
 have hm:=hk560
 try rw [←hx566,ht]at hm
 clear hq
 cases hm
 exact .inr (congrArg some (hp.done rfl))
def s8:(List b7)→b7→Option (Sum (List b7) Unit):=fun v2 y1=>
 gd ((v2.length+([y1]:List b7).length)*88≤140737488355328∧v2.length+([y1]:List b7).length≤9223372036854775807)<|
 some (.inl (v2++([y1]:List b7)))
def u7 (c1_0:e8) (c1_1:Int):Option (List b7):=
 Option.bind (a1F c1_0 c1_1) fun l3=>
 Option.bind (a0c s8 l3.1 []) fun e=>
 match e with
 | .inl v4=>
  some v4
 | .inr _=>none
theorem H9 (c1_0:e8) (c1_1:Int) (r:(List b7)) (hm:u7 c1_0 c1_1=some r):d0 Tryz.prog 118 [nS, .fn 119 [] [.ptr [.ptr (e8.c c1_0) 0] 0, .ptr [DI c1_1] 0]] (fun x=>x=lD 11 r b7.c):=by
 refine c1i (X:=⟨Tryz.prog,tt,Tryz.f118.ntmps, [], [], [], [], [], []⟩) pok _ Tryz.func118 rfl rfl (Nat.le_of_ble_eq_true rfl) ?_
 intro ds
 intro ds
 obtain⟨l3,hl6,hm⟩:=a8 hm
 obtain⟨ev5,he,hm⟩:=a8 hm
 refine a4m.ofZ (E:=Unit) d9 l3.1 s8 (fun(lpx:(List b7))=>match lpx with|v2=>(⟨[(0,nS),(1, .fn 119 [] [.ptr [.ptr (e8.c c1_0) 0] 0, .ptr [DI c1_1] 0]),(2, .own 0 0),(4,nS)], [(0, .blk [.row 1 11] 34),(1,rE 11 v2 b7.c 42)],2⟩:Sy)) (fun(_:Unit)=>(⟨[], [],0⟩:Sy)) (fun _=> .ret) [] ev5 [0,1,2,4] (a6e c1_0 c1_1 l3.1 hl6) he (b9L pok Tryz.func119 rfl) rfl rfl (fun _=>rfl) rfl rfl rfl (by rintro v2;rfl) (by intro _;rfl) (c5.of 1 rfl (tA rfl) ⟨hR rfl,⟨rfl,rfl⟩,trivial⟩) ?_ ?_ (fun _=> .inl rfl) ?_
 rintro v4 rfl
 intro ds
 intro ds
 cases hm
 exact d8.le (leD.refl _)
 rintro _ rfl
 cases hm
 clear he hm
 rintro v2 y1 b hm
 refine⟨([y1]:List b7).flatMap b7.c,([y1]:List b7).length,⟨rfl,rfl⟩, ?_⟩
 obtain⟨hg,hm⟩:=i4 hm
 refine⟨hg,_,_,G8 (c:=b7.c) (l:=(v2:List b7)) (r:=(([y1]:List b7):List b7)), ?_⟩
 cases hm
 exact⟨(v2++([y1]:List b7)),rfl,c5.of 2 rfl (tA rfl) ⟨hR rfl,hW rfl,trivial⟩⟩
def F9 (c0_0:e8) (c0_1:Int):Option (List b7):=
 Option.bind (u7 c0_0 c0_1) fun x1=>
 some x1
theorem Q2 (c0_0:e8) (c0_1:Int) (r:(List b7)) (hm:F9 c0_0 c0_1=some r):d0 Tryz.prog 65 [.fn 119 [] [.ptr [.ptr (e8.c c0_0) 0] 0, .ptr [DI c0_1] 0]] (fun x=>x=lD 11 r b7.c):=by
 refine zn Tryz.func65 rfl ?_
 refine cy hm (H9 c0_0 c0_1) fun x1 hm=> ?_
 cases hm
 exact d8.le (leD.refl _)
def a2E (x:a6) (to_:Int):Option ((List b7)×Int):=
 Option.bind (K8 x) fun⟨x1,x2⟩=>
 b2Y x1 (
  if(x2 !=0)=true then
   some ([],x2)
  else
   Option.bind (s9 to_) fun x6=>
   if(!x6)=true then
    some ([],1)
   else
    none) fun p4=>
 if(x2 !=0)=true then
  some ([],x2)
 else
  Option.bind (s9 to_) fun x10=>
  if(!x10)=true then
   some ([],1)
  else
   Option.bind (a3l p4 to_) fun⟨x13,x14⟩=>
   Option.bind (F9 x13 x14) fun x16=>
   some (x16,0)
theorem b0s (x:a6) (to_:Int) (r:((List b7)×Int)) (hm:a2E x to_=some r):d0 Tryz.prog 16 [.agg (a6.c x),DI to_] (fun x=>x= .tup [lD 11 r.1 b7.c,DI r.2]):=by
 refine zn Tryz.func16 rfl ?_
 refine cy hm (a1y x) ?_
 rintro⟨x1,x2⟩ hm
 rcases x1 with _|p4
 replace hm:=a7x hm
 apply vb hm<;>intro _ hm
 cases hm
 exact d8.le (⟨_,rfl,⟨leD.nil,leD.refl _,trivial⟩⟩)
 refine cy hm (B8 to_) fun x6 hm=> ?_
 apply vb hm<;>intro _ hm
 cases hm
 exact d8.le (⟨_,rfl,⟨leD.nil,leD.refl _,trivial⟩⟩)
 cases hm
 replace hm:=a7j hm
 apply vb hm<;>intro _ hm
 cases hm
 exact d8.le (⟨_,rfl,⟨leD.nil,leD.refl _,trivial⟩⟩)
 refine cy hm (B8 to_) fun x10 hm=> ?_
 apply vb hm<;>intro _ hm
 cases hm
 exact d8.le (⟨_,rfl,⟨leD.nil,leD.refl _,trivial⟩⟩)
 refine cy hm (a7R p4 to_) ?_
 rintro⟨x13,x14⟩ hm
 refine cy hm (Q2 x13 x14) fun x16 hm=> ?_
 cases hm
 exact d8.le (leD.refl _)
def a2O (a:(List b7)) (b_:(List b7)):Int→Option (Sum Int (Sum Int Bool)):=fun i8=>
 if(decide (i8<(a.length:Int)))=true then
  Option.bind (idx a i8) fun e16=>
  Option.bind (idx b_ i8) fun e18=>
  if(!((e16.Kind==e18.Kind)&&((e16.From==e18.From)&&((e16.To==e18.To)&&((e16.Night==e18.Night)&&((e16.Ballot==e18.Ballot)&&((e16.Best==e18.Best)&&((e16.Value==e18.Value)&&((e16.No==e18.No)&&((e16.Thing==e18.Thing)&&((e16.Start==e18.Start)&&(e16.Until==e18.Until))))))))))))=true then
   some (.inr (.inr false))
  else
   some (.inl (W (i8+1)))
 else
  some (.inr (.inl i8))
def Z5 (a:(List b7)) (b_:(List b7)):Option Bool:=
 if((a.length:Int) !=(b_.length:Int))=true then
  some false
 else
  Option.bind (l5 (a2O a b_) 0) fun e=>
  match e with
  | .inl i21=>
   some true
  | .inr rr22=>
   some rr22
theorem a4M (a:(List b7)) (b_:(List b7)) (r:Bool) (hm:Z5 a b_=some r):d0 Tryz.prog 19 [lD 11 a b7.c,lD 11 b_ b7.c] (fun x=>x=DB r):=by
 refine zy c4U [] [] [] Tryz.func19 rfl ?_
 apply vb hm<;>intro _ hm
 exact hm.rr
 obtain⟨ev23,he,hk24⟩:=a8 hm
 refine q9.ofL (a2O a b_) (fun i8=>⟨[(0,lD 11 a b7.c),(1,lD 11 b_ b7.c),(4,DB false),(5,DI i8),(10,DB ((a.length:Int) !=(b_.length:Int)))], [],0⟩) 0 (c5.of 0 rfl (tA rfl) trivial) he ?_
 rintro fu25 i8 b hm hi26
 apply vb hm<;>intro _ hm
 refine⟨rfl, ?_⟩
 obtain⟨e28,hx29,hm⟩:=a8 hm
 refine⟨_,c8 (fun _=>rfl) hx29, ?_⟩
 obtain⟨e30,hx31,hm⟩:=a8 hm
 refine⟨_,c8 (fun _=>rfl) hx31, ?_⟩
 apply vb hm<;>intro _ hm
 cases hm
 cases hi26
 have hm:=hk24
 exact hm.rr
 cases hm
 exact⟨(_,(W (i8+1))),c5.of 0 rfl (tA rfl) trivial,hi26,Nat.lt_succ_self _⟩
 cases hm
 cases hi26
 have hm:=hk24
 exact hm.rr
def a0K (me:Int):Option (a6×Int):=
 Option.bind (s9 me) fun x1=>
 if(!x1)=true then
  some ((⟨0,(⟨0, [], [], [], [], []⟩:b5),(⟨0, [], [], [], [], []⟩:b5)⟩:a6),1)
 else
  some ((⟨me,(⟨0, [], [], [], [], []⟩:b5),(⟨0, [], [], [], [], []⟩:b5)⟩:a6),0)
theorem a4F (me:Int) (r:(a6×Int)) (hm:a0K me=some r):d0 Tryz.prog 21 [DI me] (fun x=>x= .tup [.agg (a6.c r.1),DI r.2]):=by
 refine zn Tryz.func21 rfl ?_
 refine cy hm (B8 me) fun x1 hm=> ?_
 apply vb hm<;>intro _ hm
 cases hm
 exact d8.le (⟨_,rfl,⟨⟨_,rfl,⟨leD.refl _,leD.refl _,leD.nil,leD.nil,leD.nil,leD.nil,leD.nil,leD.refl _,leD.nil,leD.nil,leD.nil,leD.nil,leD.nil,trivial⟩⟩,leD.refl _,trivial⟩⟩)
 cases hm
 exact d8.le (⟨_,rfl,⟨⟨_,rfl,⟨leD.refl _,leD.refl _,leD.nil,leD.nil,leD.nil,leD.nil,leD.nil,leD.refl _,leD.nil,leD.nil,leD.nil,leD.nil,leD.nil,trivial⟩⟩,leD.refl _,trivial⟩⟩)
def a1K (o:a7) (c_0:a7):Option Bool:=
 if(o.Thing==c_0.Thing)=true then
  Option.bind (Y3 o c_0) fun x2=>
  some x2
 else
  some false
theorem a5t (o:a7) (c_0:a7) (r:Bool) (hm:a1K o c_0=some r):d0 Tryz.prog 151 [.agg (a7.c o), .ptr (a7.c c_0) 0] (fun x=>x=DB r):=by
 refine zn Tryz.func151 rfl ?_
 apply vb hm<;>intro _ hm
 refine cy hm (a6n o c_0) fun x2 hm=> ?_
 exact hm.rr
 exact hm.rr
def u4 (s:(List a7)) (c1_0:a7):Int→Option (Sum Int (Sum Int Int)):=fun v7=>
 if(decide (v7<(s.length:Int)))=true then
  Option.bind (idx s v7) fun e15=>
  Option.bind (a1K e15 c1_0) fun x17=>
  if x17=true then
   some (.inr (.inr v7))
  else
   some (.inl (W (v7+1)))
 else
  some (.inr (.inl v7))
def y0 (s:(List a7)) (c1_0:a7):Option Int:=
 Option.bind (l5 (u4 s c1_0) 0) fun e=>
 match e with
 | .inl v20=>
  some (-1)
 | .inr rr21=>
  some rr21
theorem I4 (s:(List a7)) (c1_0:a7) (r:Int) (hm:y0 s c1_0=some r):d0 Tryz.prog 179 [lD 5 s a7.c, .fn 151 [] [.ptr (a7.c c1_0) 0]] (fun x=>x=DI r):=by
 refine zn Tryz.func179 rfl ?_
 obtain⟨ev22,he,hk23⟩:=a8 hm
 refine q9.ofL (u4 s c1_0) (fun v7=>⟨[(0,lD 5 s a7.c),(1, .fn 151 [] [.ptr (a7.c c1_0) 0]),(4,DI 0),(7,DI (s.length:Int)),(8,DI v7)], [],0⟩) 0 (c5.of 0 rfl (tA rfl) trivial) he ?_
 rintro fu24 v7 b hm hi25
 apply vb hm<;>intro _ hm
 obtain⟨e27,hx28,hm⟩:=a8 hm
 refine⟨_,c8 (fun _=>rfl) hx28, ?_⟩
 refine cy hm (a5t e27 c1_0) fun x29 hm=> ?_
 apply vb hm<;>intro _ hm
 cases hm
 cases hi25
 have hm:=hk23
 exact hm.rr
 cases hm
 exact⟨(_,(W (v7+1))),c5.of 0 rfl (tA rfl) trivial,hi25,Nat.lt_succ_self _⟩
 cases hm
 cases hi25
 have hm:=hk23
 exact hm.rr
def u3 (s:(List a7)) (c1_0:a7):Option Bool:=
 Option.bind (y0 s c1_0) fun x1=>
 some (decide (x1≥0))
theorem H7 (s:(List a7)) (c1_0:a7) (r:Bool) (hm:u3 s c1_0=some r):d0 Tryz.prog 143 [lD 5 s a7.c, .fn 151 [] [.ptr (a7.c c1_0) 0]] (fun x=>x=DB r):=by
 refine zn Tryz.func143 rfl ?_
 refine cy hm (I4 s c1_0) fun x1 hm=> ?_
 exact hm.rr
def a0h (p:e8) (l:a7):Option Bool:=
 Option.bind (u3 p.Station.Now.Leases l) fun x1=>
 some x1
theorem a2P (p:e8) (l:a7) (r:Bool) (hm:a0h p l=some r):d0 Tryz.prog 92 [.ptr (e8.c p) 0, .agg (a7.c l)] (fun x=>x=DB r):=by
 refine zn Tryz.func92 rfl ?_
 refine co hm (H7 p.Station.Now.Leases l) fun x1 hm=> ?_
 exact hm.rr
def O7 (x:a6) (thing:Int) (to_:Int) (from_:Int) (until_:Int):Option (a6×Int):=
 Option.bind (a1n x) fun e=>
 match e with
 | .inl x8=>
  if(x8 !=0)=true then
   some ((⟨0,(⟨0, [], [], [], [], []⟩:b5),(⟨0, [], [], [], [], []⟩:b5)⟩:a6),x8)
  else
   Option.bind (s5 thing) fun x32=>
   if(!x32)=true then
    some ((⟨0,(⟨0, [], [], [], [], []⟩:b5),(⟨0, [], [], [], [], []⟩:b5)⟩:a6),1)
   else
    Option.bind (s9 to_) fun x35=>
    if(!x35)=true then
     some ((⟨0,(⟨0, [], [], [], [], []⟩:b5),(⟨0, [], [], [], [], []⟩:b5)⟩:a6),1)
    else
     Option.bind (d6 from_) fun x38=>
     if(!x38)=true then
      some ((⟨0,(⟨0, [], [], [], [], []⟩:b5),(⟨0, [], [], [], [], []⟩:b5)⟩:a6),95)
     else
      Option.bind (d6 until_) fun x41=>
      if(!x41)=true then
       some ((⟨0,(⟨0, [], [], [], [], []⟩:b5),(⟨0, [], [], [], [], []⟩:b5)⟩:a6),95)
      else
       none
 | .inr (v9,v10,v11,v12,v13,v14,v15,v16,v17,v18,x19,x20,x21)=>
  Option.bind (s5 thing) fun x44=>
  if(!x44)=true then
   some ((⟨0,(⟨0, [], [], [], [], []⟩:b5),(⟨0, [], [], [], [], []⟩:b5)⟩:a6),1)
  else
   Option.bind (s9 to_) fun x47=>
   if(!x47)=true then
    some ((⟨0,(⟨0, [], [], [], [], []⟩:b5),(⟨0, [], [], [], [], []⟩:b5)⟩:a6),1)
   else
    Option.bind (d6 from_) fun x50=>
    if(!x50)=true then
     some ((⟨0,(⟨0, [], [], [], [], []⟩:b5),(⟨0, [], [], [], [], []⟩:b5)⟩:a6),95)
    else
     Option.bind (d6 until_) fun x53=>
     if(!x53)=true then
      some ((⟨0,(⟨0, [], [], [], [], []⟩:b5),(⟨0, [], [], [], [], []⟩:b5)⟩:a6),95)
     else
      Option.bind (c9 thing) fun x56=>
      if(x56 !=x19)=true then
       some ((⟨0,(⟨0, [], [], [], [], []⟩:b5),(⟨0, [], [], [], [], []⟩:b5)⟩:a6),92)
      else
       if(to_==x19)=true then
        some ((⟨0,(⟨0, [], [], [], [], []⟩:b5),(⟨0, [], [], [], [], []⟩:b5)⟩:a6),1)
       else
        if(decide (from_>until_))=true then
         some ((⟨0,(⟨0, [], [], [], [], []⟩:b5),(⟨0, [], [], [], [], []⟩:b5)⟩:a6),95)
        else
         Option.bind (a0h (⟨(⟨x19,(⟨x20,v9,v10,v11,v12,v13⟩:b5),(⟨x21,v14,v15,v16,v17,v18⟩:b5)⟩:a6)⟩:e8) (⟨(W ((v12.length:Int)+1)),thing,to_,from_,until_⟩:a7)) fun x61=>
         if x61=true then
          some ((⟨0,(⟨0, [], [], [], [], []⟩:b5),(⟨0, [], [], [], [], []⟩:b5)⟩:a6),93)
         else
          if((v12.length:Int)==40)=true then
           some ((⟨0,(⟨0, [], [], [], [], []⟩:b5),(⟨0, [], [], [], [], []⟩:b5)⟩:a6),2)
          else
           gd ((v12.length+([(⟨(W ((v12.length:Int)+1)),thing,to_,from_,until_⟩:a7)]:List a7).length)*40≤140737488355328∧v12.length+([(⟨(W ((v12.length:Int)+1)),thing,to_,from_,until_⟩:a7)]:List a7).length≤9223372036854775807)<|
           some ((⟨x19,(⟨x20,v9,v10,v11,(v12++([(⟨(W ((v12.length:Int)+1)),thing,to_,from_,until_⟩:a7)]:List a7)),v13⟩:b5),(⟨x21,v14,v15,v16,v17,v18⟩:b5)⟩:a6),0)
theorem a1z (x:a6) (thing:Int) (to_:Int) (from_:Int) (until_:Int) (r:(a6×Int)) (hm:O7 x thing to_ from_ until_=some r):d0 Tryz.prog 33 [.agg (a6.c x),DI thing,DI to_,DI from_,DI until_] (fun x=>x= .tup [.agg (a6.c r.1),DI r.2]):=by
 refine zy c5a [99,106,149,210,211,220] [62] [61] Tryz.func33 rfl ?_
 obtain⟨ev29,he30,hm⟩:=a8 hm
 refine K4.ofZ pok ⟨[(0, .agg (a6.c x)),(1000000, .agg (a6.c x)),(1000001,DI thing),(1000002,DI to_),(1000003,DI from_),(1000004,DI until_),(1000005, .own 0 0),(1000010, .own 1 0),(1000011,DI 0)], [(0, .blk (a6.c x) 30),(1, .blk [DI 0,DI 0,nS,nS,nS,nS,nS,DI 0,nS,nS,nS,nS,nS] 30)],2⟩ (match ev29 with| .inl x8=>(⟨[(0, .agg (a6.c x)),(1,DI thing),(2,DI to_),(3,DI from_),(4,DI until_),(5, .own 0 0),(10, .own 1 0),(11,DI 0),(17, .tup [.v (.pointer none),DI x8])], [(0, .blk (a6.c x) 30),(1, .blk [DI 0,DI 0,nS,nS,nS,nS,nS,DI 0,nS,nS,nS,nS,nS] 30)],2⟩:Sy)| .inr (v9,v10,v11,v12,v13,v14,v15,v16,v17,v18,x19,x20,x21)=>(⟨[(0, .agg (a6.c x)),(1,DI thing),(2,DI to_),(3,DI from_),(4,DI until_),(5, .own 0 0),(10, .own 1 0),(11,DI 0),(17, .tup [.own 13 0,DI 0])], [(0, .blk (a6.c x) 30),(1, .blk [DI 0,DI 0,nS,nS,nS,nS,nS,DI 0,nS,nS,nS,nS,nS] 30),(3,rE 4 v9 b6.c 110),(4,rE 6 v10 c4.c 108),(5,rE 4 v11 b4.c 149),(6,rE 5 v12 a7.c 112),(7,rE 6 v13 b9.c 114),(8,rE 4 v14 b6.c 110),(9,rE 6 v15 c4.c 108),(10,rE 4 v16 b4.c 149),(11,rE 5 v17 a7.c 112),(12,rE 6 v18 b9.c 114),(13, .blk [DI x19,DI x20, .row 3 4, .row 4 6, .row 5 4, .row 6 5, .row 7 6,DI x21, .row 8 4, .row 9 6, .row 10 4, .row 11 5, .row 12 6] 102)],14⟩:Sy):Sy) b9b [99,106,149,210,211,220] [62] [61] Tryz.func61 rfl rfl rfl (c5.of 2 rfl (tA rfl) ⟨hR rfl,hR rfl,trivial⟩) (fun sv=> ?_) ?_
 have hm:=he30
 refine cy hm (U8 x) fun x65 hm=> ?_
 apply vb hm<;>intro _ hm
 cases hm
 exact c5.of 2 rfl (tA rfl) ⟨hR rfl,hR rfl,trivial⟩
 refine⟨rfl, ?_⟩
 obtain⟨x68,hx69,hm⟩:=a8 hm
 refine .inr (a8W.mk ⟨_,_,L3 x.Now _ hx69, ?_⟩)
 obtain⟨x70,hx71,hm⟩:=a8 hm
 refine .inr (a8W.mk ⟨_,_,L3 x.Safe _ hx71, ?_⟩)
 cases hm
 exact c5.of 14 rfl (tA rfl) ⟨hR rfl,hR rfl,hW rfl,hW rfl,hW rfl,hW rfl,hW rfl,hW rfl,hW rfl,hW rfl,hW rfl,hW rfl,hR rfl,trivial⟩
 rcases ev29 with x8|⟨v9,v10,v11,v12,v13,v14,v15,v16,v17,v18,x19,x20,x21⟩
 apply vb hm<;>intro _ hm
 cases hm
 exact d8.le (⟨_,rfl,⟨⟨_,rfl,⟨leD.refl _,leD.refl _,leD.nil,leD.nil,leD.nil,leD.nil,leD.nil,leD.refl _,leD.nil,leD.nil,leD.nil,leD.nil,leD.nil,trivial⟩⟩,leD.refl _,trivial⟩⟩)
 refine cy hm (B9 thing) fun x32 hm=> ?_
 apply vb hm<;>intro _ hm
 cases hm
 exact d8.le (⟨_,rfl,⟨⟨_,rfl,⟨leD.refl _,leD.refl _,leD.nil,leD.nil,leD.nil,leD.nil,leD.nil,leD.refl _,leD.nil,leD.nil,leD.nil,leD.nil,leD.nil,trivial⟩⟩,leD.refl _,trivial⟩⟩)
 refine cy hm (B8 to_) fun x35 hm=> ?_
 apply vb hm<;>intro _ hm
 cases hm
 exact d8.le (⟨_,rfl,⟨⟨_,rfl,⟨leD.refl _,leD.refl _,leD.nil,leD.nil,leD.nil,leD.nil,leD.nil,leD.refl _,leD.nil,leD.nil,leD.nil,leD.nil,leD.nil,trivial⟩⟩,leD.refl _,trivial⟩⟩)
 refine cy hm (j6 from_) fun x38 hm=> ?_
 apply vb hm<;>intro _ hm
 cases hm
 exact d8.le (⟨_,rfl,⟨⟨_,rfl,⟨leD.refl _,leD.refl _,leD.nil,leD.nil,leD.nil,leD.nil,leD.nil,leD.refl _,leD.nil,leD.nil,leD.nil,leD.nil,leD.nil,trivial⟩⟩,leD.refl _,trivial⟩⟩)
 refine cy hm (j6 until_) fun x41 hm=> ?_
 apply vb hm<;>intro _ hm
 cases hm
 exact d8.le (⟨_,rfl,⟨⟨_,rfl,⟨leD.refl _,leD.refl _,leD.nil,leD.nil,leD.nil,leD.nil,leD.nil,leD.refl _,leD.nil,leD.nil,leD.nil,leD.nil,leD.nil,trivial⟩⟩,leD.refl _,trivial⟩⟩)
 refine⟨rfl, ?_⟩
 cases hm
 refine cy hm (B9 thing) fun x44 hm=> ?_
 apply vb hm<;>intro _ hm
 cases hm
 exact d8.le (⟨_,rfl,⟨⟨_,rfl,⟨leD.refl _,leD.refl _,leD.nil,leD.nil,leD.nil,leD.nil,leD.nil,leD.refl _,leD.nil,leD.nil,leD.nil,leD.nil,leD.nil,trivial⟩⟩,leD.refl _,trivial⟩⟩)
 refine cy hm (B8 to_) fun x47 hm=> ?_
 apply vb hm<;>intro _ hm
 cases hm
 exact d8.le (⟨_,rfl,⟨⟨_,rfl,⟨leD.refl _,leD.refl _,leD.nil,leD.nil,leD.nil,leD.nil,leD.nil,leD.refl _,leD.nil,leD.nil,leD.nil,leD.nil,leD.nil,trivial⟩⟩,leD.refl _,trivial⟩⟩)
 refine cy hm (j6 from_) fun x50 hm=> ?_
 apply vb hm<;>intro _ hm
 cases hm
 exact d8.le (⟨_,rfl,⟨⟨_,rfl,⟨leD.refl _,leD.refl _,leD.nil,leD.nil,leD.nil,leD.nil,leD.nil,leD.refl _,leD.nil,leD.nil,leD.nil,leD.nil,leD.nil,trivial⟩⟩,leD.refl _,trivial⟩⟩)
 refine cy hm (j6 until_) fun x53 hm=> ?_
 apply vb hm<;>intro _ hm
 cases hm
 exact d8.le (⟨_,rfl,⟨⟨_,rfl,⟨leD.refl _,leD.refl _,leD.nil,leD.nil,leD.nil,leD.nil,leD.nil,leD.refl _,leD.nil,leD.nil,leD.nil,leD.nil,leD.nil,trivial⟩⟩,leD.refl _,trivial⟩⟩)
 refine⟨rfl, ?_⟩
 refine cy hm (e9 thing) fun x56 hm=> ?_
 apply vb hm<;>intro _ hm
 cases hm
 exact d8.le (⟨_,rfl,⟨⟨_,rfl,⟨leD.refl _,leD.refl _,leD.nil,leD.nil,leD.nil,leD.nil,leD.nil,leD.refl _,leD.nil,leD.nil,leD.nil,leD.nil,leD.nil,trivial⟩⟩,leD.refl _,trivial⟩⟩)
 apply vb hm<;>intro _ hm
 cases hm
 exact d8.le (⟨_,rfl,⟨⟨_,rfl,⟨leD.refl _,leD.refl _,leD.nil,leD.nil,leD.nil,leD.nil,leD.nil,leD.refl _,leD.nil,leD.nil,leD.nil,leD.nil,leD.nil,trivial⟩⟩,leD.refl _,trivial⟩⟩)
 apply vb hm<;>intro _ hm
 cases hm
 exact d8.le (⟨_,rfl,⟨⟨_,rfl,⟨leD.refl _,leD.refl _,leD.nil,leD.nil,leD.nil,leD.nil,leD.nil,leD.refl _,leD.nil,leD.nil,leD.nil,leD.nil,leD.nil,trivial⟩⟩,leD.refl _,trivial⟩⟩)
 refine co hm (a2P ((⟨(⟨x19,(⟨x20,v9,v10,v11,v12,v13⟩:b5),(⟨x21,v14,v15,v16,v17,v18⟩:b5)⟩:a6)⟩:e8)) ((⟨(W ((v12.length:Int)+1)),thing,to_,from_,until_⟩:a7))) fun x61 hm=> ?_
 apply vb hm<;>intro _ hm
 cases hm
 exact d8.le (⟨_,rfl,⟨⟨_,rfl,⟨leD.refl _,leD.refl _,leD.nil,leD.nil,leD.nil,leD.nil,leD.nil,leD.refl _,leD.nil,leD.nil,leD.nil,leD.nil,leD.nil,trivial⟩⟩,leD.refl _,trivial⟩⟩)
 apply vb hm<;>intro _ hm
 cases hm
 exact d8.le (⟨_,rfl,⟨⟨_,rfl,⟨leD.refl _,leD.refl _,leD.nil,leD.nil,leD.nil,leD.nil,leD.nil,leD.refl _,leD.nil,leD.nil,leD.nil,leD.nil,leD.nil,trivial⟩⟩,leD.refl _,trivial⟩⟩)
 refine⟨rfl, ?_⟩
 refine⟨([(⟨(W ((v12.length:Int)+1)),thing,to_,from_,until_⟩:a7)]:List a7).flatMap a7.c,([(⟨(W ((v12.length:Int)+1)),thing,to_,from_,until_⟩:a7)]:List a7).length,⟨rfl,rfl⟩, ?_⟩
 obtain⟨hg,hm⟩:=i4 hm
 refine⟨hg,_,_,G8 (c:=a7.c) (l:=(v12:List a7)) (r:=(([(⟨(W ((v12.length:Int)+1)),thing,to_,from_,until_⟩:a7)]:List a7):List a7)), ?_⟩
 cases hm
 exact d8.le (leD.refl _)
def a6v (c:b7):Option (b7×Bool):=
 if(c.Kind==1)=true then
  if(c.Kind==2)=true then
   if(c.Kind !=1)=true then
    some ((⟨c.Kind,c.From,c.To,c.Night,c.Ballot,c.Best,c.Value,0,0,0,0⟩:b7),true)
   else
    some ((⟨c.Kind,c.From,c.To,c.Night,c.Ballot,c.Best,0,0,0,0,0⟩:b7),true)
  else
   if(c.Kind !=1)=true then
    some ((⟨c.Kind,c.From,c.To,c.Night,c.Ballot,0,c.Value,0,0,0,0⟩:b7),true)
   else
    some ((⟨c.Kind,c.From,c.To,c.Night,c.Ballot,0,0,0,0,0,0⟩:b7),true)
 else
  if(c.Kind==2)=true then
   if(c.Kind !=1)=true then
    some ((⟨c.Kind,c.From,c.To,c.Night,c.Ballot,c.Best,c.Value,0,0,0,0⟩:b7),true)
   else
    some ((⟨c.Kind,c.From,c.To,c.Night,c.Ballot,c.Best,0,0,0,0,0⟩:b7),true)
  else
   if(c.Kind==3)=true then
    if(c.Kind !=1)=true then
     some ((⟨c.Kind,c.From,c.To,c.Night,c.Ballot,0,c.Value,0,0,0,0⟩:b7),true)
    else
     some ((⟨c.Kind,c.From,c.To,c.Night,c.Ballot,0,0,0,0,0,0⟩:b7),true)
   else
    if(c.Kind==4)=true then
     if(c.Kind !=1)=true then
      some ((⟨c.Kind,c.From,c.To,c.Night,c.Ballot,0,c.Value,0,0,0,0⟩:b7),true)
     else
      some ((⟨c.Kind,c.From,c.To,c.Night,c.Ballot,0,0,0,0,0,0⟩:b7),true)
    else
     if(c.Kind==5)=true then
      some ((⟨c.Kind,c.From,c.To,0,0,0,0,c.No,c.Thing,c.Start,c.Until⟩:b7),true)
     else
      if(c.Kind==6)=true then
       some ((⟨c.Kind,c.From,c.To,0,0,0,0,c.No,c.Thing,0,c.Until⟩:b7),true)
      else
       some ((⟨c.Kind,c.From,c.To,0,0,0,0,0,0,0,0⟩:b7),false)
theorem b1J (c:b7) (r:(b7×Bool)) (hm:a6v c=some r):d0 Tryz.prog 147 [.agg (b7.c c)] (fun x=>x= .tup [.agg (b7.c r.1),DB r.2]):=by
 refine zy c3y [] [] [] Tryz.func147 rfl ?_
 apply vb hm<;>intro h1 hm
 refine VIf.t h1 ?_
 refine⟨rfl, ?_⟩
 apply vb hm<;>intro _ hm
 apply vb hm<;>intro _ hm
 cases hm
 exact d8.le (leD.refl _)
 cases hm
 exact d8.le (leD.refl _)
 apply vb hm<;>intro _ hm
 cases hm
 exact d8.le (leD.refl _)
 cases hm
 exact d8.le (leD.refl _)
 apply vb hm<;>intro h5 hm
 refine VIf.t h5 ?_
 refine⟨rfl, ?_⟩
 refine VIf.t h5 ?_
 apply vb hm<;>intro _ hm
 cases hm
 exact d8.le (leD.refl _)
 cases hm
 exact d8.le (leD.refl _)
 apply vb hm<;>intro h7 hm
 refine VIf.t h7 ?_
 refine⟨rfl, ?_⟩
 refine VIf.f h5 ?_
 apply vb hm<;>intro _ hm
 cases hm
 exact d8.le (leD.refl _)
 cases hm
 exact d8.le (leD.refl _)
 apply vb hm<;>intro _ hm
 refine⟨rfl, ?_⟩
 refine VIf.f h5 ?_
 apply vb hm<;>intro _ hm
 cases hm
 exact d8.le (leD.refl _)
 cases hm
 exact d8.le (leD.refl _)
 apply vb hm<;>intro _ hm
 refine⟨rfl, ?_⟩
 cases hm
 exact d8.le (leD.refl _)
 apply vb hm<;>intro _ hm
 refine⟨rfl, ?_⟩
 cases hm
 exact d8.le (leD.refl _)
 cases hm
 exact d8.le (leD.refl _)
def a1P (c:b7):Option Bool:=
 Option.bind (a6v c) fun⟨x1,x2⟩=>
 if(!x2)=true then
  some false
 else
  if(!((c.Kind==x1.Kind)&&((c.From==x1.From)&&((c.To==x1.To)&&((c.Night==x1.Night)&&((c.Ballot==x1.Ballot)&&((c.Best==x1.Best)&&((c.Value==x1.Value)&&((c.No==x1.No)&&((c.Thing==x1.Thing)&&((c.Start==x1.Start)&&(c.Until==x1.Until))))))))))))=true then
   some false
  else
   Option.bind (s9 c.From) fun x6=>
   if(!x6)=true then
    some false
   else
    Option.bind (s9 c.To) fun x9=>
    if(!x9)=true then
     some false
    else
     if(c.From !=c.To)=true then
      Option.bind (e7 c.No 1 40) fun x13=>
      if x13=true then
       Option.bind (s5 c.Thing) fun x16=>
       Option.bind (o4 c.Night) fun x18=>
       if x18=true then
        Option.bind (u0 c.Ballot) fun x21=>
        if(c.Kind==1)=true then
         if x21=true then
          Option.bind (c9 c.Ballot) fun x25=>
          some (x25==c.From)
         else
          some false
        else
         if(c.Kind==2)=true then
          if x21=true then
           Option.bind (c9 c.Ballot) fun x29=>
           if(x29==c.To)=true then
            if(c.Best==0)=true then
             if(c.Value==0)=true then
              some true
             else
              Option.bind (e7 c.Best 6 (W (c.Ballot-1))) fun x34=>
              if x34=true then
               Option.bind (i0 c.Value) fun x37=>
               some x37
              else
               some false
            else
             Option.bind (e7 c.Best 6 (W (c.Ballot-1))) fun x39=>
             if x39=true then
              Option.bind (i0 c.Value) fun x42=>
              some x42
             else
              some false
           else
            some false
          else
           some false
         else
          if(c.Kind==3)=true then
           if x21=true then
            Option.bind (c9 c.Ballot) fun x46=>
            if(x46==c.From)=true then
             Option.bind (i0 c.Value) fun x49=>
             some x49
            else
             some false
           else
            some false
          else
           if(c.Kind==4)=true then
            if x21=true then
             Option.bind (i0 c.Value) fun x53=>
             some x53
            else
             some false
           else
            if(c.Kind==5)=true then
             if x16=true then
              Option.bind (c9 c.Thing) fun x57=>
              if(x57==c.From)=true then
               Option.bind (M9 c.Start c.Until) fun x60=>
               some x60
              else
               some false
             else
              some false
            else
             if x16=true then
              Option.bind (c9 c.Thing) fun x63=>
              if(x63==c.To)=true then
               Option.bind (d6 c.Until) fun x66=>
               some x66
              else
               some false
             else
              some false
       else
        if(c.Kind==1)=true then
         some false
        else
         if(c.Kind==2)=true then
          some false
         else
          if(c.Kind==3)=true then
           some false
          else
           if(c.Kind==4)=true then
            some false
           else
            if(c.Kind==5)=true then
             if x16=true then
              Option.bind (c9 c.Thing) fun x74=>
              if(x74==c.From)=true then
               Option.bind (M9 c.Start c.Until) fun x77=>
               some x77
              else
               some false
             else
              some false
            else
             if x16=true then
              Option.bind (c9 c.Thing) fun x80=>
              if(x80==c.To)=true then
               Option.bind (d6 c.Until) fun x83=>
               some x83
              else
               some false
             else
              some false
      else
       Option.bind (o4 c.Night) fun x85=>
       if x85=true then
        Option.bind (u0 c.Ballot) fun x88=>
        if(c.Kind==1)=true then
         if x88=true then
          Option.bind (c9 c.Ballot) fun x92=>
          some (x92==c.From)
         else
          some false
        else
         if(c.Kind==2)=true then
          if x88=true then
           Option.bind (c9 c.Ballot) fun x96=>
           if(x96==c.To)=true then
            if(c.Best==0)=true then
             if(c.Value==0)=true then
              some true
             else
              Option.bind (e7 c.Best 6 (W (c.Ballot-1))) fun x101=>
              if x101=true then
               Option.bind (i0 c.Value) fun x104=>
               some x104
              else
               some false
            else
             Option.bind (e7 c.Best 6 (W (c.Ballot-1))) fun x106=>
             if x106=true then
              Option.bind (i0 c.Value) fun x109=>
              some x109
             else
              some false
           else
            some false
          else
           some false
         else
          if(c.Kind==3)=true then
           if x88=true then
            Option.bind (c9 c.Ballot) fun x113=>
            if(x113==c.From)=true then
             Option.bind (i0 c.Value) fun x116=>
             some x116
            else
             some false
           else
            some false
          else
           if(c.Kind==4)=true then
            if x88=true then
             Option.bind (i0 c.Value) fun x120=>
             some x120
            else
             some false
           else
            if(c.Kind==5)=true then
             some false
            else
             some false
       else
        if(c.Kind==1)=true then
         some false
        else
         if(c.Kind==2)=true then
          some false
         else
          if(c.Kind==3)=true then
           some false
          else
           if(c.Kind==4)=true then
            some false
           else
            if(c.Kind==5)=true then
             some false
            else
             some false
     else
      Option.bind (o4 c.Night) fun x128=>
      if x128=true then
       Option.bind (u0 c.Ballot) fun x131=>
       if(c.Kind==1)=true then
        if x131=true then
         Option.bind (c9 c.Ballot) fun x135=>
         some (x135==c.From)
        else
         some false
       else
        if(c.Kind==2)=true then
         if x131=true then
          Option.bind (c9 c.Ballot) fun x139=>
          if(x139==c.To)=true then
           if(c.Best==0)=true then
            if(c.Value==0)=true then
             some true
            else
             Option.bind (e7 c.Best 6 (W (c.Ballot-1))) fun x144=>
             if x144=true then
              Option.bind (i0 c.Value) fun x147=>
              some x147
             else
              some false
           else
            Option.bind (e7 c.Best 6 (W (c.Ballot-1))) fun x149=>
            if x149=true then
             Option.bind (i0 c.Value) fun x152=>
             some x152
            else
             some false
          else
           some false
         else
          some false
        else
         if(c.Kind==3)=true then
          if x131=true then
           Option.bind (c9 c.Ballot) fun x156=>
           if(x156==c.From)=true then
            Option.bind (i0 c.Value) fun x159=>
            some x159
           else
            some false
          else
           some false
         else
          if(c.Kind==4)=true then
           if x131=true then
            Option.bind (i0 c.Value) fun x163=>
            some x163
           else
            some false
          else
           if(c.Kind==5)=true then
            some false
           else
            some false
      else
       if(c.Kind==1)=true then
        some false
       else
        if(c.Kind==2)=true then
         some false
        else
         if(c.Kind==3)=true then
          some false
         else
          if(c.Kind==4)=true then
           some false
          else
           if(c.Kind==5)=true then
            some false
           else
            some false
theorem a4R (c:b7) (r:Bool) (hm:a1P c=some r):d0 Tryz.prog 80 [.agg (b7.c c)] (fun x=>x=DB r):=by
 refine zy c5l [] [] [] Tryz.func80 rfl ?_
 refine cy hm (b1J c) ?_
 rintro⟨x1,x2⟩ hm
 apply vb hm<;>intro _ hm
 exact hm.rr
 apply vb hm<;>intro _ hm
 exact hm.rr
 refine cy hm (B8 c.From) fun x6 hm=> ?_
 apply vb hm<;>intro _ hm
 exact hm.rr
 refine cy hm (B8 c.To) fun x9 hm=> ?_
 apply vb hm<;>intro _ hm
 exact hm.rr
 apply vb hm<;>intro _ hm
 refine cy hm (j1 c.No 1 40) fun x13 hm=> ?_
 apply vb hm<;>intro _ hm
 refine cy hm (B9 c.Thing) fun x16 hm=> ?_
 refine cy hm (r7 c.Night) fun x18 hm=> ?_
 apply vb hm<;>intro _ hm
 refine cy hm (C6 c.Ballot) fun x21 hm=> ?_
 apply vb hm<;>intro _ hm
 refine⟨rfl, ?_⟩
 apply vb hm<;>intro _ hm
 refine cy hm (e9 c.Ballot) fun x25 hm=> ?_
 exact hm.rr
 exact hm.rr
 apply vb hm<;>intro _ hm
 refine⟨rfl, ?_⟩
 apply vb hm<;>intro _ hm
 refine cy hm (e9 c.Ballot) fun x29 hm=> ?_
 apply vb hm<;>intro _ hm
 apply vb hm<;>intro _ hm
 apply vb hm<;>intro _ hm
 exact hm.rr
 refine cy hm (j1 c.Best 6 (W (c.Ballot-1))) fun x34 hm=> ?_
 apply vb hm<;>intro _ hm
 refine cy hm (j4 c.Value) fun x37 hm=> ?_
 exact hm.rr
 exact hm.rr
 refine cy hm (j1 c.Best 6 (W (c.Ballot-1))) fun x39 hm=> ?_
 apply vb hm<;>intro _ hm
 refine cy hm (j4 c.Value) fun x42 hm=> ?_
 exact hm.rr
 exact hm.rr
 exact hm.rr
 exact hm.rr
 apply vb hm<;>intro _ hm
 refine⟨rfl, ?_⟩
 apply vb hm<;>intro _ hm
 refine cy hm (e9 c.Ballot) fun x46 hm=> ?_
 apply vb hm<;>intro _ hm
 refine cy hm (j4 c.Value) fun x49 hm=> ?_
 exact hm.rr
 exact hm.rr
 exact hm.rr
 apply vb hm<;>intro _ hm
 apply vb hm<;>intro _ hm
 refine cy hm (j4 c.Value) fun x53 hm=> ?_
 exact hm.rr
 exact hm.rr
 apply vb hm<;>intro _ hm
 refine⟨rfl, ?_⟩
 apply vb hm<;>intro _ hm
 refine cy hm (e9 c.Thing) fun x57 hm=> ?_
 apply vb hm<;>intro _ hm
 refine cy hm (Z3 c.Start c.Until) fun x60 hm=> ?_
 exact hm.rr
 exact hm.rr
 exact hm.rr
 refine⟨rfl, ?_⟩
 apply vb hm<;>intro _ hm
 refine cy hm (e9 c.Thing) fun x63 hm=> ?_
 apply vb hm<;>intro _ hm
 refine cy hm (j6 c.Until) fun x66 hm=> ?_
 exact hm.rr
 exact hm.rr
 exact hm.rr
 apply vb hm<;>intro _ hm
 refine⟨rfl, ?_⟩
 exact hm.rr
 apply vb hm<;>intro _ hm
 refine⟨rfl, ?_⟩
 exact hm.rr
 apply vb hm<;>intro _ hm
 refine⟨rfl, ?_⟩
 exact hm.rr
 apply vb hm<;>intro _ hm
 exact hm.rr
 apply vb hm<;>intro _ hm
 refine⟨rfl, ?_⟩
 apply vb hm<;>intro _ hm
 refine cy hm (e9 c.Thing) fun x74 hm=> ?_
 apply vb hm<;>intro _ hm
 refine cy hm (Z3 c.Start c.Until) fun x77 hm=> ?_
 exact hm.rr
 exact hm.rr
 exact hm.rr
 refine⟨rfl, ?_⟩
 apply vb hm<;>intro _ hm
 refine cy hm (e9 c.Thing) fun x80 hm=> ?_
 apply vb hm<;>intro _ hm
 refine cy hm (j6 c.Until) fun x83 hm=> ?_
 exact hm.rr
 exact hm.rr
 exact hm.rr
 refine cy hm (r7 c.Night) fun x85 hm=> ?_
 apply vb hm<;>intro _ hm
 refine cy hm (C6 c.Ballot) fun x88 hm=> ?_
 apply vb hm<;>intro _ hm
 refine⟨rfl, ?_⟩
 apply vb hm<;>intro _ hm
 refine cy hm (e9 c.Ballot) fun x92 hm=> ?_
 exact hm.rr
 exact hm.rr
 apply vb hm<;>intro _ hm
 refine⟨rfl, ?_⟩
 apply vb hm<;>intro _ hm
 refine cy hm (e9 c.Ballot) fun x96 hm=> ?_
 apply vb hm<;>intro _ hm
 apply vb hm<;>intro _ hm
 apply vb hm<;>intro _ hm
 exact hm.rr
 refine cy hm (j1 c.Best 6 (W (c.Ballot-1))) fun x101 hm=> ?_
 apply vb hm<;>intro _ hm
 refine cy hm (j4 c.Value) fun x104 hm=> ?_
 exact hm.rr
 exact hm.rr
 refine cy hm (j1 c.Best 6 (W (c.Ballot-1))) fun x106 hm=> ?_
 apply vb hm<;>intro _ hm
 refine cy hm (j4 c.Value) fun x109 hm=> ?_
 exact hm.rr
 exact hm.rr
 exact hm.rr
 exact hm.rr
 apply vb hm<;>intro _ hm
 refine⟨rfl, ?_⟩
 apply vb hm<;>intro _ hm
 refine cy hm (e9 c.Ballot) fun x113 hm=> ?_
 apply vb hm<;>intro _ hm
 refine cy hm (j4 c.Value) fun x116 hm=> ?_
 exact hm.rr
 exact hm.rr
 exact hm.rr
 apply vb hm<;>intro _ hm
 apply vb hm<;>intro _ hm
 refine cy hm (j4 c.Value) fun x120 hm=> ?_
 exact hm.rr
 exact hm.rr
 apply vb hm<;>intro _ hm
 refine⟨rfl, ?_⟩
 exact hm.rr
 refine⟨rfl, ?_⟩
 exact hm.rr
 apply vb hm<;>intro _ hm
 refine⟨rfl, ?_⟩
 exact hm.rr
 apply vb hm<;>intro _ hm
 refine⟨rfl, ?_⟩
 exact hm.rr
 apply vb hm<;>intro _ hm
 refine⟨rfl, ?_⟩
 exact hm.rr
 apply vb hm<;>intro _ hm
 exact hm.rr
 apply vb hm<;>intro _ hm
 refine⟨rfl, ?_⟩
 exact hm.rr
 refine⟨rfl, ?_⟩
 exact hm.rr
 refine cy hm (r7 c.Night) fun x128 hm=> ?_
 apply vb hm<;>intro _ hm
 refine cy hm (C6 c.Ballot) fun x131 hm=> ?_
 apply vb hm<;>intro _ hm
 refine⟨rfl, ?_⟩
 apply vb hm<;>intro _ hm
 refine cy hm (e9 c.Ballot) fun x135 hm=> ?_
 exact hm.rr
 exact hm.rr
 apply vb hm<;>intro _ hm
 refine⟨rfl, ?_⟩
 apply vb hm<;>intro _ hm
 refine cy hm (e9 c.Ballot) fun x139 hm=> ?_
 apply vb hm<;>intro _ hm
 apply vb hm<;>intro _ hm
 apply vb hm<;>intro _ hm
 exact hm.rr
 refine cy hm (j1 c.Best 6 (W (c.Ballot-1))) fun x144 hm=> ?_
 apply vb hm<;>intro _ hm
 refine cy hm (j4 c.Value) fun x147 hm=> ?_
 exact hm.rr
 exact hm.rr
 refine cy hm (j1 c.Best 6 (W (c.Ballot-1))) fun x149 hm=> ?_
 apply vb hm<;>intro _ hm
 refine cy hm (j4 c.Value) fun x152 hm=> ?_
 exact hm.rr
 exact hm.rr
 exact hm.rr
 exact hm.rr
 apply vb hm<;>intro _ hm
 refine⟨rfl, ?_⟩
 apply vb hm<;>intro _ hm
 refine cy hm (e9 c.Ballot) fun x156 hm=> ?_
 apply vb hm<;>intro _ hm
 refine cy hm (j4 c.Value) fun x159 hm=> ?_
 exact hm.rr
 exact hm.rr
 exact hm.rr
 apply vb hm<;>intro _ hm
 apply vb hm<;>intro _ hm
 refine cy hm (j4 c.Value) fun x163 hm=> ?_
 exact hm.rr
 exact hm.rr
 apply vb hm<;>intro _ hm
 refine⟨rfl, ?_⟩
 exact hm.rr
 refine⟨rfl, ?_⟩
 exact hm.rr
 apply vb hm<;>intro _ hm
 refine⟨rfl, ?_⟩
 exact hm.rr
 apply vb hm<;>intro _ hm
 refine⟨rfl, ?_⟩
 exact hm.rr
 apply vb hm<;>intro _ hm
 refine⟨rfl, ?_⟩
 exact hm.rr
 apply vb hm<;>intro _ hm
 exact hm.rr
 apply vb hm<;>intro _ hm
 refine⟨rfl, ?_⟩
 exact hm.rr
 refine⟨rfl, ?_⟩
 exact hm.rr
def M6 (s:(List b6)) (i:Int) (v:(List b6)):Option (List b6):=
 gd (0≤i∧i.toNat≤s.length)<|
 if((v.length:Int)==0)=true then
  some s
 else
  if(i==(s.length:Int))=true then
   gd ((s.length+v.length)*32≤140737488355328∧s.length+v.length≤9223372036854775807)<|
   some (s++v)
  else
   gd (0≤i∧i.toNat<s.length∧0<v.length∧(s.length+v.length)*32≤140737488355328∧s.length+v.length≤9223372036854775807) (some (s.take i.toNat++v++s.drop i.toNat))
theorem M5 (s:(List b6)) (i:Int) (v:(List b6)) (r:(List b6)) (hm:M6 s i v=some r):a7N Tryz.prog 220 4 s.length (s.flatMap b6.c) 110 [DI i,lD 4 v b6.c] 4 r.length (r.flatMap b6.c):=by
 obtain⟨hg0,hm⟩:=i4 hm
 refine a5W (X:=⟨Tryz.prog,tt,Tryz.f220.ntmps, [], [], [], [], [], []⟩) (t:=22) (tI:=3) (tB:=4) (ov:=232) (ty:=110) (args:= [lD 4 v b6.c]) pok Tryz.func220 rfl rfl .mk .mk (Nat.le_of_ble_eq_true rfl) hg0 rfl rfl rfl rfl rfl rfl (by kernel_rfl) ⟨⟨_,4,Tryz.func232,by kernel_rfl,by kernel_rfl,by kernel_rfl,by kernel_rfl⟩⟩ (by decide) ?_
 apply vb hm<;>intro _ hm
 cases hm
 exact⟨rfl,rfl⟩
 apply vb hm<;>intro _ hm
 obtain⟨hg,hm⟩:=i4 hm
 refine⟨hg,_,_,G8 (c:=b6.c) (l:=(s:List b6)) (r:=(v:List b6)), ?_⟩
 cases hm
 exact⟨rfl,rfl⟩
 obtain⟨hg,hm⟩:=i4 hm
 cases hm
 exact b6L (fun _=>rfl) hg
def o6 (x:(List b6)) (target:b6):(Int×Int)→Option (Sum (Int×Int) (Int×Int)):=fun(i7,j8)=>
 if(decide (i7<j8))=true then
  Option.bind (idx x (W ((IntKind.u64.wrap (W (i7+j8))).fdiv (2^(min (1:Int).toNat IntKind.u64.bits))))) fun e16=>
  Option.bind (F0 e16 target) fun x18=>
  if(decide (x18<0))=true then
   some (.inl ((W ((W ((IntKind.u64.wrap (W (i7+j8))).fdiv (2^(min (1:Int).toNat IntKind.u64.bits))))+1)),j8))
  else
   some (.inl (i7,(W ((IntKind.u64.wrap (W (i7+j8))).fdiv (2^(min (1:Int).toNat IntKind.u64.bits))))))
 else
  some (.inr (i7,j8))
def o9 (x:(List b6)) (target:b6):Option (Int×Bool):=
 Option.bind (l5 (o6 x target) (0,(x.length:Int))) fun(i21,j22)=>
 if(decide (i21<(x.length:Int)))=true then
  Option.bind (idx x i21) fun e24=>
  Option.bind (F0 e24 target) fun x26=>
  some (i21,(x26==0))
 else
  some (i21,false)
theorem E1 (x:(List b6)) (target:b6) (r:(Int×Bool)) (hm:o9 x target=some r):d0 Tryz.prog 231 [lD 4 x b6.c, .agg (b6.c target), .fn 136 [] []] (fun x=>x= .tup [DI r.1,DB r.2]):=by
 refine zy c4g [] [] [] Tryz.func231 rfl ?_
 obtain⟨ev28,he,hk29⟩:=a8 hm
 refine q9.ofL (o6 x target) (fun(i7,j8)=>⟨[(0,lD 4 x b6.c),(1, .agg (b6.c target)),(2, .fn 136 [] []),(4, .own 0 0),(6,DI 0),(7,DB false),(8,DI (x.length:Int)),(9,DI i7),(10,DI j8)], [(0, .blk (b6.c target) 110)],1⟩) (0,(x.length:Int)) (c5.of 1 rfl (tA rfl) ⟨hR rfl,trivial⟩) he ?_
 rintro fu30 ⟨i7,j8⟩ b hm hi31
 apply vb hm<;>intro _ hm
 refine⟨by decide, ?_⟩
 refine⟨rfl, ?_⟩
 obtain⟨e33,hx34,hm⟩:=a8 hm
 refine⟨_,c8 (fun _=>rfl) hx34, ?_⟩
 refine cy hm (U0 e33 target) fun x35 hm=> ?_
 apply vb hm<;>intro _ hm
 cases hm
 exact⟨(_,((W ((W ((IntKind.u64.wrap (W (i7+j8))).fdiv (2^(min (1:Int).toNat IntKind.u64.bits))))+1)),j8)),c5.of 1 rfl (tA rfl) ⟨hR rfl,trivial⟩,hi31,Nat.lt_succ_self _⟩
 cases hm
 exact⟨(_,(i7,(W ((IntKind.u64.wrap (W (i7+j8))).fdiv (2^(min (1:Int).toNat IntKind.u64.bits)))))),c5.of 1 rfl (tA rfl) ⟨hR rfl,trivial⟩,hi31,Nat.lt_succ_self _⟩
 cases hm
 cases hi31
 have hm:=hk29
 refine⟨rfl, ?_⟩
 apply vb hm<;>intro _ hm
 obtain⟨e39,hx40,hm⟩:=a8 hm
 refine⟨_,c8 (fun _=>rfl) hx40, ?_⟩
 refine cy hm (U0 e39 target) fun x41 hm=> ?_
 cases hm
 exact d8.le (leD.refl _)
 cases hm
 exact d8.le (leD.refl _)
def G0 (l:(List b6)) (x:b6):Option (Int×Bool):=
 Option.bind (o9 l x) fun⟨x1,x2⟩=>
 some (x1,x2)
theorem G4 (l:(List b6)) (x:b6) (r:(Int×Bool)) (hm:G0 l x=some r):d0 Tryz.prog 219 [lD 4 l b6.c, .agg (b6.c x), .fn 136 [] []] (fun x=>x= .tup [DI r.1,DB r.2]):=by
 refine zn Tryz.func219 rfl ?_
 refine cy hm (E1 l x) ?_
 rintro⟨x1,x2⟩ hm
 cases hm
 exact d8.le (leD.refl _)
def a2W (m:Int) (depot:Int):Option Bool:=
 gd (0≤depot)<|
 some ((W ((BitVec.ofInt IntKind.i64.bits (m.fdiv (2^(min depot.toNat IntKind.i64.bits)))&&&BitVec.ofInt IntKind.i64.bits 1).toNat:Int))==1)
theorem a7E (m:Int) (depot:Int) (r:Bool) (hm:a2W m depot=some r):d0 Tryz.prog 186 [DI m,DI depot] (fun x=>x=DB r):=by
 refine zn Tryz.func186 rfl ?_
 obtain⟨hg,hm⟩:=i4 hm
 refine⟨hg, ?_⟩
 exact hm.rr
def a0i (m:Int) (depot:Int):Option Int:=
 gd (0≤depot)<|
 some (W ((BitVec.ofInt IntKind.i64.bits m|||BitVec.ofInt IntKind.i64.bits (W (1*(2^(min depot.toNat IntKind.i64.bits))))).toNat:Int))
theorem a2D (m:Int) (depot:Int) (r:Int) (hm:a0i m depot=some r):d0 Tryz.prog 187 [DI m,DI depot] (fun x=>x=DI r):=by
 refine zn Tryz.func187 rfl ?_
 obtain⟨hg,hm⟩:=i4 hm
 refine⟨hg, ?_⟩
 exact hm.rr
def a0o (b_:c4) (c_0:b7):Option Bool:=
 if(b_.Night==c_0.Night)=true then
  some (b_.Ballot==c_0.Ballot)
 else
  some false
theorem a3S (b_:c4) (c_0:b7) (r:Bool) (hm:a0o b_ c_0=some r):d0 Tryz.prog 185 [.agg (c4.c b_), .ptr (b7.c c_0) 0] (fun x=>x=DB r):=by
 refine zn Tryz.func185 rfl ?_
 apply vb hm<;>intro _ hm
 exact hm.rr
 exact hm.rr
def u5 (s:(List c4)) (c1_0:b7):Int→Option (Sum Int (Sum Int Int)):=fun v7=>
 if(decide (v7<(s.length:Int)))=true then
  Option.bind (idx s v7) fun e15=>
  Option.bind (a0o e15 c1_0) fun x17=>
  if x17=true then
   some (.inr (.inr v7))
  else
   some (.inl (W (v7+1)))
 else
  some (.inr (.inl v7))
def y8 (s:(List c4)) (c1_0:b7):Option Int:=
 Option.bind (l5 (u5 s c1_0) 0) fun e=>
 match e with
 | .inl v20=>
  some (-1)
 | .inr rr21=>
  some rr21
theorem I5 (s:(List c4)) (c1_0:b7) (r:Int) (hm:y8 s c1_0=some r):d0 Tryz.prog 178 [lD 6 s c4.c, .fn 185 [] [.ptr (b7.c c1_0) 0]] (fun x=>x=DI r):=by
 refine zn Tryz.func178 rfl ?_
 obtain⟨ev22,he,hk23⟩:=a8 hm
 refine q9.ofL (u5 s c1_0) (fun v7=>⟨[(0,lD 6 s c4.c),(1, .fn 185 [] [.ptr (b7.c c1_0) 0]),(4,DI 0),(7,DI (s.length:Int)),(8,DI v7)], [],0⟩) 0 (c5.of 0 rfl (tA rfl) trivial) he ?_
 rintro fu24 v7 b hm hi25
 apply vb hm<;>intro _ hm
 obtain⟨e27,hx28,hm⟩:=a8 hm
 refine⟨_,c8 (fun _=>rfl) hx28, ?_⟩
 refine cy hm (a3S e27 c1_0) fun x29 hm=> ?_
 apply vb hm<;>intro _ hm
 cases hm
 cases hi25
 have hm:=hk23
 exact hm.rr
 cases hm
 exact⟨(_,(W (v7+1))),c5.of 0 rfl (tA rfl) trivial,hi25,Nat.lt_succ_self _⟩
 cases hm
 cases hi25
 have hm:=hk23
 exact hm.rr
def K9 (s:(List b4)) (i:Int) (v:(List b4)):Option (List b4):=
 gd (0≤i∧i.toNat≤s.length)<|
 if((v.length:Int)==0)=true then
  some s
 else
  if(i==(s.length:Int))=true then
   gd ((s.length+v.length)*32≤140737488355328∧s.length+v.length≤9223372036854775807)<|
   some (s++v)
  else
   gd (0≤i∧i.toNat<s.length∧0<v.length∧(s.length+v.length)*32≤140737488355328∧s.length+v.length≤9223372036854775807) (some (s.take i.toNat++v++s.drop i.toNat))
theorem Y4 (s:(List b4)) (i:Int) (v:(List b4)) (r:(List b4)) (hm:K9 s i v=some r):a7N Tryz.prog 210 4 s.length (s.flatMap b4.c) 149 [DI i,lD 4 v b4.c] 4 r.length (r.flatMap b4.c):=by
 obtain⟨hg0,hm⟩:=i4 hm
 refine a5W (X:=⟨Tryz.prog,tt,Tryz.f210.ntmps, [], [], [], [], [], []⟩) (t:=24) (tI:=3) (tB:=4) (ov:=222) (ty:=149) (args:= [lD 4 v b4.c]) pok Tryz.func210 rfl rfl .mk .mk (Nat.le_of_ble_eq_true rfl) hg0 rfl rfl rfl rfl rfl rfl (by kernel_rfl) ⟨⟨_,4,Tryz.func222,by kernel_rfl,by kernel_rfl,by kernel_rfl,by kernel_rfl⟩⟩ (by decide) ?_
 apply vb hm<;>intro _ hm
 cases hm
 exact⟨rfl,rfl⟩
 apply vb hm<;>intro _ hm
 obtain⟨hg,hm⟩:=i4 hm
 refine⟨hg,_,_,G8 (c:=b4.c) (l:=(s:List b4)) (r:=(v:List b4)), ?_⟩
 cases hm
 exact⟨rfl,rfl⟩
 obtain⟨hg,hm⟩:=i4 hm
 cases hm
 exact b6L (fun _=>rfl) hg
def n8 (x:(List b4)) (target:b4):(Int×Int)→Option (Sum (Int×Int) (Int×Int)):=fun(i7,j8)=>
 if(decide (i7<j8))=true then
  Option.bind (idx x (W ((IntKind.u64.wrap (W (i7+j8))).fdiv (2^(min (1:Int).toNat IntKind.u64.bits))))) fun e16=>
  Option.bind (F2 e16 target) fun x18=>
  if(decide (x18<0))=true then
   some (.inl ((W ((W ((IntKind.u64.wrap (W (i7+j8))).fdiv (2^(min (1:Int).toNat IntKind.u64.bits))))+1)),j8))
  else
   some (.inl (i7,(W ((IntKind.u64.wrap (W (i7+j8))).fdiv (2^(min (1:Int).toNat IntKind.u64.bits))))))
 else
  some (.inr (i7,j8))
def o7 (x:(List b4)) (target:b4):Option (Int×Bool):=
 Option.bind (l5 (n8 x target) (0,(x.length:Int))) fun(i21,j22)=>
 if(decide (i21<(x.length:Int)))=true then
  Option.bind (idx x i21) fun e24=>
  Option.bind (F2 e24 target) fun x26=>
  some (i21,(x26==0))
 else
  some (i21,false)
theorem D4 (x:(List b4)) (target:b4) (r:(Int×Bool)) (hm:o7 x target=some r):d0 Tryz.prog 221 [lD 4 x b4.c, .agg (b4.c target), .fn 139 [] []] (fun x=>x= .tup [DI r.1,DB r.2]):=by
 refine zy c2S [] [] [] Tryz.func221 rfl ?_
 obtain⟨ev28,he,hk29⟩:=a8 hm
 refine q9.ofL (n8 x target) (fun(i7,j8)=>⟨[(0,lD 4 x b4.c),(1, .agg (b4.c target)),(2, .fn 139 [] []),(4, .own 0 0),(6,DI 0),(7,DB false),(8,DI (x.length:Int)),(9,DI i7),(10,DI j8)], [(0, .blk (b4.c target) 149)],1⟩) (0,(x.length:Int)) (c5.of 1 rfl (tA rfl) ⟨hR rfl,trivial⟩) he ?_
 rintro fu30 ⟨i7,j8⟩ b hm hi31
 apply vb hm<;>intro _ hm
 refine⟨by decide, ?_⟩
 refine⟨rfl, ?_⟩
 obtain⟨e33,hx34,hm⟩:=a8 hm
 refine⟨_,c8 (fun _=>rfl) hx34, ?_⟩
 refine cy hm (S9 e33 target) fun x35 hm=> ?_
 apply vb hm<;>intro _ hm
 cases hm
 exact⟨(_,((W ((W ((IntKind.u64.wrap (W (i7+j8))).fdiv (2^(min (1:Int).toNat IntKind.u64.bits))))+1)),j8)),c5.of 1 rfl (tA rfl) ⟨hR rfl,trivial⟩,hi31,Nat.lt_succ_self _⟩
 cases hm
 exact⟨(_,(i7,(W ((IntKind.u64.wrap (W (i7+j8))).fdiv (2^(min (1:Int).toNat IntKind.u64.bits)))))),c5.of 1 rfl (tA rfl) ⟨hR rfl,trivial⟩,hi31,Nat.lt_succ_self _⟩
 cases hm
 cases hi31
 have hm:=hk29
 refine⟨rfl, ?_⟩
 apply vb hm<;>intro _ hm
 obtain⟨e39,hx40,hm⟩:=a8 hm
 refine⟨_,c8 (fun _=>rfl) hx40, ?_⟩
 refine cy hm (S9 e39 target) fun x41 hm=> ?_
 cases hm
 exact d8.le (leD.refl _)
 cases hm
 exact d8.le (leD.refl _)
def F6 (l:(List b4)) (x:b4):Option (Int×Bool):=
 Option.bind (o7 l x) fun⟨x1,x2⟩=>
 some (x1,x2)
theorem P2 (l:(List b4)) (x:b4) (r:(Int×Bool)) (hm:F6 l x=some r):d0 Tryz.prog 209 [lD 4 l b4.c, .agg (b4.c x), .fn 139 [] []] (fun x=>x= .tup [DI r.1,DB r.2]):=by
 refine zn Tryz.func209 rfl ?_
 refine cy hm (D4 l x) ?_
 rintro⟨x1,x2⟩ hm
 cases hm
 exact d8.le (leD.refl _)
def M4 (s:(List b9)) (i:Int) (v:(List b9)):Option (List b9):=
 gd (0≤i∧i.toNat≤s.length)<|
 if((v.length:Int)==0)=true then
  some s
 else
  if(i==(s.length:Int))=true then
   gd ((s.length+v.length)*48≤140737488355328∧s.length+v.length≤9223372036854775807)<|
   some (s++v)
  else
   gd (0≤i∧i.toNat<s.length∧0<v.length∧(s.length+v.length)*48≤140737488355328∧s.length+v.length≤9223372036854775807) (some (s.take i.toNat++v++s.drop i.toNat))
theorem a0D (s:(List b9)) (i:Int) (v:(List b9)) (r:(List b9)) (hm:M4 s i v=some r):a7N Tryz.prog 211 6 s.length (s.flatMap b9.c) 114 [DI i,lD 6 v b9.c] 6 r.length (r.flatMap b9.c):=by
 obtain⟨hg0,hm⟩:=i4 hm
 refine a5W (X:=⟨Tryz.prog,tt,Tryz.f211.ntmps, [], [], [], [], [], []⟩) (t:=26) (tI:=3) (tB:=4) (ov:=224) (ty:=114) (args:= [lD 6 v b9.c]) pok Tryz.func211 rfl rfl .mk .mk (Nat.le_of_ble_eq_true rfl) hg0 rfl rfl rfl rfl rfl rfl (by kernel_rfl) ⟨⟨_,4,Tryz.func224,by kernel_rfl,by kernel_rfl,by kernel_rfl,by kernel_rfl⟩⟩ (by decide) ?_
 apply vb hm<;>intro _ hm
 cases hm
 exact⟨rfl,rfl⟩
 apply vb hm<;>intro _ hm
 obtain⟨hg,hm⟩:=i4 hm
 refine⟨hg,_,_,G8 (c:=b9.c) (l:=(s:List b9)) (r:=(v:List b9)), ?_⟩
 cases hm
 exact⟨rfl,rfl⟩
 obtain⟨hg,hm⟩:=i4 hm
 cases hm
 exact b6L (fun _=>rfl) hg
def o5 (x:(List b9)) (target:b9):(Int×Int)→Option (Sum (Int×Int) (Int×Int)):=fun(i7,j8)=>
 if(decide (i7<j8))=true then
  Option.bind (idx x (W ((IntKind.u64.wrap (W (i7+j8))).fdiv (2^(min (1:Int).toNat IntKind.u64.bits))))) fun e16=>
  Option.bind (F1 e16 target) fun x18=>
  if(decide (x18<0))=true then
   some (.inl ((W ((W ((IntKind.u64.wrap (W (i7+j8))).fdiv (2^(min (1:Int).toNat IntKind.u64.bits))))+1)),j8))
  else
   some (.inl (i7,(W ((IntKind.u64.wrap (W (i7+j8))).fdiv (2^(min (1:Int).toNat IntKind.u64.bits))))))
 else
  some (.inr (i7,j8))
def p0 (x:(List b9)) (target:b9):Option (Int×Bool):=
 Option.bind (l5 (o5 x target) (0,(x.length:Int))) fun(i21,j22)=>
 if(decide (i21<(x.length:Int)))=true then
  Option.bind (idx x i21) fun e24=>
  Option.bind (F1 e24 target) fun x26=>
  some (i21,(x26==0))
 else
  some (i21,false)
theorem E0 (x:(List b9)) (target:b9) (r:(Int×Bool)) (hm:p0 x target=some r):d0 Tryz.prog 152 [lD 6 x b9.c, .agg (b9.c target), .fn 95 [] []] (fun x=>x= .tup [DI r.1,DB r.2]):=by
 refine zy c4b [] [] [] Tryz.func152 rfl ?_
 obtain⟨ev28,he,hk29⟩:=a8 hm
 refine q9.ofL (o5 x target) (fun(i7,j8)=>⟨[(0,lD 6 x b9.c),(1, .agg (b9.c target)),(2, .fn 95 [] []),(4, .own 0 0),(6,DI 0),(7,DB false),(8,DI (x.length:Int)),(9,DI i7),(10,DI j8)], [(0, .blk (b9.c target) 114)],1⟩) (0,(x.length:Int)) (c5.of 1 rfl (tA rfl) ⟨hR rfl,trivial⟩) he ?_
 rintro fu30 ⟨i7,j8⟩ b hm hi31
 apply vb hm<;>intro _ hm
 refine⟨by decide, ?_⟩
 refine⟨rfl, ?_⟩
 obtain⟨e33,hx34,hm⟩:=a8 hm
 refine⟨_,c8 (fun _=>rfl) hx34, ?_⟩
 refine cy hm (T0 e33 target) fun x35 hm=> ?_
 apply vb hm<;>intro _ hm
 cases hm
 exact⟨(_,((W ((W ((IntKind.u64.wrap (W (i7+j8))).fdiv (2^(min (1:Int).toNat IntKind.u64.bits))))+1)),j8)),c5.of 1 rfl (tA rfl) ⟨hR rfl,trivial⟩,hi31,Nat.lt_succ_self _⟩
 cases hm
 exact⟨(_,(i7,(W ((IntKind.u64.wrap (W (i7+j8))).fdiv (2^(min (1:Int).toNat IntKind.u64.bits)))))),c5.of 1 rfl (tA rfl) ⟨hR rfl,trivial⟩,hi31,Nat.lt_succ_self _⟩
 cases hm
 cases hi31
 have hm:=hk29
 refine⟨rfl, ?_⟩
 apply vb hm<;>intro _ hm
 obtain⟨e39,hx40,hm⟩:=a8 hm
 refine⟨_,c8 (fun _=>rfl) hx40, ?_⟩
 refine cy hm (T0 e39 target) fun x41 hm=> ?_
 cases hm
 exact d8.le (leD.refl _)
 cases hm
 exact d8.le (leD.refl _)
def G6 (l:(List b9)) (x:b9):Option (Int×Bool):=
 Option.bind (p0 l x) fun⟨x1,x2⟩=>
 some (x1,x2)
theorem P9 (l:(List b9)) (x:b9) (r:(Int×Bool)) (hm:G6 l x=some r):d0 Tryz.prog 94 [lD 6 l b9.c, .agg (b9.c x), .fn 95 [] []] (fun x=>x= .tup [DI r.1,DB r.2]):=by
 refine zn Tryz.func94 rfl ?_
 refine cy hm (E0 l x) ?_
 rintro⟨x1,x2⟩ hm
 cases hm
 exact d8.le (leD.refl _)
theorem b1z:d0 Tryz.prog 96 [] (fun x=>x= .mp [(1,154),(2,155),(3,156),(4,157),(5,158),(6,159)]):=
 b8y (t:=140) (kt:=3) (et:=139) Tryz.func96 rfl (.mk (.cons (.cons (.cons (.cons (.cons (.cons .nil))))))) (by decide) rfl rfl (by kernel_rfl) (by kernel_rfl)
def a3z (c:b7) (v9:(List b6)):Option (Sum ((List b6)×Int) Unit):=
 Option.bind (G0 v9 (⟨c.Night,0,0,0⟩:b6)) fun⟨x122,x123⟩=>
 if x123=true then
  some (.inl (v9,x122))
 else
  if((v9.length:Int)==12)=true then
   some (.inr ())
  else
   Option.bind (M6 v9 x122 ([(⟨c.Night,0,0,0⟩:b6)]:List b6)) fun x127=>
   some (.inl (x127,x122))
def a1d (c:b7) (v9:(List b6)):Option (Sum ((List b6)×Int) Unit):=
 Option.bind (a3z c v9) fun e=>
 match e with
 | .inl (v120,x121)=>
  Option.bind (idx v120 x121) fun e131=>
  some (.inl (v120,x121))
 | .inr _=>
  some (.inr ())
def a3H (c:b7) (v9:(List b6)):Option ((List b6)×Bool):=
 Option.bind (a1d c v9) fun e=>
 match e with
 | .inl (v111,x112)=>
  Option.bind (idx v111 x112) fun e142=>
  if(decide (c.Ballot>e142.Promised))=true then
   Option.bind (idx v111 x112) fun e145=>
   some ((v111.set x112.toNat (⟨e145.Night,c.Ballot,e145.Ballot,e145.Value⟩:b6)),true)
  else
   some (v111,true)
 | .inr _=>
  some (v9,false)
def a3t (c:b7) (v10:(List c4)):Option (List c4):=
 Option.bind (y8 v10 c) fun x292=>
 if(decide (x292<0))=true then
  some v10
 else
  Option.bind (idx v10 x292) fun e295=>
  Option.bind (idx v10 x292) fun e297=>
  if e297.Asked=true then
   some v10
  else
   Option.bind (idx v10 x292) fun e300=>
   Option.bind (a2W e300.Mask c.From) fun x302=>
   if x302=true then
    some v10
   else
    Option.bind (idx v10 x292) fun e305=>
    Option.bind (a0i e305.Mask c.From) fun x307=>
    Option.bind (G3 x307) fun x309=>
    Option.bind (idx v10 x292) fun e311=>
    Option.bind (idx (v10.set x292.toNat (⟨e311.Night,e311.Ballot,e311.Value,e311.Best,x307,e311.Asked⟩:c4)) x292) fun e313=>
    Option.bind (idx ((v10.set x292.toNat (⟨e311.Night,e311.Ballot,e311.Value,e311.Best,x307,e311.Asked⟩:c4)).set x292.toNat (⟨e313.Night,e313.Ballot,e313.Value,e313.Best,e313.Mask,x309⟩:c4)) x292) fun e315=>
    if(decide (c.Best>e315.Best))=true then
     Option.bind (idx ((v10.set x292.toNat (⟨e311.Night,e311.Ballot,e311.Value,e311.Best,x307,e311.Asked⟩:c4)).set x292.toNat (⟨e313.Night,e313.Ballot,e313.Value,e313.Best,e313.Mask,x309⟩:c4)) x292) fun e318=>
     Option.bind (idx (((v10.set x292.toNat (⟨e311.Night,e311.Ballot,e311.Value,e311.Best,x307,e311.Asked⟩:c4)).set x292.toNat (⟨e313.Night,e313.Ballot,e313.Value,e313.Best,e313.Mask,x309⟩:c4)).set x292.toNat (⟨e318.Night,e318.Ballot,e318.Value,c.Best,e318.Mask,e318.Asked⟩:c4)) x292) fun e320=>
     some ((((v10.set x292.toNat (⟨e311.Night,e311.Ballot,e311.Value,e311.Best,x307,e311.Asked⟩:c4)).set x292.toNat (⟨e313.Night,e313.Ballot,e313.Value,e313.Best,e313.Mask,x309⟩:c4)).set x292.toNat (⟨e318.Night,e318.Ballot,e318.Value,c.Best,e318.Mask,e318.Asked⟩:c4)).set x292.toNat (⟨e320.Night,e320.Ballot,c.Value,e320.Best,e320.Mask,e320.Asked⟩:c4))
    else
     some ((v10.set x292.toNat (⟨e311.Night,e311.Ballot,e311.Value,e311.Best,x307,e311.Asked⟩:c4)).set x292.toNat (⟨e313.Night,e313.Ballot,e313.Value,e313.Best,e313.Mask,x309⟩:c4))
def a3N (c:b7) (v9:(List b6)):Option ((List b6)×Bool):=
 Option.bind (a1d c v9) fun e=>
 match e with
 | .inl (v430,x431)=>
  Option.bind (idx v430 x431) fun e461=>
  if(decide (c.Ballot≥e461.Promised))=true then
   Option.bind (idx v430 x431) fun e464=>
   Option.bind (idx (v430.set x431.toNat (⟨e464.Night,c.Ballot,e464.Ballot,e464.Value⟩:b6)) x431) fun e466=>
   Option.bind (idx ((v430.set x431.toNat (⟨e464.Night,c.Ballot,e464.Ballot,e464.Value⟩:b6)).set x431.toNat (⟨e466.Night,e466.Promised,c.Ballot,e466.Value⟩:b6)) x431) fun e468=>
   some ((((v430.set x431.toNat (⟨e464.Night,c.Ballot,e464.Ballot,e464.Value⟩:b6)).set x431.toNat (⟨e466.Night,e466.Promised,c.Ballot,e466.Value⟩:b6)).set x431.toNat (⟨e468.Night,e468.Promised,e468.Ballot,c.Value⟩:b6)),true)
  else
   some (v430,true)
 | .inr _=>
  some (v9,false)
def a2U (c:b7) (v11:(List b4)):Option (Sum ((List b4)×Int) Unit):=
 Option.bind (F6 v11 (⟨c.Night,c.Ballot,c.Value,0⟩:b4)) fun⟨x632,x633⟩=>
 if x633=true then
  some (.inl (v11,x632))
 else
  if((v11.length:Int)==60)=true then
   some (.inr ())
  else
   Option.bind (K9 v11 x632 ([(⟨c.Night,c.Ballot,c.Value,0⟩:b4)]:List b4)) fun x637=>
   some (.inl (x637,x632))
def a2S (c:b7) (v11:(List b4)):Option ((List b4)×Bool):=
 Option.bind (a2U c v11) fun e=>
 match e with
 | .inl (v630,x631)=>
  Option.bind (idx v630 x631) fun e641=>
  Option.bind (idx v630 x631) fun e643=>
  if(e643.Value==c.Value)=true then
   Option.bind (idx v630 x631) fun e646=>
   Option.bind (idx v630 x631) fun e648=>
   Option.bind (a0i e648.Mask c.From) fun x650=>
   Option.bind (idx v630 x631) fun e652=>
   Option.bind (idx v630 x631) fun e654=>
   some ((v630.set x631.toNat (⟨e654.Night,e654.Ballot,e654.Value,x650⟩:b4)),true)
  else
   some (v630,true)
 | .inr _=>
  some (v11,false)
def a3s (c:b7) (v13:(List b9)):Option (Sum ((List b9)×Int) Unit):=
 Option.bind (G6 v13 (⟨c.From,c.No,c.Thing,c.Start,c.Until,false⟩:b9)) fun⟨x736,x737⟩=>
 if x737=true then
  some (.inl (v13,x736))
 else
  if((v13.length:Int)==60)=true then
   some (.inr ())
  else
   Option.bind (M4 v13 x736 ([(⟨c.From,c.No,c.Thing,c.Start,c.Until,false⟩:b9)]:List b9)) fun x741=>
   some (.inl (x741,x736))
def a4i (c:b7) (v13:(List b9)):Option ((List b9)×Bool):=
 Option.bind (a3s c v13) fun e=>
 match e with
 | .inl (v734,x735)=>
  some (v734,true)
 | .inr _=>
  some (v13,false)
def Y5 (c:b7) (v12:(List a7)):(Int×(List a7))→Option (Sum (Int×(List a7)) (Int×(List a7))):=fun(v858,v859)=>
 if(decide (v858<(v12.length:Int)))=true then
  Option.bind (idx v859 v858) fun e879=>
  Option.bind (idx v859 v858) fun e881=>
  if(e881.No==c.No)=true then
   Option.bind (idx v859 v858) fun e884=>
   if(e884.Thing==c.Thing)=true then
    Option.bind (idx v859 v858) fun e887=>
    if(e887.To==c.From)=true then
     Option.bind (idx v859 v858) fun e890=>
     Option.bind (idx v859 v858) fun e892=>
     Option.bind (idx v859 v858) fun e894=>
     some (.inl ((W (v858+1)),(v859.set v858.toNat (⟨e894.No,e894.Thing,e894.To,e894.From,(if(if e892.From>c.Until then e892.From else c.Until)<e890.Until then(if e892.From>c.Until then e892.From else c.Until)else e890.Until)⟩:a7))))
    else
     some (.inl ((W (v858+1)),v859))
   else
    some (.inl ((W (v858+1)),v859))
  else
   some (.inl ((W (v858+1)),v859))
 else
  some (.inr (v858,v859))
def a5b (c:b7) (v12:(List a7)):Option (List a7):=
 Option.bind (l5 (Y5 c v12) (0,v12)) fun(v896,v897)=>
 some v897
end Go.Proofs.YtcedmbakcchkiaaGreatDoor
