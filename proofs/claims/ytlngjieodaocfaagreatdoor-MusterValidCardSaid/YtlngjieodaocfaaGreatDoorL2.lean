/- Functions of the program as pure Lean functions, and that calls do what these say. Printed by a program out of the given form. -/
import Derived.Test.YtlngjieodaocfaaGreatDoorL1
set_option linter.unusedVariables false
set_option linter.unusedSimpArgs false
namespace Go.Proofs.YtlngjieodaocfaaGreatDoor
open Go Go.RowKit Go.Sx
set_option maxRecDepth 100000
set_option maxHeartbeats 20000000
def B0 (s:(List b8)) (c1_0:b8):Int→Option (Sum Int (Sum Int Int)):=fun v7=>
 if(decide (v7<(s.length:Int)))=true then
  Option.bind (idx s v7) fun e15=>
  Option.bind (a0R e15 c1_0) fun x17=>
  if x17=true then
   some (.inr (.inr v7))
  else
   some (.inl (W (v7+1)))
 else
  some (.inr (.inl v7))
def D2 (s:(List b8)) (c1_0:b8):Option Int:=
 Option.bind (j4 (B0 s c1_0) 0) fun e=>
 match e with
 | .inl v20=>
  some (-1)
 | .inr rr21=>
  some rr21
theorem N5 (s:(List b8)) (c1_0:b8) (r:Int) (hm:D2 s c1_0=some r):d7 Tryz.prog 94 [lD 5 s b8.c, .fn 54 [] [.ptr (b8.c c1_0) 0]] (fun x=>x=DI r):=by
 refine zn Tryz.func94 rfl ?_
 obtain⟨ev22,he,hk23⟩:=b9 hm
 refine c9k (B0 s c1_0) (fun v7=>⟨[(0,lD 5 s b8.c),(1, .fn 54 [] [.ptr (b8.c c1_0) 0]),(7,DI (s.length:Int)),(8,DI v7)], [],0⟩) 0 (sb 0) he ?_
 rintro fu24 v7 b hm hi25
 apply vb hm<;>intro _ hm
 refine ei hm fun e27 hm=> ?_
 refine cy hm (a7s e27 c1_0) fun x29 hm=> ?_
 apply vb hm<;>intro _ hm
 cases hm
 cases hi25
 have hm:=hk23
 exact hm.rr
 cases hm
 exact⟨(_,(W (v7+1))),sb 0,hi25,Nat.lt_succ_self _⟩
 cases hm
 cases hi25
 have hm:=hk23
 exact hm.rr
def A8 (s:(List b8)) (c1_0:b8):Option Bool:=
 Option.bind (D2 s c1_0) fun x1=>
 some (decide (x1≥0))
theorem M6 (s:(List b8)) (c1_0:b8) (r:Bool) (hm:A8 s c1_0=some r):d7 Tryz.prog 53 [lD 5 s b8.c, .fn 54 [] [.ptr (b8.c c1_0) 0]] (fun x=>x=DB r):=by
 refine zn Tryz.func53 rfl ?_
 refine cy hm (N5 s c1_0) fun x1 hm=> ?_
 exact hm.rr
def a0m (p:K6) (l:b8):Option Bool:=
 Option.bind (A8 p.Station.Now.Leases l) fun x1=>
 some x1
theorem a4C (p:K6) (l:b8) (r:Bool) (hm:a0m p l=some r):d7 Tryz.prog 27 [.ptr (K6.c p) 0, .agg (b8.c l)] (fun x=>x=DB r):=by
 refine zn Tryz.func27 rfl ?_
 refine co hm (M6 p.Station.Now.Leases l) fun x1 hm=> ?_
 exact hm.rr
def L9 (x:a6) (thing:Int) (to_:Int) (from_:Int) (until_:Int):Option (a6×Int):=
 Option.bind (R4 x) fun e=>
 match e with
 | .inl x8=>
  if(x8 !=0)=true then
   some ((⟨0,(⟨0, [], [], [], [], []⟩:b7),(⟨0, [], [], [], [], []⟩:b7)⟩:a6),x8)
  else
   Option.bind (A1 thing) fun x32=>
   if(!x32)=true then
    some ((⟨0,(⟨0, [], [], [], [], []⟩:b7),(⟨0, [], [], [], [], []⟩:b7)⟩:a6),1)
   else
    Option.bind (u7 to_) fun x35=>
    if(!x35)=true then
     some ((⟨0,(⟨0, [], [], [], [], []⟩:b7),(⟨0, [], [], [], [], []⟩:b7)⟩:a6),1)
    else
     Option.bind (d9 from_) fun x38=>
     if(!x38)=true then
      some ((⟨0,(⟨0, [], [], [], [], []⟩:b7),(⟨0, [], [], [], [], []⟩:b7)⟩:a6),95)
     else
      Option.bind (d9 until_) fun x41=>
      if(!x41)=true then
       some ((⟨0,(⟨0, [], [], [], [], []⟩:b7),(⟨0, [], [], [], [], []⟩:b7)⟩:a6),95)
      else
       none
 | .inr (v9,v10,v11,v12,v13,v14,v15,v16,v17,v18,x19,x20,x21)=>
  Option.bind (A1 thing) fun x44=>
  if(!x44)=true then
   some ((⟨0,(⟨0, [], [], [], [], []⟩:b7),(⟨0, [], [], [], [], []⟩:b7)⟩:a6),1)
  else
   Option.bind (u7 to_) fun x47=>
   if(!x47)=true then
    some ((⟨0,(⟨0, [], [], [], [], []⟩:b7),(⟨0, [], [], [], [], []⟩:b7)⟩:a6),1)
   else
    Option.bind (d9 from_) fun x50=>
    if(!x50)=true then
     some ((⟨0,(⟨0, [], [], [], [], []⟩:b7),(⟨0, [], [], [], [], []⟩:b7)⟩:a6),95)
    else
     Option.bind (d9 until_) fun x53=>
     if(!x53)=true then
      some ((⟨0,(⟨0, [], [], [], [], []⟩:b7),(⟨0, [], [], [], [], []⟩:b7)⟩:a6),95)
     else
      Option.bind (d8 thing) fun x56=>
      if(x56 !=x19)=true then
       some ((⟨0,(⟨0, [], [], [], [], []⟩:b7),(⟨0, [], [], [], [], []⟩:b7)⟩:a6),92)
      else
       if(to_==x19)=true then
        some ((⟨0,(⟨0, [], [], [], [], []⟩:b7),(⟨0, [], [], [], [], []⟩:b7)⟩:a6),1)
       else
        if(decide (from_>until_))=true then
         some ((⟨0,(⟨0, [], [], [], [], []⟩:b7),(⟨0, [], [], [], [], []⟩:b7)⟩:a6),95)
        else
         Option.bind (a0m (⟨(⟨x19,(⟨x20,v9,v10,v11,v12,v13⟩:b7),(⟨x21,v14,v15,v16,v17,v18⟩:b7)⟩:a6)⟩:K6) (⟨(W ((v12.length:Int)+1)),thing,to_,from_,until_⟩:b8)) fun x61=>
         if x61=true then
          some ((⟨0,(⟨0, [], [], [], [], []⟩:b7),(⟨0, [], [], [], [], []⟩:b7)⟩:a6),93)
         else
          if((v12.length:Int)==40)=true then
           some ((⟨0,(⟨0, [], [], [], [], []⟩:b7),(⟨0, [], [], [], [], []⟩:b7)⟩:a6),2)
          else
           gd ((v12.length+([(⟨(W ((v12.length:Int)+1)),thing,to_,from_,until_⟩:b8)]:List b8).length)*40≤140737488355328∧v12.length+([(⟨(W ((v12.length:Int)+1)),thing,to_,from_,until_⟩:b8)]:List b8).length≤9223372036854775807)<|
           some ((⟨x19,(⟨x20,v9,v10,v11,(v12++([(⟨(W ((v12.length:Int)+1)),thing,to_,from_,until_⟩:b8)]:List b8)),v13⟩:b7),(⟨x21,v14,v15,v16,v17,v18⟩:b7)⟩:a6),0)
theorem a1u (x:a6) (thing:Int) (to_:Int) (from_:Int) (until_:Int) (r:(a6×Int)) (hm:L9 x thing to_ from_ until_=some r):d7 Tryz.prog 7 [.agg (a6.c x),DI thing,DI to_,DI from_,DI until_] (fun x=>x= .tup [.agg (a6.c r.1),DI r.2]):=by
 refine zy pl7 [51,76,144,145,173] [32] [18] Tryz.func7 rfl ?_
 obtain⟨ev29,he30,hm⟩:=b9 hm
 refine M2.ofZ pok ⟨[(0, .agg (a6.c x)),(1000001,DI thing),(1000002,DI to_),(1000003,DI from_),(1000004,DI until_),(1000010, .own 1 0)], [(1, .blk [DI 0,DI 0,nS,nS,nS,nS,nS,DI 0,nS,nS,nS,nS,nS] 38)],2⟩ (match ev29 with| .inl x8=>(⟨[(1,DI thing),(2,DI to_),(3,DI from_),(4,DI until_),(10, .own 1 0),(17, .tup [.v (.pointer none),DI x8])], [(1, .blk [DI 0,DI 0,nS,nS,nS,nS,nS,DI 0,nS,nS,nS,nS,nS] 38)],2⟩:Sy)| .inr (v9,v10,v11,v12,v13,v14,v15,v16,v17,v18,x19,x20,x21)=>(⟨[(1,DI thing),(2,DI to_),(3,DI from_),(4,DI until_),(10, .own 1 0),(17, .tup [.own 13 0,DI 0])], [(1, .blk [DI 0,DI 0,nS,nS,nS,nS,nS,DI 0,nS,nS,nS,nS,nS] 38),(3,rE 4 v9 a8.c 87),(4,rE 6 v10 c0.c 67),(5,rE 4 v11 a7.c 89),(6,rE 5 v12 b8.c 73),(7,rE 6 v13 b6.c 78),(8,rE 4 v14 a8.c 87),(9,rE 6 v15 c0.c 67),(10,rE 4 v16 a7.c 89),(11,rE 5 v17 b8.c 73),(12,rE 6 v18 b6.c 78),(13, .blk [DI x19,DI x20, .row 3 4, .row 4 6, .row 5 4, .row 6 5, .row 7 6,DI x21, .row 8 4, .row 9 6, .row 10 4, .row 11 5, .row 12 6] 65)],14⟩:Sy):Sy) b8F [51,76,144,145,173] [32] [18] Tryz.func18 rfl rfl rfl (sb 2) (fun sv=> ?_) ?_
 have hm:=he30
 refine cy hm (P1 x) fun x65 hm=> ?_
 apply vb hm<;>intro _ hm
 cases hm
 exact sb 2
 refine⟨rfl, ?_⟩
 obtain⟨x68,hx69,hm⟩:=b9 hm
 refine .inr (a4O.mk ⟨_,_,L1 x.Now _ hx69, ?_⟩)
 obtain⟨x70,hx71,hm⟩:=b9 hm
 refine .inr (a4O.mk ⟨_,_,L1 x.Safe _ hx71, ?_⟩)
 cases hm
 exact sb 14
 rcases ev29 with x8|⟨v9,v10,v11,v12,v13,v14,v15,v16,v17,v18,x19,x20,x21⟩
 apply vb hm<;>intro _ hm
 cases hm
 exact c9j (le1)
 refine cy hm (J3 thing) fun x32 hm=> ?_
 apply vb hm<;>intro _ hm
 cases hm
 exact c9j (le1)
 refine cy hm (A2 to_) fun x35 hm=> ?_
 apply vb hm<;>intro _ hm
 cases hm
 exact c9j (le1)
 refine cy hm (l8 from_) fun x38 hm=> ?_
 apply vb hm<;>intro _ hm
 cases hm
 exact c9j (le1)
 refine cy hm (l8 until_) fun x41 hm=> ?_
 apply vb hm<;>intro _ hm
 cases hm
 exact c9j (le1)
 refine⟨rfl, ?_⟩
 cases hm
 refine cy hm (J3 thing) fun x44 hm=> ?_
 apply vb hm<;>intro _ hm
 cases hm
 exact c9j (le1)
 refine cy hm (A2 to_) fun x47 hm=> ?_
 apply vb hm<;>intro _ hm
 cases hm
 exact c9j (le1)
 refine cy hm (l8 from_) fun x50 hm=> ?_
 apply vb hm<;>intro _ hm
 cases hm
 exact c9j (le1)
 refine cy hm (l8 until_) fun x53 hm=> ?_
 apply vb hm<;>intro _ hm
 cases hm
 exact c9j (le1)
 refine⟨rfl, ?_⟩
 refine cy hm (j2 thing) fun x56 hm=> ?_
 apply vb hm<;>intro _ hm
 cases hm
 exact c9j (le1)
 apply vb hm<;>intro _ hm
 cases hm
 exact c9j (le1)
 apply vb hm<;>intro _ hm
 cases hm
 exact c9j (le1)
 refine co hm (a4C ((⟨(⟨x19,(⟨x20,v9,v10,v11,v12,v13⟩:b7),(⟨x21,v14,v15,v16,v17,v18⟩:b7)⟩:a6)⟩:K6)) ((⟨(W ((v12.length:Int)+1)),thing,to_,from_,until_⟩:b8))) fun x61 hm=> ?_
 apply vb hm<;>intro _ hm
 cases hm
 exact c9j (le1)
 apply vb hm<;>intro _ hm
 cases hm
 exact c9j (le1)
 refine⟨rfl, ?_⟩
 refine⟨([(⟨(W ((v12.length:Int)+1)),thing,to_,from_,until_⟩:b8)]:List b8).flatMap b8.c,([(⟨(W ((v12.length:Int)+1)),thing,to_,from_,until_⟩:b8)]:List b8).length,⟨rfl,rfl⟩, ?_⟩
 obtain⟨hg,hm⟩:=c7 hm
 refine⟨hg,_,_,c8 (c:=b8.c) (l:=(v12:List b8)) (r:=(([(⟨(W ((v12.length:Int)+1)),thing,to_,from_,until_⟩:b8)]:List b8):List b8)), ?_⟩
 cases hm
 exact c9j (c9h _)
def u0 (x:(List b6)) (target:b6):(Int×Int)→Option (Sum (Int×Int) (Int×Int)):=fun(i7,j8)=>
 if(decide (i7<j8))=true then
  Option.bind (idx x (W ((IntKind.u64.wrap (W (i7+j8))).fdiv (2^(min (1:Int).toNat IntKind.u64.bits))))) fun e16=>
  Option.bind (G7 e16 target) fun x18=>
  if(decide (x18<0))=true then
   some (.inl ((W ((W ((IntKind.u64.wrap (W (i7+j8))).fdiv (2^(min (1:Int).toNat IntKind.u64.bits))))+1)),j8))
  else
   some (.inl (i7,(W ((IntKind.u64.wrap (W (i7+j8))).fdiv (2^(min (1:Int).toNat IntKind.u64.bits))))))
 else
  some (.inr (i7,j8))
def j7 (x:(List b6)) (target:b6):Option (Int×Bool):=
 Option.bind (j4 (u0 x target) (0,(x.length:Int))) fun(i21,j22)=>
 if(decide (i21<(x.length:Int)))=true then
  Option.bind (idx x i21) fun e24=>
  Option.bind (G7 e24 target) fun x26=>
  some (i21,(x26==0))
 else
  some (i21,false)
theorem J1 (x:(List b6)) (target:b6) (r:(Int×Bool)) (hm:j7 x target=some r):d7 Tryz.prog 56 [lD 6 x b6.c, .agg (b6.c target), .fn 29 [] []] (fun x=>x= .tup [DI r.1,DB r.2]):=by
 refine zy c7W [] [] [] Tryz.func56 rfl ?_
 obtain⟨ev28,he,hk29⟩:=b9 hm
 refine c9k (u0 x target) (fun(i7,j8)=>⟨[(0,lD 6 x b6.c),(2, .fn 29 [] []),(4, .own 0 0),(8,DI (x.length:Int)),(9,DI i7),(10,DI j8)], [(0, .blk (b6.c target) 78)],1⟩) (0,(x.length:Int)) (sb 1) he ?_
 rintro fu30 ⟨i7,j8⟩ b hm hi31
 apply vb hm<;>intro _ hm
 refine⟨by decide, ?_⟩
 refine⟨rfl, ?_⟩
 refine ei hm fun e33 hm=> ?_
 refine cy hm (a0A e33 target) fun x35 hm=> ?_
 apply vb hm<;>intro _ hm
 cases hm
 exact⟨(_,((W ((W ((IntKind.u64.wrap (W (i7+j8))).fdiv (2^(min (1:Int).toNat IntKind.u64.bits))))+1)),j8)),sb 1,hi31,Nat.lt_succ_self _⟩
 cases hm
 exact⟨(_,(i7,(W ((IntKind.u64.wrap (W (i7+j8))).fdiv (2^(min (1:Int).toNat IntKind.u64.bits)))))),sb 1,hi31,Nat.lt_succ_self _⟩
 cases hm
 cases hi31
 have hm:=hk29
 refine⟨rfl, ?_⟩
 apply vb hm<;>intro _ hm
 refine ei hm fun e39 hm=> ?_
 refine cy hm (a0A e39 target) fun x41 hm=> ?_
 cases hm
 exact c9j (c9h _)
 cases hm
 exact c9j (c9h _)
def o5 (l:(List b6)) (x:b6):Option (Int×Bool):=
 Option.bind (j7 l x) fun⟨x1,x2⟩=>
 some (x1,x2)
theorem L2 (l:(List b6)) (x:b6) (r:(Int×Bool)) (hm:o5 l x=some r):d7 Tryz.prog 28 [lD 6 l b6.c, .agg (b6.c x), .fn 29 [] []] (fun x=>x= .tup [DI r.1,DB r.2]):=by
 refine zn Tryz.func28 rfl ?_
 refine cy hm (J1 l x) ?_
 rintro⟨x1,x2⟩ hm
 cases hm
 exact c9j (c9h _)
def a1E (x:a6) (owner:Int) (no:Int) (moment:Int):Option (a6×Int):=
 Option.bind (R4 x) fun e=>
 match e with
 | .inl x8=>
  if(x8 !=0)=true then
   some ((⟨0,(⟨0, [], [], [], [], []⟩:b7),(⟨0, [], [], [], [], []⟩:b7)⟩:a6),x8)
  else
   Option.bind (u7 owner) fun x32=>
   if(!x32)=true then
    some ((⟨0,(⟨0, [], [], [], [], []⟩:b7),(⟨0, [], [], [], [], []⟩:b7)⟩:a6),1)
   else
    Option.bind (d9 moment) fun x35=>
    if(!x35)=true then
     some ((⟨0,(⟨0, [], [], [], [], []⟩:b7),(⟨0, [], [], [], [], []⟩:b7)⟩:a6),95)
    else
     none
 | .inr (v9,v10,v11,v12,v13,v14,v15,v16,v17,v18,x19,x20,x21)=>
  Option.bind (u7 owner) fun x38=>
  if(!x38)=true then
   some ((⟨0,(⟨0, [], [], [], [], []⟩:b7),(⟨0, [], [], [], [], []⟩:b7)⟩:a6),1)
  else
   Option.bind (d9 moment) fun x41=>
   if(!x41)=true then
    some ((⟨0,(⟨0, [], [], [], [], []⟩:b7),(⟨0, [], [], [], [], []⟩:b7)⟩:a6),95)
   else
    Option.bind (o5 v13 (⟨owner,no,0,0,0,false⟩:b6)) fun⟨x44,x45⟩=>
    if(!x45)=true then
     some ((⟨0,(⟨0, [], [], [], [], []⟩:b7),(⟨0, [], [], [], [], []⟩:b7)⟩:a6),94)
    else
     Option.bind (idx v13 x44) fun e48=>
     Option.bind (idx v13 x44) fun e50=>
     if e50.Back=true then
      some ((⟨0,(⟨0, [], [], [], [], []⟩:b7),(⟨0, [], [], [], [], []⟩:b7)⟩:a6),94)
     else
      Option.bind (idx v13 x44) fun e53=>
      Option.bind (idx v13 x44) fun e55=>
      Option.bind (idx v13 x44) fun e57=>
      Option.bind (idx v13 x44) fun e59=>
      Option.bind (idx (v13.set x44.toNat (⟨e59.Owner,e59.No,e59.Thing,e59.From,(if(if e57.From>moment then e57.From else moment)<e55.Until then(if e57.From>moment then e57.From else moment)else e55.Until),e59.Back⟩:b6)) x44) fun e61=>
      some ((⟨x19,(⟨x20,v9,v10,v11,v12,((v13.set x44.toNat (⟨e59.Owner,e59.No,e59.Thing,e59.From,(if(if e57.From>moment then e57.From else moment)<e55.Until then(if e57.From>moment then e57.From else moment)else e55.Until),e59.Back⟩:b6)).set x44.toNat (⟨e61.Owner,e61.No,e61.Thing,e61.From,e61.Until,true⟩:b6))⟩:b7),(⟨x21,v14,v15,v16,v17,v18⟩:b7)⟩:a6),0)
theorem b1N (x:a6) (owner:Int) (no:Int) (moment:Int) (r:(a6×Int)) (hm:a1E x owner no moment=some r):d7 Tryz.prog 8 [.agg (a6.c x),DI owner,DI no,DI moment] (fun x=>x= .tup [.agg (a6.c r.1),DI r.2]):=by
 refine zy pl8 [51,76,144,145,173] [32] [18] Tryz.func8 rfl ?_
 obtain⟨ev29,he30,hm⟩:=b9 hm
 refine M2.ofZ pok ⟨[(0, .agg (a6.c x)),(1000001,DI owner),(1000002,DI no),(1000003,DI moment),(1000008, .own 1 0)], [(1, .blk [DI 0,DI 0,nS,nS,nS,nS,nS,DI 0,nS,nS,nS,nS,nS] 38)],2⟩ (match ev29 with| .inl x8=>(⟨[(1,DI owner),(2,DI no),(3,DI moment),(8, .own 1 0),(17, .tup [.v (.pointer none),DI x8])], [(1, .blk [DI 0,DI 0,nS,nS,nS,nS,nS,DI 0,nS,nS,nS,nS,nS] 38)],2⟩:Sy)| .inr (v9,v10,v11,v12,v13,v14,v15,v16,v17,v18,x19,x20,x21)=>(⟨[(1,DI owner),(2,DI no),(3,DI moment),(8, .own 1 0),(17, .tup [.own 13 0,DI 0])], [(1, .blk [DI 0,DI 0,nS,nS,nS,nS,nS,DI 0,nS,nS,nS,nS,nS] 38),(3,rE 4 v9 a8.c 87),(4,rE 6 v10 c0.c 67),(5,rE 4 v11 a7.c 89),(6,rE 5 v12 b8.c 73),(7,rE 6 v13 b6.c 78),(8,rE 4 v14 a8.c 87),(9,rE 6 v15 c0.c 67),(10,rE 4 v16 a7.c 89),(11,rE 5 v17 b8.c 73),(12,rE 6 v18 b6.c 78),(13, .blk [DI x19,DI x20, .row 3 4, .row 4 6, .row 5 4, .row 6 5, .row 7 6,DI x21, .row 8 4, .row 9 6, .row 10 4, .row 11 5, .row 12 6] 65)],14⟩:Sy):Sy) b8F [51,76,144,145,173] [32] [18] Tryz.func18 rfl rfl rfl (sb 2) (fun sv=> ?_) ?_
 have hm:=he30
 refine cy hm (P1 x) fun x63 hm=> ?_
 apply vb hm<;>intro _ hm
 cases hm
 exact sb 2
 refine⟨rfl, ?_⟩
 obtain⟨x66,hx67,hm⟩:=b9 hm
 refine .inr (a4O.mk ⟨_,_,L1 x.Now _ hx67, ?_⟩)
 obtain⟨x68,hx69,hm⟩:=b9 hm
 refine .inr (a4O.mk ⟨_,_,L1 x.Safe _ hx69, ?_⟩)
 cases hm
 exact sb 14
 rcases ev29 with x8|⟨v9,v10,v11,v12,v13,v14,v15,v16,v17,v18,x19,x20,x21⟩
 apply vb hm<;>intro _ hm
 cases hm
 exact c9j (le1)
 refine cy hm (A2 owner) fun x32 hm=> ?_
 apply vb hm<;>intro _ hm
 cases hm
 exact c9j (le1)
 refine cy hm (l8 moment) fun x35 hm=> ?_
 apply vb hm<;>intro _ hm
 cases hm
 exact c9j (le1)
 cases hm
 refine cy hm (A2 owner) fun x38 hm=> ?_
 apply vb hm<;>intro _ hm
 cases hm
 exact c9j (le1)
 refine cy hm (l8 moment) fun x41 hm=> ?_
 apply vb hm<;>intro _ hm
 cases hm
 exact c9j (le1)
 refine co hm (L2 v13 ((⟨owner,no,0,0,0,false⟩:b6))) ?_
 rintro⟨x44,x45⟩ hm
 apply vb hm<;>intro _ hm
 cases hm
 exact c9j (le1)
 refine eb hm fun _ hm=> ?_
 refine er hm fun _ hm=> ?_
 apply vb hm<;>intro _ hm
 cases hm
 exact c9j (le1)
 refine eb hm fun _ hm=> ?_
 refine⟨rfl, ?_⟩
 refine er hm fun e55 hm=> ?_
 refine er hm fun e57 hm=> ?_
 obtain⟨e59,hx60,hm⟩:=b9 hm
 refine⟨_,a1M (fun _=>rfl) hx60,_,Q6 (y:=(⟨e59.Owner,e59.No,e59.Thing,e59.From,(if(if e57.From>moment then e57.From else moment)<e55.Until then(if e57.From>moment then e57.From else moment)else e55.Until),e59.Back⟩:b6)) (fun _=>rfl) hx60, ?_⟩
 obtain⟨e61,hx62,hm⟩:=b9 hm
 refine⟨_,a6G (fun _=>rfl) hx62 (by first|rfl|simp only [List.length_set]),_,Q6 (y:=(⟨e61.Owner,e61.No,e61.Thing,e61.From,e61.Until,true⟩:b6)) (fun _=>rfl) hx62, ?_⟩
 cases hm
 exact c9j (by first|exact c9h _|(simp only [a6.c,lD,List.length_set];exact c9h _))
def a5J (c:b5):Option (b5×Bool):=
 if(c.Kind==1)=true then
  if(c.Kind==2)=true then
   if(c.Kind !=1)=true then
    some ((⟨c.Kind,c.From,c.To,c.Night,c.Ballot,c.Best,c.Value,0,0,0,0⟩:b5),true)
   else
    some ((⟨c.Kind,c.From,c.To,c.Night,c.Ballot,c.Best,0,0,0,0,0⟩:b5),true)
  else
   if(c.Kind !=1)=true then
    some ((⟨c.Kind,c.From,c.To,c.Night,c.Ballot,0,c.Value,0,0,0,0⟩:b5),true)
   else
    some ((⟨c.Kind,c.From,c.To,c.Night,c.Ballot,0,0,0,0,0,0⟩:b5),true)
 else
  if(c.Kind==2)=true then
   if(c.Kind !=1)=true then
    some ((⟨c.Kind,c.From,c.To,c.Night,c.Ballot,c.Best,c.Value,0,0,0,0⟩:b5),true)
   else
    some ((⟨c.Kind,c.From,c.To,c.Night,c.Ballot,c.Best,0,0,0,0,0⟩:b5),true)
  else
   if(c.Kind==3)=true then
    if(c.Kind !=1)=true then
     some ((⟨c.Kind,c.From,c.To,c.Night,c.Ballot,0,c.Value,0,0,0,0⟩:b5),true)
    else
     some ((⟨c.Kind,c.From,c.To,c.Night,c.Ballot,0,0,0,0,0,0⟩:b5),true)
   else
    if(c.Kind==4)=true then
     if(c.Kind !=1)=true then
      some ((⟨c.Kind,c.From,c.To,c.Night,c.Ballot,0,c.Value,0,0,0,0⟩:b5),true)
     else
      some ((⟨c.Kind,c.From,c.To,c.Night,c.Ballot,0,0,0,0,0,0⟩:b5),true)
    else
     if(c.Kind==5)=true then
      some ((⟨c.Kind,c.From,c.To,0,0,0,0,c.No,c.Thing,c.Start,c.Until⟩:b5),true)
     else
      if(c.Kind==6)=true then
       some ((⟨c.Kind,c.From,c.To,0,0,0,0,c.No,c.Thing,0,c.Until⟩:b5),true)
      else
       some ((⟨c.Kind,c.From,c.To,0,0,0,0,0,0,0,0⟩:b5),false)
theorem b4e (c:b5) (r:(b5×Bool)) (hm:a5J c=some r):d7 Tryz.prog 58 [.agg (b5.c c)] (fun x=>x= .tup [.agg (b5.c r.1),DB r.2]):=by
 refine zy c8l [] [] [] Tryz.func58 rfl ?_
 apply vb hm<;>intro h1 hm
 refine VIf.t h1 ?_
 refine⟨rfl, ?_⟩
 apply vb hm<;>intro _ hm
 apply vb hm<;>intro _ hm
 cases hm
 exact c9j (c9h _)
 cases hm
 exact c9j (c9h _)
 apply vb hm<;>intro _ hm
 cases hm
 exact c9j (c9h _)
 cases hm
 exact c9j (c9h _)
 apply vb hm<;>intro h5 hm
 refine VIf.t h5 ?_
 refine⟨rfl, ?_⟩
 refine VIf.t h5 ?_
 apply vb hm<;>intro _ hm
 cases hm
 exact c9j (c9h _)
 cases hm
 exact c9j (c9h _)
 apply vb hm<;>intro h7 hm
 refine VIf.t h7 ?_
 refine⟨rfl, ?_⟩
 refine VIf.f h5 ?_
 apply vb hm<;>intro _ hm
 cases hm
 exact c9j (c9h _)
 cases hm
 exact c9j (c9h _)
 apply vb hm<;>intro _ hm
 refine⟨rfl, ?_⟩
 refine VIf.f h5 ?_
 apply vb hm<;>intro _ hm
 cases hm
 exact c9j (c9h _)
 cases hm
 exact c9j (c9h _)
 apply vb hm<;>intro _ hm
 refine⟨rfl, ?_⟩
 cases hm
 exact c9j (c9h _)
 apply vb hm<;>intro _ hm
 refine⟨rfl, ?_⟩
 cases hm
 exact c9j (c9h _)
 cases hm
 exact c9j (c9h _)
def a0p (c:b5):Option Bool:=
 Option.bind (a5J c) fun⟨x1,x2⟩=>
 if(!x2)=true then
  some false
 else
  if(!((c.Kind==x1.Kind)&&((c.From==x1.From)&&((c.To==x1.To)&&((c.Night==x1.Night)&&((c.Ballot==x1.Ballot)&&((c.Best==x1.Best)&&((c.Value==x1.Value)&&((c.No==x1.No)&&((c.Thing==x1.Thing)&&((c.Start==x1.Start)&&(c.Until==x1.Until))))))))))))=true then
   some false
  else
   Option.bind (u7 c.From) fun x6=>
   if(!x6)=true then
    some false
   else
    Option.bind (u7 c.To) fun x9=>
    if(!x9)=true then
     some false
    else
     if(c.From !=c.To)=true then
      Option.bind (i5 c.No 1 40) fun x13=>
      if x13=true then
       Option.bind (A1 c.Thing) fun x16=>
       Option.bind (u6 c.Night) fun x18=>
       if x18=true then
        Option.bind (A5 c.Ballot) fun x21=>
        if(c.Kind==1)=true then
         if x21=true then
          Option.bind (d8 c.Ballot) fun x25=>
          some (x25==c.From)
         else
          some false
        else
         if(c.Kind==2)=true then
          if x21=true then
           Option.bind (d8 c.Ballot) fun x29=>
           if(x29==c.To)=true then
            if(c.Best==0)=true then
             if(c.Value==0)=true then
              some true
             else
              Option.bind (i5 c.Best 6 (W (c.Ballot-1))) fun x34=>
              if x34=true then
               Option.bind (j0 c.Value) fun x37=>
               some x37
              else
               some false
            else
             Option.bind (i5 c.Best 6 (W (c.Ballot-1))) fun x39=>
             if x39=true then
              Option.bind (j0 c.Value) fun x42=>
              some x42
             else
              some false
           else
            some false
          else
           some false
         else
          if(c.Kind==3)=true then
           if x21=true then
            Option.bind (d8 c.Ballot) fun x46=>
            if(x46==c.From)=true then
             Option.bind (j0 c.Value) fun x49=>
             some x49
            else
             some false
           else
            some false
          else
           if(c.Kind==4)=true then
            if x21=true then
             Option.bind (j0 c.Value) fun x53=>
             some x53
            else
             some false
           else
            if(c.Kind==5)=true then
             if x16=true then
              Option.bind (d8 c.Thing) fun x57=>
              if(x57==c.From)=true then
               Option.bind (U3 c.Start c.Until) fun x60=>
               some x60
              else
               some false
             else
              some false
            else
             if x16=true then
              Option.bind (d8 c.Thing) fun x63=>
              if(x63==c.To)=true then
               Option.bind (d9 c.Until) fun x66=>
               some x66
              else
               some false
             else
              some false
       else
        if(c.Kind==1)=true then
         some false
        else
         if(c.Kind==2)=true then
          some false
         else
          if(c.Kind==3)=true then
           some false
          else
           if(c.Kind==4)=true then
            some false
           else
            if(c.Kind==5)=true then
             if x16=true then
              Option.bind (d8 c.Thing) fun x74=>
              if(x74==c.From)=true then
               Option.bind (U3 c.Start c.Until) fun x77=>
               some x77
              else
               some false
             else
              some false
            else
             if x16=true then
              Option.bind (d8 c.Thing) fun x80=>
              if(x80==c.To)=true then
               Option.bind (d9 c.Until) fun x83=>
               some x83
              else
               some false
             else
              some false
      else
       Option.bind (u6 c.Night) fun x85=>
       if x85=true then
        Option.bind (A5 c.Ballot) fun x88=>
        if(c.Kind==1)=true then
         if x88=true then
          Option.bind (d8 c.Ballot) fun x92=>
          some (x92==c.From)
         else
          some false
        else
         if(c.Kind==2)=true then
          if x88=true then
           Option.bind (d8 c.Ballot) fun x96=>
           if(x96==c.To)=true then
            if(c.Best==0)=true then
             if(c.Value==0)=true then
              some true
             else
              Option.bind (i5 c.Best 6 (W (c.Ballot-1))) fun x101=>
              if x101=true then
               Option.bind (j0 c.Value) fun x104=>
               some x104
              else
               some false
            else
             Option.bind (i5 c.Best 6 (W (c.Ballot-1))) fun x106=>
             if x106=true then
              Option.bind (j0 c.Value) fun x109=>
              some x109
             else
              some false
           else
            some false
          else
           some false
         else
          if(c.Kind==3)=true then
           if x88=true then
            Option.bind (d8 c.Ballot) fun x113=>
            if(x113==c.From)=true then
             Option.bind (j0 c.Value) fun x116=>
             some x116
            else
             some false
           else
            some false
          else
           if(c.Kind==4)=true then
            if x88=true then
             Option.bind (j0 c.Value) fun x120=>
             some x120
            else
             some false
           else
            if(c.Kind==5)=true then
             some false
            else
             some false
       else
        if(c.Kind==1)=true then
         some false
        else
         if(c.Kind==2)=true then
          some false
         else
          if(c.Kind==3)=true then
           some false
          else
           if(c.Kind==4)=true then
            some false
           else
            if(c.Kind==5)=true then
             some false
            else
             some false
     else
      Option.bind (u6 c.Night) fun x128=>
      if x128=true then
       Option.bind (A5 c.Ballot) fun x131=>
       if(c.Kind==1)=true then
        if x131=true then
         Option.bind (d8 c.Ballot) fun x135=>
         some (x135==c.From)
        else
         some false
       else
        if(c.Kind==2)=true then
         if x131=true then
          Option.bind (d8 c.Ballot) fun x139=>
          if(x139==c.To)=true then
           if(c.Best==0)=true then
            if(c.Value==0)=true then
             some true
            else
             Option.bind (i5 c.Best 6 (W (c.Ballot-1))) fun x144=>
             if x144=true then
              Option.bind (j0 c.Value) fun x147=>
              some x147
             else
              some false
           else
            Option.bind (i5 c.Best 6 (W (c.Ballot-1))) fun x149=>
            if x149=true then
             Option.bind (j0 c.Value) fun x152=>
             some x152
            else
             some false
          else
           some false
         else
          some false
        else
         if(c.Kind==3)=true then
          if x131=true then
           Option.bind (d8 c.Ballot) fun x156=>
           if(x156==c.From)=true then
            Option.bind (j0 c.Value) fun x159=>
            some x159
           else
            some false
          else
           some false
         else
          if(c.Kind==4)=true then
           if x131=true then
            Option.bind (j0 c.Value) fun x163=>
            some x163
           else
            some false
          else
           if(c.Kind==5)=true then
            some false
           else
            some false
      else
       if(c.Kind==1)=true then
        some false
       else
        if(c.Kind==2)=true then
         some false
        else
         if(c.Kind==3)=true then
          some false
         else
          if(c.Kind==4)=true then
           some false
          else
           if(c.Kind==5)=true then
            some false
           else
            some false
theorem a7e (c:b5) (r:Bool) (hm:a0p c=some r):d7 Tryz.prog 30 [.agg (b5.c c)] (fun x=>x=DB r):=by
 refine zy c7V [] [] [] Tryz.func30 rfl ?_
 refine cy hm (b4e c) ?_
 rintro⟨x1,x2⟩ hm
 apply vb hm<;>intro _ hm
 exact hm.rr
 apply vb hm<;>intro _ hm
 exact hm.rr
 refine cy hm (A2 c.From) fun x6 hm=> ?_
 apply vb hm<;>intro _ hm
 exact hm.rr
 refine cy hm (A2 c.To) fun x9 hm=> ?_
 apply vb hm<;>intro _ hm
 exact hm.rr
 apply vb hm<;>intro _ hm
 refine cy hm (k9 c.No 1 40) fun x13 hm=> ?_
 apply vb hm<;>intro _ hm
 refine cy hm (J3 c.Thing) fun x16 hm=> ?_
 refine cy hm (A3 c.Night) fun x18 hm=> ?_
 apply vb hm<;>intro _ hm
 refine cy hm (H4 c.Ballot) fun x21 hm=> ?_
 apply vb hm<;>intro _ hm
 refine⟨rfl, ?_⟩
 apply vb hm<;>intro _ hm
 refine cy hm (j2 c.Ballot) fun x25 hm=> ?_
 exact hm.rr
 exact hm.rr
 apply vb hm<;>intro _ hm
 refine⟨rfl, ?_⟩
 apply vb hm<;>intro _ hm
 refine cy hm (j2 c.Ballot) fun x29 hm=> ?_
 apply vb hm<;>intro _ hm
 apply vb hm<;>intro _ hm
 apply vb hm<;>intro _ hm
 exact hm.rr
 refine cy hm (k9 c.Best 6 (W (c.Ballot-1))) fun x34 hm=> ?_
 apply vb hm<;>intro _ hm
 refine cy hm (n6 c.Value) fun x37 hm=> ?_
 exact hm.rr
 exact hm.rr
 refine cy hm (k9 c.Best 6 (W (c.Ballot-1))) fun x39 hm=> ?_
 apply vb hm<;>intro _ hm
 refine cy hm (n6 c.Value) fun x42 hm=> ?_
 exact hm.rr
 exact hm.rr
 exact hm.rr
 exact hm.rr
 apply vb hm<;>intro _ hm
 refine⟨rfl, ?_⟩
 apply vb hm<;>intro _ hm
 refine cy hm (j2 c.Ballot) fun x46 hm=> ?_
 apply vb hm<;>intro _ hm
 refine cy hm (n6 c.Value) fun x49 hm=> ?_
 exact hm.rr
 exact hm.rr
 exact hm.rr
 apply vb hm<;>intro _ hm
 apply vb hm<;>intro _ hm
 refine cy hm (n6 c.Value) fun x53 hm=> ?_
 exact hm.rr
 exact hm.rr
 apply vb hm<;>intro _ hm
 refine⟨rfl, ?_⟩
 apply vb hm<;>intro _ hm
 refine cy hm (j2 c.Thing) fun x57 hm=> ?_
 apply vb hm<;>intro _ hm
 refine cy hm (a1K c.Start c.Until) fun x60 hm=> ?_
 exact hm.rr
 exact hm.rr
 exact hm.rr
 refine⟨rfl, ?_⟩
 apply vb hm<;>intro _ hm
 refine cy hm (j2 c.Thing) fun x63 hm=> ?_
 apply vb hm<;>intro _ hm
 refine cy hm (l8 c.Until) fun x66 hm=> ?_
 exact hm.rr
 exact hm.rr
 exact hm.rr
 apply vb hm<;>intro _ hm
 refine⟨rfl, ?_⟩
 exact hm.rr
 apply vb hm<;>intro _ hm
 refine⟨rfl, ?_⟩
 exact hm.rr
 apply vb hm<;>intro _ hm
 refine⟨rfl, ?_⟩
 exact hm.rr
 apply vb hm<;>intro _ hm
 exact hm.rr
 apply vb hm<;>intro _ hm
 refine⟨rfl, ?_⟩
 apply vb hm<;>intro _ hm
 refine cy hm (j2 c.Thing) fun x74 hm=> ?_
 apply vb hm<;>intro _ hm
 refine cy hm (a1K c.Start c.Until) fun x77 hm=> ?_
 exact hm.rr
 exact hm.rr
 exact hm.rr
 refine⟨rfl, ?_⟩
 apply vb hm<;>intro _ hm
 refine cy hm (j2 c.Thing) fun x80 hm=> ?_
 apply vb hm<;>intro _ hm
 refine cy hm (l8 c.Until) fun x83 hm=> ?_
 exact hm.rr
 exact hm.rr
 exact hm.rr
 refine cy hm (A3 c.Night) fun x85 hm=> ?_
 apply vb hm<;>intro _ hm
 refine cy hm (H4 c.Ballot) fun x88 hm=> ?_
 apply vb hm<;>intro _ hm
 refine⟨rfl, ?_⟩
 apply vb hm<;>intro _ hm
 refine cy hm (j2 c.Ballot) fun x92 hm=> ?_
 exact hm.rr
 exact hm.rr
 apply vb hm<;>intro _ hm
 refine⟨rfl, ?_⟩
 apply vb hm<;>intro _ hm
 refine cy hm (j2 c.Ballot) fun x96 hm=> ?_
 apply vb hm<;>intro _ hm
 apply vb hm<;>intro _ hm
 apply vb hm<;>intro _ hm
 exact hm.rr
 refine cy hm (k9 c.Best 6 (W (c.Ballot-1))) fun x101 hm=> ?_
 apply vb hm<;>intro _ hm
 refine cy hm (n6 c.Value) fun x104 hm=> ?_
 exact hm.rr
 exact hm.rr
 refine cy hm (k9 c.Best 6 (W (c.Ballot-1))) fun x106 hm=> ?_
 apply vb hm<;>intro _ hm
 refine cy hm (n6 c.Value) fun x109 hm=> ?_
 exact hm.rr
 exact hm.rr
 exact hm.rr
 exact hm.rr
 apply vb hm<;>intro _ hm
 refine⟨rfl, ?_⟩
 apply vb hm<;>intro _ hm
 refine cy hm (j2 c.Ballot) fun x113 hm=> ?_
 apply vb hm<;>intro _ hm
 refine cy hm (n6 c.Value) fun x116 hm=> ?_
 exact hm.rr
 exact hm.rr
 exact hm.rr
 apply vb hm<;>intro _ hm
 apply vb hm<;>intro _ hm
 refine cy hm (n6 c.Value) fun x120 hm=> ?_
 exact hm.rr
 exact hm.rr
 apply vb hm<;>intro _ hm
 refine⟨rfl, ?_⟩
 exact hm.rr
 refine⟨rfl, ?_⟩
 exact hm.rr
 apply vb hm<;>intro _ hm
 refine⟨rfl, ?_⟩
 exact hm.rr
 apply vb hm<;>intro _ hm
 refine⟨rfl, ?_⟩
 exact hm.rr
 apply vb hm<;>intro _ hm
 refine⟨rfl, ?_⟩
 exact hm.rr
 apply vb hm<;>intro _ hm
 exact hm.rr
 apply vb hm<;>intro _ hm
 refine⟨rfl, ?_⟩
 exact hm.rr
 refine⟨rfl, ?_⟩
 exact hm.rr
 refine cy hm (A3 c.Night) fun x128 hm=> ?_
 apply vb hm<;>intro _ hm
 refine cy hm (H4 c.Ballot) fun x131 hm=> ?_
 apply vb hm<;>intro _ hm
 refine⟨rfl, ?_⟩
 apply vb hm<;>intro _ hm
 refine cy hm (j2 c.Ballot) fun x135 hm=> ?_
 exact hm.rr
 exact hm.rr
 apply vb hm<;>intro _ hm
 refine⟨rfl, ?_⟩
 apply vb hm<;>intro _ hm
 refine cy hm (j2 c.Ballot) fun x139 hm=> ?_
 apply vb hm<;>intro _ hm
 apply vb hm<;>intro _ hm
 apply vb hm<;>intro _ hm
 exact hm.rr
 refine cy hm (k9 c.Best 6 (W (c.Ballot-1))) fun x144 hm=> ?_
 apply vb hm<;>intro _ hm
 refine cy hm (n6 c.Value) fun x147 hm=> ?_
 exact hm.rr
 exact hm.rr
 refine cy hm (k9 c.Best 6 (W (c.Ballot-1))) fun x149 hm=> ?_
 apply vb hm<;>intro _ hm
 refine cy hm (n6 c.Value) fun x152 hm=> ?_
 exact hm.rr
 exact hm.rr
 exact hm.rr
 exact hm.rr
 apply vb hm<;>intro _ hm
 refine⟨rfl, ?_⟩
 apply vb hm<;>intro _ hm
 refine cy hm (j2 c.Ballot) fun x156 hm=> ?_
 apply vb hm<;>intro _ hm
 refine cy hm (n6 c.Value) fun x159 hm=> ?_
 exact hm.rr
 exact hm.rr
 exact hm.rr
 apply vb hm<;>intro _ hm
 apply vb hm<;>intro _ hm
 refine cy hm (n6 c.Value) fun x163 hm=> ?_
 exact hm.rr
 exact hm.rr
 apply vb hm<;>intro _ hm
 refine⟨rfl, ?_⟩
 exact hm.rr
 refine⟨rfl, ?_⟩
 exact hm.rr
 apply vb hm<;>intro _ hm
 refine⟨rfl, ?_⟩
 exact hm.rr
 apply vb hm<;>intro _ hm
 refine⟨rfl, ?_⟩
 exact hm.rr
 apply vb hm<;>intro _ hm
 refine⟨rfl, ?_⟩
 exact hm.rr
 apply vb hm<;>intro _ hm
 exact hm.rr
 apply vb hm<;>intro _ hm
 refine⟨rfl, ?_⟩
 exact hm.rr
 refine⟨rfl, ?_⟩
 exact hm.rr
def L8 (s:(List a8)) (i:Int) (v:(List a8)):Option (List a8):=
 gd (0≤i∧i.toNat≤s.length)<|
 if((v.length:Int)==0)=true then
  some s
 else
  if(i==(s.length:Int))=true then
   gd ((s.length+v.length)*32≤140737488355328∧s.length+v.length≤9223372036854775807)<|
   some (s++v)
  else
   gd (0≤i∧i.toNat<s.length∧0<v.length∧(s.length+v.length)*32≤140737488355328∧s.length+v.length≤9223372036854775807) (some (s.take i.toNat++v++s.drop i.toNat))
theorem S9 (s:(List a8)) (i:Int) (v:(List a8)) (r:(List a8)) (hm:L8 s i v=some r):b3u Tryz.prog 173 4 s.length (s.flatMap a8.c) 87 [DI i,lD 4 v a8.c] 4 r.length (r.flatMap a8.c):=by
 obtain⟨hg0,hm⟩:=c7 hm
 refine a8j (X:=⟨Tryz.prog,tt,Tryz.f173.ntmps, [], [], [], [], [], []⟩) (t:=30) (tI:=3) (tB:=4) (ov:=191) (ty:=87) (args:= [lD 4 v a8.c]) pok Tryz.func173 rfl rfl .mk .mk (Nat.le_of_ble_eq_true rfl) hg0 rfl rfl rfl rfl rfl rfl (by kernel_rfl) ⟨⟨_,4,Tryz.func191,by kernel_rfl,by kernel_rfl,by kernel_rfl,by kernel_rfl⟩⟩ (by decide) ?_
 apply vb hm<;>intro _ hm
 cases hm
 exact⟨rfl,rfl⟩
 apply vb hm<;>intro _ hm
 obtain⟨hg,hm⟩:=c7 hm
 refine⟨hg,_,_,c8 (c:=a8.c) (l:=(s:List a8)) (r:=(v:List a8)), ?_⟩
 cases hm
 exact⟨rfl,rfl⟩
 obtain⟨hg,hm⟩:=c7 hm
 cases hm
 exact b9P (fun _=>rfl) hg
def u1 (x:(List a8)) (target:a8):(Int×Int)→Option (Sum (Int×Int) (Int×Int)):=fun(i7,j8)=>
 if(decide (i7<j8))=true then
  Option.bind (idx x (W ((IntKind.u64.wrap (W (i7+j8))).fdiv (2^(min (1:Int).toNat IntKind.u64.bits))))) fun e16=>
  Option.bind (G5 e16 target) fun x18=>
  if(decide (x18<0))=true then
   some (.inl ((W ((W ((IntKind.u64.wrap (W (i7+j8))).fdiv (2^(min (1:Int).toNat IntKind.u64.bits))))+1)),j8))
  else
   some (.inl (i7,(W ((IntKind.u64.wrap (W (i7+j8))).fdiv (2^(min (1:Int).toNat IntKind.u64.bits))))))
 else
  some (.inr (i7,j8))
def j6 (x:(List a8)) (target:a8):Option (Int×Bool):=
 Option.bind (j4 (u1 x target) (0,(x.length:Int))) fun(i21,j22)=>
 if(decide (i21<(x.length:Int)))=true then
  Option.bind (idx x i21) fun e24=>
  Option.bind (G5 e24 target) fun x26=>
  some (i21,(x26==0))
 else
  some (i21,false)
theorem J2 (x:(List a8)) (target:a8) (r:(Int×Bool)) (hm:j6 x target=some r):d7 Tryz.prog 190 [lD 4 x a8.c, .agg (a8.c target), .fn 116 [] []] (fun x=>x= .tup [DI r.1,DB r.2]):=by
 refine zy c6R [] [] [] Tryz.func190 rfl ?_
 obtain⟨ev28,he,hk29⟩:=b9 hm
 refine c9k (u1 x target) (fun(i7,j8)=>⟨[(0,lD 4 x a8.c),(2, .fn 116 [] []),(4, .own 0 0),(8,DI (x.length:Int)),(9,DI i7),(10,DI j8)], [(0, .blk (a8.c target) 87)],1⟩) (0,(x.length:Int)) (sb 1) he ?_
 rintro fu30 ⟨i7,j8⟩ b hm hi31
 apply vb hm<;>intro _ hm
 refine⟨by decide, ?_⟩
 refine⟨rfl, ?_⟩
 refine ei hm fun e33 hm=> ?_
 refine cy hm (a0E e33 target) fun x35 hm=> ?_
 apply vb hm<;>intro _ hm
 cases hm
 exact⟨(_,((W ((W ((IntKind.u64.wrap (W (i7+j8))).fdiv (2^(min (1:Int).toNat IntKind.u64.bits))))+1)),j8)),sb 1,hi31,Nat.lt_succ_self _⟩
 cases hm
 exact⟨(_,(i7,(W ((IntKind.u64.wrap (W (i7+j8))).fdiv (2^(min (1:Int).toNat IntKind.u64.bits)))))),sb 1,hi31,Nat.lt_succ_self _⟩
 cases hm
 cases hi31
 have hm:=hk29
 refine⟨rfl, ?_⟩
 apply vb hm<;>intro _ hm
 refine ei hm fun e39 hm=> ?_
 refine cy hm (a0E e39 target) fun x41 hm=> ?_
 cases hm
 exact c9j (c9h _)
 cases hm
 exact c9j (c9h _)
def u9 (l:(List a8)) (x:a8):Option (Int×Bool):=
 Option.bind (j6 l x) fun⟨x1,x2⟩=>
 some (x1,x2)
theorem L3 (l:(List a8)) (x:a8) (r:(Int×Bool)) (hm:u9 l x=some r):d7 Tryz.prog 172 [lD 4 l a8.c, .agg (a8.c x), .fn 116 [] []] (fun x=>x= .tup [DI r.1,DB r.2]):=by
 refine zn Tryz.func172 rfl ?_
 refine cy hm (J2 l x) ?_
 rintro⟨x1,x2⟩ hm
 cases hm
 exact c9j (c9h _)
def V4 (m:Int) (depot:Int):Option Bool:=
 gd (0≤depot)<|
 some ((W ((BitVec.ofInt IntKind.i64.bits (m.fdiv (2^(min depot.toNat IntKind.i64.bits)))&&&BitVec.ofInt IntKind.i64.bits 1).toNat:Int))==1)
theorem b0n (m:Int) (depot:Int) (r:Bool) (hm:V4 m depot=some r):d7 Tryz.prog 98 [DI m,DI depot] (fun x=>x=DB r):=by
 refine zn Tryz.func98 rfl ?_
 obtain⟨hg,hm⟩:=c7 hm
 refine⟨hg, ?_⟩
 exact hm.rr
def N6 (m:Int) (depot:Int):Option Int:=
 gd (0≤depot)<|
 some (W ((BitVec.ofInt IntKind.i64.bits m|||BitVec.ofInt IntKind.i64.bits (W (1*(2^(min depot.toNat IntKind.i64.bits))))).toNat:Int))
theorem a4A (m:Int) (depot:Int) (r:Int) (hm:N6 m depot=some r):d7 Tryz.prog 99 [DI m,DI depot] (fun x=>x=DI r):=by
 refine zn Tryz.func99 rfl ?_
 obtain⟨hg,hm⟩:=c7 hm
 refine⟨hg, ?_⟩
 exact hm.rr
def Z6 (b_:c0) (c_0:b5):Option Bool:=
 if(b_.Night==c_0.Night)=true then
  some (b_.Ballot==c_0.Ballot)
 else
  some false
theorem a6b (b_:c0) (c_0:b5) (r:Bool) (hm:Z6 b_ c_0=some r):d7 Tryz.prog 97 [.agg (c0.c b_), .ptr (b5.c c_0) 0] (fun x=>x=DB r):=by
 refine zn Tryz.func97 rfl ?_
 apply vb hm<;>intro _ hm
 exact hm.rr
 exact hm.rr
def B3 (s:(List c0)) (c1_0:b5):Int→Option (Sum Int (Sum Int Int)):=fun v7=>
 if(decide (v7<(s.length:Int)))=true then
  Option.bind (idx s v7) fun e15=>
  Option.bind (Z6 e15 c1_0) fun x17=>
  if x17=true then
   some (.inr (.inr v7))
  else
   some (.inl (W (v7+1)))
 else
  some (.inr (.inl v7))
def u3 (s:(List c0)) (c1_0:b5):Option Int:=
 Option.bind (j4 (B3 s c1_0) 0) fun e=>
 match e with
 | .inl v20=>
  some (-1)
 | .inr rr21=>
  some rr21
theorem O2 (s:(List c0)) (c1_0:b5) (r:Int) (hm:u3 s c1_0=some r):d7 Tryz.prog 96 [lD 6 s c0.c, .fn 97 [] [.ptr (b5.c c1_0) 0]] (fun x=>x=DI r):=by
 refine zn Tryz.func96 rfl ?_
 obtain⟨ev22,he,hk23⟩:=b9 hm
 refine c9k (B3 s c1_0) (fun v7=>⟨[(0,lD 6 s c0.c),(1, .fn 97 [] [.ptr (b5.c c1_0) 0]),(7,DI (s.length:Int)),(8,DI v7)], [],0⟩) 0 (sb 0) he ?_
 rintro fu24 v7 b hm hi25
 apply vb hm<;>intro _ hm
 refine ei hm fun e27 hm=> ?_
 refine cy hm (a6b e27 c1_0) fun x29 hm=> ?_
 apply vb hm<;>intro _ hm
 cases hm
 cases hi25
 have hm:=hk23
 exact hm.rr
 cases hm
 exact⟨(_,(W (v7+1))),sb 0,hi25,Nat.lt_succ_self _⟩
 cases hm
 cases hi25
 have hm:=hk23
 exact hm.rr
def K5 (s:(List a7)) (i:Int) (v:(List a7)):Option (List a7):=
 gd (0≤i∧i.toNat≤s.length)<|
 if((v.length:Int)==0)=true then
  some s
 else
  if(i==(s.length:Int))=true then
   gd ((s.length+v.length)*32≤140737488355328∧s.length+v.length≤9223372036854775807)<|
   some (s++v)
  else
   gd (0≤i∧i.toNat<s.length∧0<v.length∧(s.length+v.length)*32≤140737488355328∧s.length+v.length≤9223372036854775807) (some (s.take i.toNat++v++s.drop i.toNat))
theorem a1q (s:(List a7)) (i:Int) (v:(List a7)) (r:(List a7)) (hm:K5 s i v=some r):b3u Tryz.prog 144 4 s.length (s.flatMap a7.c) 89 [DI i,lD 4 v a7.c] 4 r.length (r.flatMap a7.c):=by
 obtain⟨hg0,hm⟩:=c7 hm
 refine a8j (X:=⟨Tryz.prog,tt,Tryz.f144.ntmps, [], [], [], [], [], []⟩) (t:=32) (tI:=3) (tB:=4) (ov:=177) (ty:=89) (args:= [lD 4 v a7.c]) pok Tryz.func144 rfl rfl .mk .mk (Nat.le_of_ble_eq_true rfl) hg0 rfl rfl rfl rfl rfl rfl (by kernel_rfl) ⟨⟨_,4,Tryz.func177,by kernel_rfl,by kernel_rfl,by kernel_rfl,by kernel_rfl⟩⟩ (by decide) ?_
 apply vb hm<;>intro _ hm
 cases hm
 exact⟨rfl,rfl⟩
 apply vb hm<;>intro _ hm
 obtain⟨hg,hm⟩:=c7 hm
 refine⟨hg,_,_,c8 (c:=a7.c) (l:=(s:List a7)) (r:=(v:List a7)), ?_⟩
 cases hm
 exact⟨rfl,rfl⟩
 obtain⟨hg,hm⟩:=c7 hm
 cases hm
 exact b9P (fun _=>rfl) hg
def s8 (x:(List a7)) (target:a7):(Int×Int)→Option (Sum (Int×Int) (Int×Int)):=fun(i7,j8)=>
 if(decide (i7<j8))=true then
  Option.bind (idx x (W ((IntKind.u64.wrap (W (i7+j8))).fdiv (2^(min (1:Int).toNat IntKind.u64.bits))))) fun e16=>
  Option.bind (G8 e16 target) fun x18=>
  if(decide (x18<0))=true then
   some (.inl ((W ((W ((IntKind.u64.wrap (W (i7+j8))).fdiv (2^(min (1:Int).toNat IntKind.u64.bits))))+1)),j8))
  else
   some (.inl (i7,(W ((IntKind.u64.wrap (W (i7+j8))).fdiv (2^(min (1:Int).toNat IntKind.u64.bits))))))
 else
  some (.inr (i7,j8))
def i6 (x:(List a7)) (target:a7):Option (Int×Bool):=
 Option.bind (j4 (s8 x target) (0,(x.length:Int))) fun(i21,j22)=>
 if(decide (i21<(x.length:Int)))=true then
  Option.bind (idx x i21) fun e24=>
  Option.bind (G8 e24 target) fun x26=>
  some (i21,(x26==0))
 else
  some (i21,false)
theorem I1 (x:(List a7)) (target:a7) (r:(Int×Bool)) (hm:i6 x target=some r):d7 Tryz.prog 176 [lD 4 x a7.c, .agg (a7.c target), .fn 102 [] []] (fun x=>x= .tup [DI r.1,DB r.2]):=by
 refine zy c6r [] [] [] Tryz.func176 rfl ?_
 obtain⟨ev28,he,hk29⟩:=b9 hm
 refine c9k (s8 x target) (fun(i7,j8)=>⟨[(0,lD 4 x a7.c),(2, .fn 102 [] []),(4, .own 0 0),(8,DI (x.length:Int)),(9,DI i7),(10,DI j8)], [(0, .blk (a7.c target) 89)],1⟩) (0,(x.length:Int)) (sb 1) he ?_
 rintro fu30 ⟨i7,j8⟩ b hm hi31
 apply vb hm<;>intro _ hm
 refine⟨by decide, ?_⟩
 refine⟨rfl, ?_⟩
 refine ei hm fun e33 hm=> ?_
 refine cy hm (a0z e33 target) fun x35 hm=> ?_
 apply vb hm<;>intro _ hm
 cases hm
 exact⟨(_,((W ((W ((IntKind.u64.wrap (W (i7+j8))).fdiv (2^(min (1:Int).toNat IntKind.u64.bits))))+1)),j8)),sb 1,hi31,Nat.lt_succ_self _⟩
 cases hm
 exact⟨(_,(i7,(W ((IntKind.u64.wrap (W (i7+j8))).fdiv (2^(min (1:Int).toNat IntKind.u64.bits)))))),sb 1,hi31,Nat.lt_succ_self _⟩
 cases hm
 cases hi31
 have hm:=hk29
 refine⟨rfl, ?_⟩
 apply vb hm<;>intro _ hm
 refine ei hm fun e39 hm=> ?_
 refine cy hm (a0z e39 target) fun x41 hm=> ?_
 cases hm
 exact c9j (c9h _)
 cases hm
 exact c9j (c9h _)
def u5 (l:(List a7)) (x:a7):Option (Int×Bool):=
 Option.bind (i6 l x) fun⟨x1,x2⟩=>
 some (x1,x2)
theorem X5 (l:(List a7)) (x:a7) (r:(Int×Bool)) (hm:u5 l x=some r):d7 Tryz.prog 143 [lD 4 l a7.c, .agg (a7.c x), .fn 102 [] []] (fun x=>x= .tup [DI r.1,DB r.2]):=by
 refine zn Tryz.func143 rfl ?_
 refine cy hm (I1 l x) ?_
 rintro⟨x1,x2⟩ hm
 cases hm
 exact c9j (c9h _)
def L7 (s:(List b6)) (i:Int) (v:(List b6)):Option (List b6):=
 gd (0≤i∧i.toNat≤s.length)<|
 if((v.length:Int)==0)=true then
  some s
 else
  if(i==(s.length:Int))=true then
   gd ((s.length+v.length)*48≤140737488355328∧s.length+v.length≤9223372036854775807)<|
   some (s++v)
  else
   gd (0≤i∧i.toNat<s.length∧0<v.length∧(s.length+v.length)*48≤140737488355328∧s.length+v.length≤9223372036854775807) (some (s.take i.toNat++v++s.drop i.toNat))
theorem a2y (s:(List b6)) (i:Int) (v:(List b6)) (r:(List b6)) (hm:L7 s i v=some r):b3u Tryz.prog 145 6 s.length (s.flatMap b6.c) 78 [DI i,lD 6 v b6.c] 6 r.length (r.flatMap b6.c):=by
 obtain⟨hg0,hm⟩:=c7 hm
 refine a8j (X:=⟨Tryz.prog,tt,Tryz.f145.ntmps, [], [], [], [], [], []⟩) (t:=34) (tI:=3) (tB:=4) (ov:=179) (ty:=78) (args:= [lD 6 v b6.c]) pok Tryz.func145 rfl rfl .mk .mk (Nat.le_of_ble_eq_true rfl) hg0 rfl rfl rfl rfl rfl rfl (by kernel_rfl) ⟨⟨_,4,Tryz.func179,by kernel_rfl,by kernel_rfl,by kernel_rfl,by kernel_rfl⟩⟩ (by decide) ?_
 apply vb hm<;>intro _ hm
 cases hm
 exact⟨rfl,rfl⟩
 apply vb hm<;>intro _ hm
 obtain⟨hg,hm⟩:=c7 hm
 refine⟨hg,_,_,c8 (c:=b6.c) (l:=(s:List b6)) (r:=(v:List b6)), ?_⟩
 cases hm
 exact⟨rfl,rfl⟩
 obtain⟨hg,hm⟩:=c7 hm
 cases hm
 exact b9P (fun _=>rfl) hg
theorem b4c:d7 Tryz.prog 31 [] (fun x=>x= .mp [(1,61),(2,62),(3,63),(4,64),(5,65),(6,66)]):=
 c3D (t:=83) (kt:=3) (et:=82) Tryz.func31 rfl (.mk (.cons (.cons (.cons (.cons (.cons (.cons .nil))))))) (by decide) rfl rfl (by kernel_rfl) (by kernel_rfl)
def a1y (c:b5) (v9:(List a8)):Option (Sum ((List a8)×Int) Unit):=
 Option.bind (u9 v9 (⟨c.Night,0,0,0⟩:a8)) fun⟨x122,x123⟩=>
 if x123=true then
  some (.inl (v9,x122))
 else
  if((v9.length:Int)==12)=true then
   some (.inr ())
  else
   Option.bind (L8 v9 x122 ([(⟨c.Night,0,0,0⟩:a8)]:List a8)) fun x127=>
   some (.inl (x127,x122))
def S6 (c:b5) (v9:(List a8)):Option (Sum ((List a8)×Int) Unit):=
 Option.bind (a1y c v9) fun e=>
 match e with
 | .inl (v120,x121)=>
  Option.bind (idx v120 x121) fun e131=>
  some (.inl (v120,x121))
 | .inr _=>
  some (.inr ())
def X4 (c:b5) (v9:(List a8)):Option ((List a8)×Bool):=
 Option.bind (S6 c v9) fun e=>
 match e with
 | .inl (v111,x112)=>
  Option.bind (idx v111 x112) fun e142=>
  if(decide (c.Ballot>e142.Promised))=true then
   Option.bind (idx v111 x112) fun e145=>
   some ((v111.set x112.toNat (⟨e145.Night,c.Ballot,e145.Ballot,e145.Value⟩:a8)),true)
  else
   some (v111,true)
 | .inr _=>
  some (v9,false)
def V7 (c:b5) (v10:(List c0)):Option (List c0):=
 Option.bind (u3 v10 c) fun x292=>
 if(decide (x292<0))=true then
  some v10
 else
  Option.bind (idx v10 x292) fun e295=>
  Option.bind (idx v10 x292) fun e297=>
  if e297.Asked=true then
   some v10
  else
   Option.bind (idx v10 x292) fun e300=>
   Option.bind (V4 e300.Mask c.From) fun x302=>
   if x302=true then
    some v10
   else
    Option.bind (idx v10 x292) fun e305=>
    Option.bind (N6 e305.Mask c.From) fun x307=>
    Option.bind (O6 x307) fun x309=>
    Option.bind (idx v10 x292) fun e311=>
    Option.bind (idx (v10.set x292.toNat (⟨e311.Night,e311.Ballot,e311.Value,e311.Best,x307,e311.Asked⟩:c0)) x292) fun e313=>
    Option.bind (idx ((v10.set x292.toNat (⟨e311.Night,e311.Ballot,e311.Value,e311.Best,x307,e311.Asked⟩:c0)).set x292.toNat (⟨e313.Night,e313.Ballot,e313.Value,e313.Best,e313.Mask,x309⟩:c0)) x292) fun e315=>
    if(decide (c.Best>e315.Best))=true then
     Option.bind (idx ((v10.set x292.toNat (⟨e311.Night,e311.Ballot,e311.Value,e311.Best,x307,e311.Asked⟩:c0)).set x292.toNat (⟨e313.Night,e313.Ballot,e313.Value,e313.Best,e313.Mask,x309⟩:c0)) x292) fun e318=>
     Option.bind (idx (((v10.set x292.toNat (⟨e311.Night,e311.Ballot,e311.Value,e311.Best,x307,e311.Asked⟩:c0)).set x292.toNat (⟨e313.Night,e313.Ballot,e313.Value,e313.Best,e313.Mask,x309⟩:c0)).set x292.toNat (⟨e318.Night,e318.Ballot,e318.Value,c.Best,e318.Mask,e318.Asked⟩:c0)) x292) fun e320=>
     some ((((v10.set x292.toNat (⟨e311.Night,e311.Ballot,e311.Value,e311.Best,x307,e311.Asked⟩:c0)).set x292.toNat (⟨e313.Night,e313.Ballot,e313.Value,e313.Best,e313.Mask,x309⟩:c0)).set x292.toNat (⟨e318.Night,e318.Ballot,e318.Value,c.Best,e318.Mask,e318.Asked⟩:c0)).set x292.toNat (⟨e320.Night,e320.Ballot,c.Value,e320.Best,e320.Mask,e320.Asked⟩:c0))
    else
     some ((v10.set x292.toNat (⟨e311.Night,e311.Ballot,e311.Value,e311.Best,x307,e311.Asked⟩:c0)).set x292.toNat (⟨e313.Night,e313.Ballot,e313.Value,e313.Best,e313.Mask,x309⟩:c0))
def Z5 (c:b5) (v9:(List a8)):Option ((List a8)×Bool):=
 Option.bind (S6 c v9) fun e=>
 match e with
 | .inl (v430,x431)=>
  Option.bind (idx v430 x431) fun e461=>
  if(decide (c.Ballot≥e461.Promised))=true then
   Option.bind (idx v430 x431) fun e464=>
   Option.bind (idx (v430.set x431.toNat (⟨e464.Night,c.Ballot,e464.Ballot,e464.Value⟩:a8)) x431) fun e466=>
   Option.bind (idx ((v430.set x431.toNat (⟨e464.Night,c.Ballot,e464.Ballot,e464.Value⟩:a8)).set x431.toNat (⟨e466.Night,e466.Promised,c.Ballot,e466.Value⟩:a8)) x431) fun e468=>
   some ((((v430.set x431.toNat (⟨e464.Night,c.Ballot,e464.Ballot,e464.Value⟩:a8)).set x431.toNat (⟨e466.Night,e466.Promised,c.Ballot,e466.Value⟩:a8)).set x431.toNat (⟨e468.Night,e468.Promised,e468.Ballot,c.Value⟩:a8)),true)
  else
   some (v430,true)
 | .inr _=>
  some (v9,false)
def a1n (c:b5) (v11:(List a7)):Option (Sum ((List a7)×Int) Unit):=
 Option.bind (u5 v11 (⟨c.Night,c.Ballot,c.Value,0⟩:a7)) fun⟨x632,x633⟩=>
 if x633=true then
  some (.inl (v11,x632))
 else
  if((v11.length:Int)==60)=true then
   some (.inr ())
  else
   Option.bind (K5 v11 x632 ([(⟨c.Night,c.Ballot,c.Value,0⟩:a7)]:List a7)) fun x637=>
   some (.inl (x637,x632))
def T0 (c:b5) (v11:(List a7)):Option ((List a7)×Bool):=
 Option.bind (a1n c v11) fun e=>
 match e with
 | .inl (v630,x631)=>
  Option.bind (idx v630 x631) fun e641=>
  Option.bind (idx v630 x631) fun e643=>
  if(e643.Value==c.Value)=true then
   Option.bind (idx v630 x631) fun e646=>
   Option.bind (idx v630 x631) fun e648=>
   Option.bind (N6 e648.Mask c.From) fun x650=>
   Option.bind (idx v630 x631) fun e652=>
   Option.bind (idx v630 x631) fun e654=>
   some ((v630.set x631.toNat (⟨e654.Night,e654.Ballot,e654.Value,x650⟩:a7)),true)
  else
   some (v630,true)
 | .inr _=>
  some (v11,false)
def a1t (c:b5) (v13:(List b6)):Option (Sum ((List b6)×Int) Unit):=
 Option.bind (o5 v13 (⟨c.From,c.No,c.Thing,c.Start,c.Until,false⟩:b6)) fun⟨x736,x737⟩=>
 if x737=true then
  some (.inl (v13,x736))
 else
  if((v13.length:Int)==60)=true then
   some (.inr ())
  else
   Option.bind (L7 v13 x736 ([(⟨c.From,c.No,c.Thing,c.Start,c.Until,false⟩:b6)]:List b6)) fun x741=>
   some (.inl (x741,x736))
def a0n (c:b5) (v13:(List b6)):Option ((List b6)×Bool):=
 Option.bind (a1t c v13) fun e=>
 match e with
 | .inl (v734,x735)=>
  some (v734,true)
 | .inr _=>
  some (v13,false)
def O4 (c:b5) (v12:(List b8)):(Int×(List b8))→Option (Sum (Int×(List b8)) (Int×(List b8))):=fun(v840,v841)=>
 if(decide (v840<(v12.length:Int)))=true then
  Option.bind (idx v841 v840) fun e861=>
  Option.bind (idx v841 v840) fun e863=>
  if(e863.No==c.No)=true then
   Option.bind (idx v841 v840) fun e866=>
   if(e866.Thing==c.Thing)=true then
    Option.bind (idx v841 v840) fun e869=>
    if(e869.To==c.From)=true then
     Option.bind (idx v841 v840) fun e872=>
     Option.bind (idx v841 v840) fun e874=>
     Option.bind (idx v841 v840) fun e876=>
     some (.inl ((W (v840+1)),(v841.set v840.toNat (⟨e876.No,e876.Thing,e876.To,e876.From,(if(if e874.From>c.Until then e874.From else c.Until)<e872.Until then(if e874.From>c.Until then e874.From else c.Until)else e872.Until)⟩:b8))))
    else
     some (.inl ((W (v840+1)),v841))
   else
    some (.inl ((W (v840+1)),v841))
  else
   some (.inl ((W (v840+1)),v841))
 else
  some (.inr (v840,v841))
def a0C (c:b5) (v12:(List b8)):Option (List b8):=
 Option.bind (j4 (O4 c v12) (0,v12)) fun(v878,v879)=>
 some v879
def N9 (x:a6) (c:b5):Option (a6×Int):=
 Option.bind (R4 x) fun e=>
 match e with
 | .inl x8=>
  if(x8 !=0)=true then
   some ((⟨0,(⟨0, [], [], [], [], []⟩:b7),(⟨0, [], [], [], [], []⟩:b7)⟩:a6),x8)
  else
   Option.bind (a0p c) fun x32=>
   if(!x32)=true then
    some ((⟨0,(⟨0, [], [], [], [], []⟩:b7),(⟨0, [], [], [], [], []⟩:b7)⟩:a6),91)
   else
    none
 | .inr (v9,v10,v11,v12,v13,v14,v15,v16,v17,v18,x19,x20,x21)=>
  Option.bind (a0p c) fun x35=>
  if(!x35)=true then
   some ((⟨0,(⟨0, [], [], [], [], []⟩:b7),(⟨0, [], [], [], [], []⟩:b7)⟩:a6),91)
  else
   if(c.To !=x19)=true then
    some ((⟨0,(⟨0, [], [], [], [], []⟩:b7),(⟨0, [], [], [], [], []⟩:b7)⟩:a6),91)
   else
    if(c.Kind==1)=true then
     Option.bind (X4 c v9) fun⟨v89,x90⟩=>
     if(!x90)=true then
      some ((⟨0,(⟨0, [], [], [], [], []⟩:b7),(⟨0, [], [], [], [], []⟩:b7)⟩:a6),2)
     else
      some ((⟨x19,(⟨x20,v89,v10,v11,v12,v13⟩:b7),(⟨x21,v14,v15,v16,v17,v18⟩:b7)⟩:a6),0)
    else
     if(c.Kind==2)=true then
      Option.bind (V7 c v10) fun v291=>
      some ((⟨x19,(⟨x20,v9,v291,v11,v12,v13⟩:b7),(⟨x21,v14,v15,v16,v17,v18⟩:b7)⟩:a6),0)
     else
      if(c.Kind==3)=true then
       Option.bind (Z5 c v9) fun⟨v408,x409⟩=>
       if(!x409)=true then
        some ((⟨0,(⟨0, [], [], [], [], []⟩:b7),(⟨0, [], [], [], [], []⟩:b7)⟩:a6),2)
       else
        some ((⟨x19,(⟨x20,v408,v10,v11,v12,v13⟩:b7),(⟨x21,v14,v15,v16,v17,v18⟩:b7)⟩:a6),0)
      else
       if(c.Kind==4)=true then
        Option.bind (T0 c v11) fun⟨v621,x622⟩=>
        if(!x622)=true then
         some ((⟨0,(⟨0, [], [], [], [], []⟩:b7),(⟨0, [], [], [], [], []⟩:b7)⟩:a6),2)
        else
         some ((⟨x19,(⟨x20,v9,v10,v621,v12,v13⟩:b7),(⟨x21,v14,v15,v16,v17,v18⟩:b7)⟩:a6),0)
       else
        if(c.Kind==5)=true then
         Option.bind (a0n c v13) fun⟨v725,x726⟩=>
         if(!x726)=true then
          some ((⟨0,(⟨0, [], [], [], [], []⟩:b7),(⟨0, [], [], [], [], []⟩:b7)⟩:a6),2)
         else
          some ((⟨x19,(⟨x20,v9,v10,v11,v12,v725⟩:b7),(⟨x21,v14,v15,v16,v17,v18⟩:b7)⟩:a6),0)
        else
         if(c.Kind==6)=true then
          Option.bind (a0C c v12) fun v821=>
          some ((⟨x19,(⟨x20,v9,v10,v11,v821,v13⟩:b7),(⟨x21,v14,v15,v16,v17,v18⟩:b7)⟩:a6),0)
         else
          none
theorem a1B (x:a6) (c:b5) (r:(a6×Int)) (hm:N9 x c=some r):d7 Tryz.prog 9 [.agg (a6.c x), .agg (b5.c c)] (fun x=>x= .tup [.agg (a6.c r.1),DI r.2]):=by
 refine zy pl9 [51,76,144,145,173] [32] [18,61,62,63,64,65,66,95,101,103,141] Tryz.func9 rfl ?_
 obtain⟨ev29,he30,hm⟩:=b9 hm
 refine M2.ofZ pok ⟨[(0, .agg (a6.c x)),(1000003, .own 1 0),(1000004, .own 2 0)], [(1, .blk (b5.c c) 24),(2, .blk [DI 0,DI 0,nS,nS,nS,nS,nS,DI 0,nS,nS,nS,nS,nS] 38)],3⟩ (match ev29 with| .inl x8=>(⟨[(3, .own 1 0),(4, .own 2 0),(10, .tup [.v (.pointer none),DI x8])], [(1, .blk (b5.c c) 24),(2, .blk [DI 0,DI 0,nS,nS,nS,nS,nS,DI 0,nS,nS,nS,nS,nS] 38)],3⟩:Sy)| .inr (v9,v10,v11,v12,v13,v14,v15,v16,v17,v18,x19,x20,x21)=>(⟨[(3, .own 1 0),(4, .own 2 0),(10, .tup [.own 14 0,DI 0])], [(1, .blk (b5.c c) 24),(2, .blk [DI 0,DI 0,nS,nS,nS,nS,nS,DI 0,nS,nS,nS,nS,nS] 38),(4,rE 4 v9 a8.c 87),(5,rE 6 v10 c0.c 67),(6,rE 4 v11 a7.c 89),(7,rE 5 v12 b8.c 73),(8,rE 6 v13 b6.c 78),(9,rE 4 v14 a8.c 87),(10,rE 6 v15 c0.c 67),(11,rE 4 v16 a7.c 89),(12,rE 5 v17 b8.c 73),(13,rE 6 v18 b6.c 78),(14, .blk [DI x19,DI x20, .row 4 4, .row 5 6, .row 6 4, .row 7 5, .row 8 6,DI x21, .row 9 4, .row 10 6, .row 11 4, .row 12 5, .row 13 6] 65)],15⟩:Sy):Sy) b8F [51,76,144,145,173] [32] [18,61,62,63,64,65,66,95,101,103,141] Tryz.func18 rfl rfl rfl (sb 3) (fun sv=> ?_) ?_
 have hm:=he30
 refine cy hm (P1 x) fun x984 hm=> ?_
 apply vb hm<;>intro _ hm
 cases hm
 exact sb 3
 refine⟨rfl, ?_⟩
 obtain⟨x987,hx988,hm⟩:=b9 hm
 refine .inr (a4O.mk ⟨_,_,L1 x.Now _ hx988, ?_⟩)
 obtain⟨x989,hx990,hm⟩:=b9 hm
 refine .inr (a4O.mk ⟨_,_,L1 x.Safe _ hx990, ?_⟩)
 cases hm
 exact sb 15
 rcases ev29 with x8|⟨v9,v10,v11,v12,v13,v14,v15,v16,v17,v18,x19,x20,x21⟩
 apply vb hm<;>intro _ hm
 cases hm
 exact c9j (le1)
 refine⟨rfl, ?_⟩
 refine cy hm (a7e c) fun x32 hm=> ?_
 apply vb hm<;>intro _ hm
 cases hm
 exact c9j (le1)
 cases hm
 refine⟨rfl, ?_⟩
 refine cy hm (a7e c) fun x35 hm=> ?_
 apply vb hm<;>intro _ hm
 cases hm
 exact c9j (le1)
 apply vb hm<;>intro _ hm
 cases hm
 exact c9j (le1)
 refine⟨rfl, ?_⟩
 refine a4R.det b4c ?_
 cases h39:(c.Kind==1)
 rotate_left
 replace hm:=c0A h39 hm
 refine⟨⟨3,82,by kernel_rfl,by kernel_rfl⟩,61,by simp only [a7O,h39], ?_⟩
 obtain⟨ev174,he175,hm⟩:=b9 hm
 refine M2.ofZ pok ⟨[(0, .own 14 0),(1, .agg (b5.c c)),(1000004, .own 2 0),(1000006, .own 14 0)], [(2, .blk [DI 0,DI 0,nS,nS,nS,nS,nS,DI 0,nS,nS,nS,nS,nS] 38),(4,rE 4 v9 a8.c 87),(5,rE 6 v10 c0.c 67),(6,rE 4 v11 a7.c 89),(7,rE 5 v12 b8.c 73),(8,rE 6 v13 b6.c 78),(9,rE 4 v14 a8.c 87),(10,rE 6 v15 c0.c 67),(11,rE 4 v16 a7.c 89),(12,rE 5 v17 b8.c 73),(13,rE 6 v18 b6.c 78),(14, .blk [DI x19,DI x20, .row 4 4, .row 5 6, .row 6 4, .row 7 5, .row 8 6,DI x21, .row 9 4, .row 10 6, .row 11 4, .row 12 5, .row 13 6] 65)],15⟩ (match ev174 with|(v89,x90)=>(⟨[(4, .own 2 0),(6, .own 14 0),(40,DB x90)], [(2, .blk [DI 0,DI 0,nS,nS,nS,nS,nS,DI 0,nS,nS,nS,nS,nS] 38),(4,rE 4 v89 a8.c 87),(5,rE 6 v10 c0.c 67),(6,rE 4 v11 a7.c 89),(7,rE 5 v12 b8.c 73),(8,rE 6 v13 b6.c 78),(9,rE 4 v14 a8.c 87),(10,rE 6 v15 c0.c 67),(11,rE 4 v16 a7.c 89),(12,rE 5 v17 b8.c 73),(13,rE 6 v18 b6.c 78),(14, .blk [DI x19,DI x20, .row 4 4, .row 5 6, .row 6 4, .row 7 5, .row 8 6,DI x21, .row 9 4, .row 10 6, .row 11 4, .row 12 5, .row 13 6] 65)],15⟩:Sy):Sy) c8x [51,76,144,145,173] [32] [18,61,62,63,64,65,66,95,101,103,141] Tryz.func61 rfl rfl rfl (sb 15) (fun sv=> ?_) ?_
 have hm:=he175
 obtain⟨ev226,he227,hm⟩:=b9 hm
 refine M2.ofZ pok ⟨[(0, .own 14 0),(1,DI c.Night),(1000003, .own 15 0),(1000034, .own 2 0),(1000036, .own 14 0)], [(2, .blk [DI 0,DI 0,nS,nS,nS,nS,nS,DI 0,nS,nS,nS,nS,nS] 38),(4,rE 4 v9 a8.c 87),(5,rE 6 v10 c0.c 67),(6,rE 4 v11 a7.c 89),(7,rE 5 v12 b8.c 73),(8,rE 6 v13 b6.c 78),(9,rE 4 v14 a8.c 87),(10,rE 6 v15 c0.c 67),(11,rE 4 v16 a7.c 89),(12,rE 5 v17 b8.c 73),(13,rE 6 v18 b6.c 78),(14, .blk [DI x19,DI x20, .row 4 4, .row 5 6, .row 6 4, .row 7 5, .row 8 6,DI x21, .row 9 4, .row 10 6, .row 11 4, .row 12 5, .row 13 6] 65),(15, .blk (b5.c c) 24)],16⟩ (match ev226 with| .inl (v197,x198)=>(⟨[(3, .own 15 0),(11, .tup [.elr 4 4 (x198).toNat 0,DB true]),(1000004, .own 2 0),(1000006, .own 14 0)], [(2, .blk [DI 0,DI 0,nS,nS,nS,nS,nS,DI 0,nS,nS,nS,nS,nS] 38),(4,rE 4 v197 a8.c 87),(5,rE 6 v10 c0.c 67),(6,rE 4 v11 a7.c 89),(7,rE 5 v12 b8.c 73),(8,rE 6 v13 b6.c 78),(9,rE 4 v14 a8.c 87),(10,rE 6 v15 c0.c 67),(11,rE 4 v16 a7.c 89),(12,rE 5 v17 b8.c 73),(13,rE 6 v18 b6.c 78),(14, .blk [DI x19,DI x20, .row 4 4, .row 5 6, .row 6 4, .row 7 5, .row 8 6,DI x21, .row 9 4, .row 10 6, .row 11 4, .row 12 5, .row 13 6] 65),(15, .blk (b5.c c) 24)],16⟩:Sy)| .inr _=>(⟨[(3, .own 15 0),(11, .tup [.v (.pointer none),DB false]),(1000004, .own 2 0),(1000006, .own 14 0)], [(2, .blk [DI 0,DI 0,nS,nS,nS,nS,nS,DI 0,nS,nS,nS,nS,nS] 38),(4,rE 4 v9 a8.c 87),(5,rE 6 v10 c0.c 67),(6,rE 4 v11 a7.c 89),(7,rE 5 v12 b8.c 73),(8,rE 6 v13 b6.c 78),(9,rE 4 v14 a8.c 87),(10,rE 6 v15 c0.c 67),(11,rE 4 v16 a7.c 89),(12,rE 5 v17 b8.c 73),(13,rE 6 v18 b6.c 78),(14, .blk [DI x19,DI x20, .row 4 4, .row 5 6, .row 6 4, .row 7 5, .row 8 6,DI x21, .row 9 4, .row 10 6, .row 11 4, .row 12 5, .row 13 6] 65),(15, .blk (b5.c c) 24)],16⟩:Sy):Sy) [] [51,76,144,145,173] [32] [18,61,62,63,64,65,66,95,101,103,141] Tryz.func95 rfl rfl rfl (sb 16) (fun sv=> ?_) ?_
 have hm:=he227
 obtain⟨ev249,he250,hm⟩:=b9 hm
 refine M2.ofZ pok ⟨[(0, .row 4 4),(1, .agg [DI c.Night,DI 0,DI 0,DI 0]),(2,DI 12),(3, .fn 116 [] []),(1000000, .own 14 0),(1000036, .own 15 0),(1000067, .own 2 0),(1000069, .own 14 0)], [(2, .blk [DI 0,DI 0,nS,nS,nS,nS,nS,DI 0,nS,nS,nS,nS,nS] 38),(4,rE 4 v9 a8.c 87),(5,rE 6 v10 c0.c 67),(6,rE 4 v11 a7.c 89),(7,rE 5 v12 b8.c 73),(8,rE 6 v13 b6.c 78),(9,rE 4 v14 a8.c 87),(10,rE 6 v15 c0.c 67),(11,rE 4 v16 a7.c 89),(12,rE 5 v17 b8.c 73),(13,rE 6 v18 b6.c 78),(14, .blk [DI x19,DI x20, .row 4 4, .row 5 6, .row 6 4, .row 7 5, .row 8 6,DI x21, .row 9 4, .row 10 6, .row 11 4, .row 12 5, .row 13 6] 65),(15, .blk (b5.c c) 24)],16⟩ (match ev249 with| .inl (v240,x241)=>(⟨[(0, .own 14 0),(18, .tup [.row 4 4,DI x241,DB true]),(1000003, .own 15 0),(1000034, .own 2 0),(1000036, .own 14 0)], [(2, .blk [DI 0,DI 0,nS,nS,nS,nS,nS,DI 0,nS,nS,nS,nS,nS] 38),(4,rE 4 v240 a8.c 87),(5,rE 6 v10 c0.c 67),(6,rE 4 v11 a7.c 89),(7,rE 5 v12 b8.c 73),(8,rE 6 v13 b6.c 78),(9,rE 4 v14 a8.c 87),(10,rE 6 v15 c0.c 67),(11,rE 4 v16 a7.c 89),(12,rE 5 v17 b8.c 73),(13,rE 6 v18 b6.c 78),(14, .blk [DI x19,DI x20, .bad, .row 5 6, .row 6 4, .row 7 5, .row 8 6,DI x21, .row 9 4, .row 10 6, .row 11 4, .row 12 5, .row 13 6] 65),(15, .blk (b5.c c) 24)],16⟩:Sy)| .inr _=>(⟨[(0, .own 14 0),(18, .tup [nS,DI 0,DB false]),(1000003, .own 15 0),(1000034, .own 2 0),(1000036, .own 14 0)], [(2, .blk [DI 0,DI 0,nS,nS,nS,nS,nS,DI 0,nS,nS,nS,nS,nS] 38),(4,rE 4 v9 a8.c 87),(5,rE 6 v10 c0.c 67),(6,rE 4 v11 a7.c 89),(7,rE 5 v12 b8.c 73),(8,rE 6 v13 b6.c 78),(9,rE 4 v14 a8.c 87),(10,rE 6 v15 c0.c 67),(11,rE 4 v16 a7.c 89),(12,rE 5 v17 b8.c 73),(13,rE 6 v18 b6.c 78),(14, .blk [DI x19,DI x20, .row 4 4, .row 5 6, .row 6 4, .row 7 5, .row 8 6,DI x21, .row 9 4, .row 10 6, .row 11 4, .row 12 5, .row 13 6] 65),(15, .blk (b5.c c) 24)],16⟩:Sy):Sy) [] [51,76,144,145,173] [32] [18,61,62,63,64,65,66,95,101,103,141] Tryz.func141 rfl rfl rfl (sb 16) (fun sv=> ?_) ?_
 have hm:=he250
 refine co hm (L3 v9 ((⟨c.Night,0,0,0⟩:a8))) ?_
 rintro⟨x253,x254⟩ hm
 apply vb hm<;>intro _ hm
 cases hm
 exact Q0.of 16 rfl (tA rfl) ⟨hR rfl,hW rfl,hW rfl,hW rfl,hW rfl,hW rfl,hW rfl,hW rfl,hW rfl,hW rfl,hW rfl,⟨_,rfl,⟨c9h _,c9h _,c9h _,c9h _,c9h _,c9h _,c9h _,c9h _,c9h _,c9h _,c9h _,c9h _,trivial⟩⟩,hR rfl,trivial⟩
 apply vb hm<;>intro _ hm
 cases hm
 exact sb 16
 refine⟨([(⟨c.Night,0,0,0⟩:a8)]:List a8).flatMap a8.c,([(⟨c.Night,0,0,0⟩:a8)]:List a8).length,⟨rfl,rfl⟩, ?_⟩
 obtain⟨x258,hx259,hm⟩:=b9 hm
 refine .inl (b2N.mk ⟨_,_,_,_,_,_,_,rfl,S9 v9 x253 (([(⟨c.Night,0,0,0⟩:a8)]:List a8)) _ hx259, ?_⟩)
 cases hm
 exact sb 16
 rcases ev249 with⟨v240,x241⟩|⟨⟩
 refine eb hm fun _ hm=> ?_
 cases hm
 exact sb 16
 cases hm
 exact sb 16
 rcases ev226 with⟨v197,x198⟩|⟨⟩
 refine⟨rfl, ?_⟩
 refine er hm fun _ hm=> ?_
 apply vb hm<;>intro _ hm
 obtain⟨e231,hx232,hm⟩:=b9 hm
 refine⟨_,a1M (fun _=>rfl) hx232,_,Q6 (y:=(⟨e231.Night,c.Ballot,e231.Ballot,e231.Value⟩:a8)) (fun _=>rfl) hx232, ?_⟩
 cases hm
 exact sb 15
 cases hm
 exact sb 15
 refine⟨rfl, ?_⟩
 cases hm
 exact sb 15
 obtain⟨v89,x90⟩:=ev174
 apply vb hm<;>intro _ hm
 cases hm
 exact c9j (le1)
 cases hm
 exact c9j (c9h _)
 replace hm:=c0N h39 hm
 cases h260:(c.Kind==2)
 rotate_left
 replace hm:=c0A h260 hm
 refine⟨⟨3,82,by kernel_rfl,by kernel_rfl⟩,62,by simp only [a7O,h39,h260], ?_⟩
 obtain⟨ev322,he323,hm⟩:=b9 hm
 refine M2.ofZ pok ⟨[(0, .own 14 0),(1, .agg (b5.c c)),(1000004, .own 2 0),(1000006, .own 14 0)], [(2, .blk [DI 0,DI 0,nS,nS,nS,nS,nS,DI 0,nS,nS,nS,nS,nS] 38),(4,rE 4 v9 a8.c 87),(5,rE 6 v10 c0.c 67),(6,rE 4 v11 a7.c 89),(7,rE 5 v12 b8.c 73),(8,rE 6 v13 b6.c 78),(9,rE 4 v14 a8.c 87),(10,rE 6 v15 c0.c 67),(11,rE 4 v16 a7.c 89),(12,rE 5 v17 b8.c 73),(13,rE 6 v18 b6.c 78),(14, .blk [DI x19,DI x20, .row 4 4, .row 5 6, .row 6 4, .row 7 5, .row 8 6,DI x21, .row 9 4, .row 10 6, .row 11 4, .row 12 5, .row 13 6] 65)],15⟩ (match ev322 with|v291=>(⟨[(4, .own 2 0),(6, .own 14 0),(40,DB true)], [(2, .blk [DI 0,DI 0,nS,nS,nS,nS,nS,DI 0,nS,nS,nS,nS,nS] 38),(4,rE 4 v9 a8.c 87),(5,rE 6 v291 c0.c 67),(6,rE 4 v11 a7.c 89),(7,rE 5 v12 b8.c 73),(8,rE 6 v13 b6.c 78),(9,rE 4 v14 a8.c 87),(10,rE 6 v15 c0.c 67),(11,rE 4 v16 a7.c 89),(12,rE 5 v17 b8.c 73),(13,rE 6 v18 b6.c 78),(14, .blk [DI x19,DI x20, .row 4 4, .row 5 6, .row 6 4, .row 7 5, .row 8 6,DI x21, .row 9 4, .row 10 6, .row 11 4, .row 12 5, .row 13 6] 65)],15⟩:Sy):Sy) c8E [51,76,144,145,173] [32] [18,61,62,63,64,65,66,95,101,103,141] Tryz.func62 rfl rfl rfl (sb 15) (fun sv=> ?_) ?_
 have hm:=he323
 refine co hm (O2 v10 c) fun x324 hm=> ?_
 apply vb hm<;>intro _ hm
 cases hm
 exact sb 15
 refine eb hm fun _ hm=> ?_
 refine⟨rfl, ?_⟩
 refine er hm fun _ hm=> ?_
 apply vb hm<;>intro _ hm
 cases hm
 exact sb 15
 refine er hm fun e332 hm=> ?_
 refine cy hm (b0n e332.Mask c.From) fun x334 hm=> ?_
 apply vb hm<;>intro _ hm
 cases hm
 exact sb 15
 refine⟨rfl, ?_⟩
 refine er hm fun e337 hm=> ?_
 refine cy hm (a4A e337.Mask c.From) fun x339 hm=> ?_
 refine cy hm (a3E x339) fun x341 hm=> ?_
 obtain⟨e343,hx344,hm⟩:=b9 hm
 refine⟨_,a1M (fun _=>rfl) hx344,_,Q6 (y:=(⟨e343.Night,e343.Ballot,e343.Value,e343.Best,x339,e343.Asked⟩:c0)) (fun _=>rfl) hx344, ?_⟩
 obtain⟨e345,hx346,hm⟩:=b9 hm
 refine⟨_,a6G (fun _=>rfl) hx346 (by first|rfl|simp only [List.length_set]),_,Q6 (y:=(⟨e345.Night,e345.Ballot,e345.Value,e345.Best,e345.Mask,x341⟩:c0)) (fun _=>rfl) hx346, ?_⟩
 refine⟨rfl, ?_⟩
 obtain⟨e347,hx348,hm⟩:=b9 hm
 refine⟨_,a6G (fun _=>rfl) hx348 (by first|rfl|simp only [List.length_set]), ?_⟩
 apply vb hm<;>intro _ hm
 refine⟨rfl, ?_⟩
 obtain⟨e350,hx351,hm⟩:=b9 hm
 refine⟨_,a6G (fun _=>rfl) hx351 (by first|rfl|simp only [List.length_set]),_,Q6 (y:=(⟨e350.Night,e350.Ballot,e350.Value,c.Best,e350.Mask,e350.Asked⟩:c0)) (fun _=>rfl) hx351, ?_⟩
 obtain⟨e352,hx353,hm⟩:=b9 hm
 refine⟨_,a6G (fun _=>rfl) hx353 (by first|rfl|simp only [List.length_set]),_,Q6 (y:=(⟨e352.Night,e352.Ballot,c.Value,e352.Best,e352.Mask,e352.Asked⟩:c0)) (fun _=>rfl) hx353, ?_⟩
 cases hm
 exact sb 15
 cases hm
 exact sb 15
 obtain v291:=ev322
 cases hm
 exact c9j (c9h _)
 replace hm:=c0N h260 hm
 cases h354:(c.Kind==3)
 rotate_left
 replace hm:=c0A h354 hm
 refine⟨⟨3,82,by kernel_rfl,by kernel_rfl⟩,63,by simp only [a7O,h39,h260,h354], ?_⟩
 obtain⟨ev497,he498,hm⟩:=b9 hm
 refine M2.ofZ pok ⟨[(0, .own 14 0),(1, .agg (b5.c c)),(1000004, .own 2 0),(1000006, .own 14 0)], [(2, .blk [DI 0,DI 0,nS,nS,nS,nS,nS,DI 0,nS,nS,nS,nS,nS] 38),(4,rE 4 v9 a8.c 87),(5,rE 6 v10 c0.c 67),(6,rE 4 v11 a7.c 89),(7,rE 5 v12 b8.c 73),(8,rE 6 v13 b6.c 78),(9,rE 4 v14 a8.c 87),(10,rE 6 v15 c0.c 67),(11,rE 4 v16 a7.c 89),(12,rE 5 v17 b8.c 73),(13,rE 6 v18 b6.c 78),(14, .blk [DI x19,DI x20, .row 4 4, .row 5 6, .row 6 4, .row 7 5, .row 8 6,DI x21, .row 9 4, .row 10 6, .row 11 4, .row 12 5, .row 13 6] 65)],15⟩ (match ev497 with|(v408,x409)=>(⟨[(4, .own 2 0),(6, .own 14 0),(40,DB x409)], [(2, .blk [DI 0,DI 0,nS,nS,nS,nS,nS,DI 0,nS,nS,nS,nS,nS] 38),(4,rE 4 v408 a8.c 87),(5,rE 6 v10 c0.c 67),(6,rE 4 v11 a7.c 89),(7,rE 5 v12 b8.c 73),(8,rE 6 v13 b6.c 78),(9,rE 4 v14 a8.c 87),(10,rE 6 v15 c0.c 67),(11,rE 4 v16 a7.c 89),(12,rE 5 v17 b8.c 73),(13,rE 6 v18 b6.c 78),(14, .blk [DI x19,DI x20, .row 4 4, .row 5 6, .row 6 4, .row 7 5, .row 8 6,DI x21, .row 9 4, .row 10 6, .row 11 4, .row 12 5, .row 13 6] 65)],15⟩:Sy):Sy) c7S [51,76,144,145,173] [32] [18,61,62,63,64,65,66,95,101,103,141] Tryz.func63 rfl rfl rfl (sb 15) (fun sv=> ?_) ?_
 have hm:=he498
 obtain⟨ev549,he550,hm⟩:=b9 hm
 refine M2.ofZ pok ⟨[(0, .own 14 0),(1,DI c.Night),(1000003, .own 15 0),(1000044, .own 2 0),(1000046, .own 14 0)], [(2, .blk [DI 0,DI 0,nS,nS,nS,nS,nS,DI 0,nS,nS,nS,nS,nS] 38),(4,rE 4 v9 a8.c 87),(5,rE 6 v10 c0.c 67),(6,rE 4 v11 a7.c 89),(7,rE 5 v12 b8.c 73),(8,rE 6 v13 b6.c 78),(9,rE 4 v14 a8.c 87),(10,rE 6 v15 c0.c 67),(11,rE 4 v16 a7.c 89),(12,rE 5 v17 b8.c 73),(13,rE 6 v18 b6.c 78),(14, .blk [DI x19,DI x20, .row 4 4, .row 5 6, .row 6 4, .row 7 5, .row 8 6,DI x21, .row 9 4, .row 10 6, .row 11 4, .row 12 5, .row 13 6] 65),(15, .blk (b5.c c) 24)],16⟩ (match ev549 with| .inl (v520,x521)=>(⟨[(3, .own 15 0),(11, .tup [.elr 4 4 (x521).toNat 0,DB true]),(1000004, .own 2 0),(1000006, .own 14 0)], [(2, .blk [DI 0,DI 0,nS,nS,nS,nS,nS,DI 0,nS,nS,nS,nS,nS] 38),(4,rE 4 v520 a8.c 87),(5,rE 6 v10 c0.c 67),(6,rE 4 v11 a7.c 89),(7,rE 5 v12 b8.c 73),(8,rE 6 v13 b6.c 78),(9,rE 4 v14 a8.c 87),(10,rE 6 v15 c0.c 67),(11,rE 4 v16 a7.c 89),(12,rE 5 v17 b8.c 73),(13,rE 6 v18 b6.c 78),(14, .blk [DI x19,DI x20, .row 4 4, .row 5 6, .row 6 4, .row 7 5, .row 8 6,DI x21, .row 9 4, .row 10 6, .row 11 4, .row 12 5, .row 13 6] 65),(15, .blk (b5.c c) 24)],16⟩:Sy)| .inr _=>(⟨[(3, .own 15 0),(11, .tup [.v (.pointer none),DB false]),(1000004, .own 2 0),(1000006, .own 14 0)], [(2, .blk [DI 0,DI 0,nS,nS,nS,nS,nS,DI 0,nS,nS,nS,nS,nS] 38),(4,rE 4 v9 a8.c 87),(5,rE 6 v10 c0.c 67),(6,rE 4 v11 a7.c 89),(7,rE 5 v12 b8.c 73),(8,rE 6 v13 b6.c 78),(9,rE 4 v14 a8.c 87),(10,rE 6 v15 c0.c 67),(11,rE 4 v16 a7.c 89),(12,rE 5 v17 b8.c 73),(13,rE 6 v18 b6.c 78),(14, .blk [DI x19,DI x20, .row 4 4, .row 5 6, .row 6 4, .row 7 5, .row 8 6,DI x21, .row 9 4, .row 10 6, .row 11 4, .row 12 5, .row 13 6] 65),(15, .blk (b5.c c) 24)],16⟩:Sy):Sy) [] [51,76,144,145,173] [32] [18,61,62,63,64,65,66,95,101,103,141] Tryz.func95 rfl rfl rfl (sb 16) (fun sv=> ?_) ?_
 have hm:=he550
 obtain⟨ev576,he577,hm⟩:=b9 hm
 refine M2.ofZ pok ⟨[(0, .row 4 4),(1, .agg [DI c.Night,DI 0,DI 0,DI 0]),(2,DI 12),(3, .fn 116 [] []),(1000000, .own 14 0),(1000036, .own 15 0),(1000077, .own 2 0),(1000079, .own 14 0)], [(2, .blk [DI 0,DI 0,nS,nS,nS,nS,nS,DI 0,nS,nS,nS,nS,nS] 38),(4,rE 4 v9 a8.c 87),(5,rE 6 v10 c0.c 67),(6,rE 4 v11 a7.c 89),(7,rE 5 v12 b8.c 73),(8,rE 6 v13 b6.c 78),(9,rE 4 v14 a8.c 87),(10,rE 6 v15 c0.c 67),(11,rE 4 v16 a7.c 89),(12,rE 5 v17 b8.c 73),(13,rE 6 v18 b6.c 78),(14, .blk [DI x19,DI x20, .row 4 4, .row 5 6, .row 6 4, .row 7 5, .row 8 6,DI x21, .row 9 4, .row 10 6, .row 11 4, .row 12 5, .row 13 6] 65),(15, .blk (b5.c c) 24)],16⟩ (match ev576 with| .inl (v567,x568)=>(⟨[(0, .own 14 0),(18, .tup [.row 4 4,DI x568,DB true]),(1000003, .own 15 0),(1000044, .own 2 0),(1000046, .own 14 0)], [(2, .blk [DI 0,DI 0,nS,nS,nS,nS,nS,DI 0,nS,nS,nS,nS,nS] 38),(4,rE 4 v567 a8.c 87),(5,rE 6 v10 c0.c 67),(6,rE 4 v11 a7.c 89),(7,rE 5 v12 b8.c 73),(8,rE 6 v13 b6.c 78),(9,rE 4 v14 a8.c 87),(10,rE 6 v15 c0.c 67),(11,rE 4 v16 a7.c 89),(12,rE 5 v17 b8.c 73),(13,rE 6 v18 b6.c 78),(14, .blk [DI x19,DI x20, .bad, .row 5 6, .row 6 4, .row 7 5, .row 8 6,DI x21, .row 9 4, .row 10 6, .row 11 4, .row 12 5, .row 13 6] 65),(15, .blk (b5.c c) 24)],16⟩:Sy)| .inr _=>(⟨[(0, .own 14 0),(18, .tup [nS,DI 0,DB false]),(1000003, .own 15 0),(1000044, .own 2 0),(1000046, .own 14 0)], [(2, .blk [DI 0,DI 0,nS,nS,nS,nS,nS,DI 0,nS,nS,nS,nS,nS] 38),(4,rE 4 v9 a8.c 87),(5,rE 6 v10 c0.c 67),(6,rE 4 v11 a7.c 89),(7,rE 5 v12 b8.c 73),(8,rE 6 v13 b6.c 78),(9,rE 4 v14 a8.c 87),(10,rE 6 v15 c0.c 67),(11,rE 4 v16 a7.c 89),(12,rE 5 v17 b8.c 73),(13,rE 6 v18 b6.c 78),(14, .blk [DI x19,DI x20, .row 4 4, .row 5 6, .row 6 4, .row 7 5, .row 8 6,DI x21, .row 9 4, .row 10 6, .row 11 4, .row 12 5, .row 13 6] 65),(15, .blk (b5.c c) 24)],16⟩:Sy):Sy) [] [51,76,144,145,173] [32] [18,61,62,63,64,65,66,95,101,103,141] Tryz.func141 rfl rfl rfl (sb 16) (fun sv=> ?_) ?_
 have hm:=he577
 refine co hm (L3 v9 ((⟨c.Night,0,0,0⟩:a8))) ?_
 rintro⟨x580,x581⟩ hm
 apply vb hm<;>intro _ hm
 cases hm
 exact Q0.of 16 rfl (tA rfl) ⟨hR rfl,hW rfl,hW rfl,hW rfl,hW rfl,hW rfl,hW rfl,hW rfl,hW rfl,hW rfl,hW rfl,⟨_,rfl,⟨c9h _,c9h _,c9h _,c9h _,c9h _,c9h _,c9h _,c9h _,c9h _,c9h _,c9h _,c9h _,trivial⟩⟩,hR rfl,trivial⟩
 apply vb hm<;>intro _ hm
 cases hm
 exact sb 16
 refine⟨([(⟨c.Night,0,0,0⟩:a8)]:List a8).flatMap a8.c,([(⟨c.Night,0,0,0⟩:a8)]:List a8).length,⟨rfl,rfl⟩, ?_⟩
 obtain⟨x585,hx586,hm⟩:=b9 hm
 refine .inl (b2N.mk ⟨_,_,_,_,_,_,_,rfl,S9 v9 x580 (([(⟨c.Night,0,0,0⟩:a8)]:List a8)) _ hx586, ?_⟩)
 cases hm
 exact sb 16
 rcases ev576 with⟨v567,x568⟩|⟨⟩
 refine eb hm fun _ hm=> ?_
 cases hm
 exact sb 16
 cases hm
 exact sb 16
 rcases ev549 with⟨v520,x521⟩|⟨⟩
 refine⟨rfl, ?_⟩
 refine er hm fun _ hm=> ?_
 apply vb hm<;>intro _ hm
 refine⟨rfl, ?_⟩
 obtain⟨e554,hx555,hm⟩:=b9 hm
 refine⟨_,a1M (fun _=>rfl) hx555,_,Q6 (y:=(⟨e554.Night,c.Ballot,e554.Ballot,e554.Value⟩:a8)) (fun _=>rfl) hx555, ?_⟩
 obtain⟨e556,hx557,hm⟩:=b9 hm
 refine⟨_,a6G (fun _=>rfl) hx557 (by first|rfl|simp only [List.length_set]),_,Q6 (y:=(⟨e556.Night,e556.Promised,c.Ballot,e556.Value⟩:a8)) (fun _=>rfl) hx557, ?_⟩
 obtain⟨e558,hx559,hm⟩:=b9 hm
 refine⟨_,a6G (fun _=>rfl) hx559 (by first|rfl|simp only [List.length_set]),_,Q6 (y:=(⟨e558.Night,e558.Promised,e558.Ballot,c.Value⟩:a8)) (fun _=>rfl) hx559, ?_⟩
 cases hm
 exact sb 15
 cases hm
 exact sb 15
 refine⟨rfl, ?_⟩
 cases hm
 exact sb 15
 obtain⟨v408,x409⟩:=ev497
 apply vb hm<;>intro _ hm
 cases hm
 exact c9j (le1)
 cases hm
 exact c9j (c9h _)
 replace hm:=c0N h354 hm
 cases h587:(c.Kind==4)
 rotate_left
 replace hm:=c0A h587 hm
 refine⟨⟨3,82,by kernel_rfl,by kernel_rfl⟩,64,by simp only [a7O,h39,h260,h354,h587], ?_⟩
 obtain⟨ev663,he664,hm⟩:=b9 hm
 refine M2.ofZ pok ⟨[(0, .own 14 0),(1, .agg (b5.c c)),(1000004, .own 2 0),(1000006, .own 14 0)], [(2, .blk [DI 0,DI 0,nS,nS,nS,nS,nS,DI 0,nS,nS,nS,nS,nS] 38),(4,rE 4 v9 a8.c 87),(5,rE 6 v10 c0.c 67),(6,rE 4 v11 a7.c 89),(7,rE 5 v12 b8.c 73),(8,rE 6 v13 b6.c 78),(9,rE 4 v14 a8.c 87),(10,rE 6 v15 c0.c 67),(11,rE 4 v16 a7.c 89),(12,rE 5 v17 b8.c 73),(13,rE 6 v18 b6.c 78),(14, .blk [DI x19,DI x20, .row 4 4, .row 5 6, .row 6 4, .row 7 5, .row 8 6,DI x21, .row 9 4, .row 10 6, .row 11 4, .row 12 5, .row 13 6] 65)],15⟩ (match ev663 with|(v621,x622)=>(⟨[(4, .own 2 0),(6, .own 14 0),(40,DB x622)], [(2, .blk [DI 0,DI 0,nS,nS,nS,nS,nS,DI 0,nS,nS,nS,nS,nS] 38),(4,rE 4 v9 a8.c 87),(5,rE 6 v10 c0.c 67),(6,rE 4 v621 a7.c 89),(7,rE 5 v12 b8.c 73),(8,rE 6 v13 b6.c 78),(9,rE 4 v14 a8.c 87),(10,rE 6 v15 c0.c 67),(11,rE 4 v16 a7.c 89),(12,rE 5 v17 b8.c 73),(13,rE 6 v18 b6.c 78),(14, .blk [DI x19,DI x20, .row 4 4, .row 5 6, .row 6 4, .row 7 5, .row 8 6,DI x21, .row 9 4, .row 10 6, .row 11 4, .row 12 5, .row 13 6] 65)],15⟩:Sy):Sy) c8s [51,76,144,145,173] [32] [18,61,62,63,64,65,66,95,101,103,141] Tryz.func64 rfl rfl rfl (sb 15) (fun sv=> ?_) ?_
 have hm:=he664
 refine⟨rfl, ?_⟩
 obtain⟨ev682,he683,hm⟩:=b9 hm
 refine M2.ofZ pok ⟨[(0, .row 6 4),(1, .agg [DI c.Night,DI c.Ballot,DI c.Value,DI 0]),(2,DI 60),(3, .fn 102 [] []),(1000000, .own 14 0),(1000003, .own 15 0),(1000058, .own 2 0),(1000060, .own 14 0)], [(2, .blk [DI 0,DI 0,nS,nS,nS,nS,nS,DI 0,nS,nS,nS,nS,nS] 38),(4,rE 4 v9 a8.c 87),(5,rE 6 v10 c0.c 67),(6,rE 4 v11 a7.c 89),(7,rE 5 v12 b8.c 73),(8,rE 6 v13 b6.c 78),(9,rE 4 v14 a8.c 87),(10,rE 6 v15 c0.c 67),(11,rE 4 v16 a7.c 89),(12,rE 5 v17 b8.c 73),(13,rE 6 v18 b6.c 78),(14, .blk [DI x19,DI x20, .row 4 4, .row 5 6, .row 6 4, .row 7 5, .row 8 6,DI x21, .row 9 4, .row 10 6, .row 11 4, .row 12 5, .row 13 6] 65),(15, .blk (b5.c c) 24)],16⟩ (match ev682 with| .inl (v673,x674)=>(⟨[(0, .own 14 0),(3, .own 15 0),(22, .tup [.row 6 4,DI x674,DB true]),(1000004, .own 2 0),(1000006, .own 14 0)], [(2, .blk [DI 0,DI 0,nS,nS,nS,nS,nS,DI 0,nS,nS,nS,nS,nS] 38),(4,rE 4 v9 a8.c 87),(5,rE 6 v10 c0.c 67),(6,rE 4 v673 a7.c 89),(7,rE 5 v12 b8.c 73),(8,rE 6 v13 b6.c 78),(9,rE 4 v14 a8.c 87),(10,rE 6 v15 c0.c 67),(11,rE 4 v16 a7.c 89),(12,rE 5 v17 b8.c 73),(13,rE 6 v18 b6.c 78),(14, .blk [DI x19,DI x20, .row 4 4, .row 5 6, .bad, .row 7 5, .row 8 6,DI x21, .row 9 4, .row 10 6, .row 11 4, .row 12 5, .row 13 6] 65),(15, .blk (b5.c c) 24)],16⟩:Sy)| .inr _=>(⟨[(0, .own 14 0),(3, .own 15 0),(22, .tup [nS,DI 0,DB false]),(1000004, .own 2 0),(1000006, .own 14 0)], [(2, .blk [DI 0,DI 0,nS,nS,nS,nS,nS,DI 0,nS,nS,nS,nS,nS] 38),(4,rE 4 v9 a8.c 87),(5,rE 6 v10 c0.c 67),(6,rE 4 v11 a7.c 89),(7,rE 5 v12 b8.c 73),(8,rE 6 v13 b6.c 78),(9,rE 4 v14 a8.c 87),(10,rE 6 v15 c0.c 67),(11,rE 4 v16 a7.c 89),(12,rE 5 v17 b8.c 73),(13,rE 6 v18 b6.c 78),(14, .blk [DI x19,DI x20, .row 4 4, .row 5 6, .row 6 4, .row 7 5, .row 8 6,DI x21, .row 9 4, .row 10 6, .row 11 4, .row 12 5, .row 13 6] 65),(15, .blk (b5.c c) 24)],16⟩:Sy):Sy) [] [51,76,144,145,173] [32] [18,61,62,63,64,65,66,95,101,103,141] Tryz.func101 rfl rfl rfl (sb 16) (fun sv=> ?_) ?_
 have hm:=he683
 refine co hm (X5 v11 ((⟨c.Night,c.Ballot,c.Value,0⟩:a7))) ?_
 rintro⟨x699,x700⟩ hm
 apply vb hm<;>intro _ hm
 cases hm
 exact Q0.of 16 rfl (tA rfl) ⟨hR rfl,hW rfl,hW rfl,hW rfl,hW rfl,hW rfl,hW rfl,hW rfl,hW rfl,hW rfl,hW rfl,⟨_,rfl,⟨c9h _,c9h _,c9h _,c9h _,c9h _,c9h _,c9h _,c9h _,c9h _,c9h _,c9h _,c9h _,trivial⟩⟩,hR rfl,trivial⟩
 apply vb hm<;>intro _ hm
 cases hm
 exact sb 16
 refine⟨([(⟨c.Night,c.Ballot,c.Value,0⟩:a7)]:List a7).flatMap a7.c,([(⟨c.Night,c.Ballot,c.Value,0⟩:a7)]:List a7).length,⟨rfl,rfl⟩, ?_⟩
 obtain⟨x704,hx705,hm⟩:=b9 hm
 refine .inl (b2N.mk ⟨_,_,_,_,_,_,_,rfl,a1q v11 x699 (([(⟨c.Night,c.Ballot,c.Value,0⟩:a7)]:List a7)) _ hx705, ?_⟩)
 cases hm
 exact sb 16
 rcases ev682 with⟨v673,x674⟩|⟨⟩
 refine⟨rfl, ?_⟩
 refine eb hm fun _ hm=> ?_
 refine er hm fun _ hm=> ?_
 apply vb hm<;>intro _ hm
 refine⟨rfl, ?_⟩
 refine eb hm fun _ hm=> ?_
 refine er hm fun e691 hm=> ?_
 refine cy hm (a4A e691.Mask c.From) fun x693 hm=> ?_
 refine eb hm fun _ hm=> ?_
 obtain⟨e697,hx698,hm⟩:=b9 hm
 refine⟨_,a1M (fun _=>rfl) hx698,_,Q6 (y:=(⟨e697.Night,e697.Ballot,e697.Value,x693⟩:a7)) (fun _=>rfl) hx698, ?_⟩
 cases hm
 exact sb 15
 cases hm
 exact sb 15
 cases hm
 exact sb 15
 obtain⟨v621,x622⟩:=ev663
 apply vb hm<;>intro _ hm
 cases hm
 exact c9j (le1)
 cases hm
 exact c9j (c9h _)
 replace hm:=c0N h587 hm
 cases h706:(c.Kind==5)
 rotate_left
 replace hm:=c0A h706 hm
 refine⟨⟨3,82,by kernel_rfl,by kernel_rfl⟩,65,by simp only [a7O,h39,h260,h354,h587,h706], ?_⟩
 obtain⟨ev752,he753,hm⟩:=b9 hm
 refine M2.ofZ pok ⟨[(0, .own 14 0),(1, .agg (b5.c c)),(1000004, .own 2 0),(1000006, .own 14 0)], [(2, .blk [DI 0,DI 0,nS,nS,nS,nS,nS,DI 0,nS,nS,nS,nS,nS] 38),(4,rE 4 v9 a8.c 87),(5,rE 6 v10 c0.c 67),(6,rE 4 v11 a7.c 89),(7,rE 5 v12 b8.c 73),(8,rE 6 v13 b6.c 78),(9,rE 4 v14 a8.c 87),(10,rE 6 v15 c0.c 67),(11,rE 4 v16 a7.c 89),(12,rE 5 v17 b8.c 73),(13,rE 6 v18 b6.c 78),(14, .blk [DI x19,DI x20, .row 4 4, .row 5 6, .row 6 4, .row 7 5, .row 8 6,DI x21, .row 9 4, .row 10 6, .row 11 4, .row 12 5, .row 13 6] 65)],15⟩ (match ev752 with|(v725,x726)=>(⟨[(4, .own 2 0),(6, .own 14 0),(40,DB x726)], [(2, .blk [DI 0,DI 0,nS,nS,nS,nS,nS,DI 0,nS,nS,nS,nS,nS] 38),(4,rE 4 v9 a8.c 87),(5,rE 6 v10 c0.c 67),(6,rE 4 v11 a7.c 89),(7,rE 5 v12 b8.c 73),(8,rE 6 v725 b6.c 78),(9,rE 4 v14 a8.c 87),(10,rE 6 v15 c0.c 67),(11,rE 4 v16 a7.c 89),(12,rE 5 v17 b8.c 73),(13,rE 6 v18 b6.c 78),(14, .blk [DI x19,DI x20, .row 4 4, .row 5 6, .row 6 4, .row 7 5, .row 8 6,DI x21, .row 9 4, .row 10 6, .row 11 4, .row 12 5, .row 13 6] 65)],15⟩:Sy):Sy) c7O [51,76,144,145,173] [32] [18,61,62,63,64,65,66,95,101,103,141] Tryz.func65 rfl rfl rfl (sb 15) (fun sv=> ?_) ?_
 have hm:=he753
 refine⟨rfl, ?_⟩
 obtain⟨ev771,he772,hm⟩:=b9 hm
 refine M2.ofZ pok ⟨[(0, .row 8 6),(1, .agg [DI c.From,DI c.No,DI c.Thing,DI c.Start,DI c.Until,DB false]),(2,DI 60),(3, .fn 29 [] []),(1000000, .own 14 0),(1000042, .own 2 0),(1000044, .own 14 0)], [(2, .blk [DI 0,DI 0,nS,nS,nS,nS,nS,DI 0,nS,nS,nS,nS,nS] 38),(4,rE 4 v9 a8.c 87),(5,rE 6 v10 c0.c 67),(6,rE 4 v11 a7.c 89),(7,rE 5 v12 b8.c 73),(8,rE 6 v13 b6.c 78),(9,rE 4 v14 a8.c 87),(10,rE 6 v15 c0.c 67),(11,rE 4 v16 a7.c 89),(12,rE 5 v17 b8.c 73),(13,rE 6 v18 b6.c 78),(14, .blk [DI x19,DI x20, .row 4 4, .row 5 6, .row 6 4, .row 7 5, .row 8 6,DI x21, .row 9 4, .row 10 6, .row 11 4, .row 12 5, .row 13 6] 65)],16⟩ (match ev771 with| .inl (v762,x763)=>(⟨[(0, .own 14 0),(26, .tup [.row 8 6,DI x763,DB true]),(1000004, .own 2 0),(1000006, .own 14 0)], [(2, .blk [DI 0,DI 0,nS,nS,nS,nS,nS,DI 0,nS,nS,nS,nS,nS] 38),(4,rE 4 v9 a8.c 87),(5,rE 6 v10 c0.c 67),(6,rE 4 v11 a7.c 89),(7,rE 5 v12 b8.c 73),(8,rE 6 v762 b6.c 78),(9,rE 4 v14 a8.c 87),(10,rE 6 v15 c0.c 67),(11,rE 4 v16 a7.c 89),(12,rE 5 v17 b8.c 73),(13,rE 6 v18 b6.c 78),(14, .blk [DI x19,DI x20, .row 4 4, .row 5 6, .row 6 4, .row 7 5, .bad,DI x21, .row 9 4, .row 10 6, .row 11 4, .row 12 5, .row 13 6] 65)],16⟩:Sy)| .inr _=>(⟨[(0, .own 14 0),(26, .tup [nS,DI 0,DB false]),(1000004, .own 2 0),(1000006, .own 14 0)], [(2, .blk [DI 0,DI 0,nS,nS,nS,nS,nS,DI 0,nS,nS,nS,nS,nS] 38),(4,rE 4 v9 a8.c 87),(5,rE 6 v10 c0.c 67),(6,rE 4 v11 a7.c 89),(7,rE 5 v12 b8.c 73),(8,rE 6 v13 b6.c 78),(9,rE 4 v14 a8.c 87),(10,rE 6 v15 c0.c 67),(11,rE 4 v16 a7.c 89),(12,rE 5 v17 b8.c 73),(13,rE 6 v18 b6.c 78),(14, .blk [DI x19,DI x20, .row 4 4, .row 5 6, .row 6 4, .row 7 5, .row 8 6,DI x21, .row 9 4, .row 10 6, .row 11 4, .row 12 5, .row 13 6] 65)],16⟩:Sy):Sy) [] [51,76,144,145,173] [32] [18,61,62,63,64,65,66,95,101,103,141] Tryz.func103 rfl rfl rfl (sb 16) (fun sv=> ?_) ?_
 have hm:=he772
 refine co hm (L2 v13 ((⟨c.From,c.No,c.Thing,c.Start,c.Until,false⟩:b6))) ?_
 rintro⟨x773,x774⟩ hm
 apply vb hm<;>intro _ hm
 cases hm
 exact Q0.of 16 rfl (tA rfl) ⟨hR rfl,hW rfl,hW rfl,hW rfl,hW rfl,hW rfl,hW rfl,hW rfl,hW rfl,hW rfl,hW rfl,⟨_,rfl,⟨c9h _,c9h _,c9h _,c9h _,c9h _,c9h _,c9h _,c9h _,c9h _,c9h _,c9h _,c9h _,trivial⟩⟩,trivial⟩
 apply vb hm<;>intro _ hm
 cases hm
 exact sb 16
 refine⟨([(⟨c.From,c.No,c.Thing,c.Start,c.Until,false⟩:b6)]:List b6).flatMap b6.c,([(⟨c.From,c.No,c.Thing,c.Start,c.Until,false⟩:b6)]:List b6).length,⟨rfl,rfl⟩, ?_⟩
 obtain⟨x778,hx779,hm⟩:=b9 hm
 refine .inl (b2N.mk ⟨_,_,_,_,_,_,_,rfl,a2y v13 x773 (([(⟨c.From,c.No,c.Thing,c.Start,c.Until,false⟩:b6)]:List b6)) _ hx779, ?_⟩)
 cases hm
 exact sb 16
 rcases ev771 with⟨v762,x763⟩|⟨⟩
 cases hm
 exact sb 15
 cases hm
 exact sb 15
 obtain⟨v725,x726⟩:=ev752
 apply vb hm<;>intro _ hm
 cases hm
 exact c9j (le1)
 cases hm
 exact c9j (c9h _)
 replace hm:=c0N h706 hm
 cases h780:(c.Kind==6)
 rotate_left
 replace hm:=c0A h780 hm
 refine⟨⟨3,82,by kernel_rfl,by kernel_rfl⟩,66,by simp only [a7O,h39,h260,h354,h587,h706,h780], ?_⟩
 obtain⟨ev902,he903,hm⟩:=b9 hm
 refine M2.ofZ pok ⟨[(0, .own 14 0),(1, .agg (b5.c c)),(1000004, .own 2 0),(1000006, .own 14 0)], [(2, .blk [DI 0,DI 0,nS,nS,nS,nS,nS,DI 0,nS,nS,nS,nS,nS] 38),(4,rE 4 v9 a8.c 87),(5,rE 6 v10 c0.c 67),(6,rE 4 v11 a7.c 89),(7,rE 5 v12 b8.c 73),(8,rE 6 v13 b6.c 78),(9,rE 4 v14 a8.c 87),(10,rE 6 v15 c0.c 67),(11,rE 4 v16 a7.c 89),(12,rE 5 v17 b8.c 73),(13,rE 6 v18 b6.c 78),(14, .blk [DI x19,DI x20, .row 4 4, .row 5 6, .row 6 4, .row 7 5, .row 8 6,DI x21, .row 9 4, .row 10 6, .row 11 4, .row 12 5, .row 13 6] 65)],15⟩ (match ev902 with|v821=>(⟨[(4, .own 2 0),(6, .own 14 0),(40,DB true)], [(2, .blk [DI 0,DI 0,nS,nS,nS,nS,nS,DI 0,nS,nS,nS,nS,nS] 38),(4,rE 4 v9 a8.c 87),(5,rE 6 v10 c0.c 67),(6,rE 4 v11 a7.c 89),(7,rE 5 v821 b8.c 73),(8,rE 6 v13 b6.c 78),(9,rE 4 v14 a8.c 87),(10,rE 6 v15 c0.c 67),(11,rE 4 v16 a7.c 89),(12,rE 5 v17 b8.c 73),(13,rE 6 v18 b6.c 78),(14, .blk [DI x19,DI x20, .row 4 4, .row 5 6, .row 6 4, .row 7 5, .row 8 6,DI x21, .row 9 4, .row 10 6, .row 11 4, .row 12 5, .row 13 6] 65)],15⟩:Sy):Sy) c8a [51,76,144,145,173] [32] [18,61,62,63,64,65,66,95,101,103,141] Tryz.func66 rfl rfl rfl (sb 15) (fun sv=> ?_) ?_
 have hm:=he903
 obtain⟨ev962,he,hk963⟩:=b9 hm
 refine c9k (O4 c v12) (fun(v922,v923)=>⟨[(0, .own 14 0),(3, .own 15 0),(13,DI (v12.length:Int)),(14,DI v922),(1000004, .own 2 0),(1000006, .own 14 0)], [(2, .blk [DI 0,DI 0,nS,nS,nS,nS,nS,DI 0,nS,nS,nS,nS,nS] 38),(4,rE 4 v9 a8.c 87),(5,rE 6 v10 c0.c 67),(6,rE 4 v11 a7.c 89),(7,rE 5 v923 b8.c 73),(8,rE 6 v13 b6.c 78),(9,rE 4 v14 a8.c 87),(10,rE 6 v15 c0.c 67),(11,rE 4 v16 a7.c 89),(12,rE 5 v17 b8.c 73),(13,rE 6 v18 b6.c 78),(14, .blk [DI x19,DI x20, .row 4 4, .row 5 6, .row 6 4, .row 7 5, .row 8 6,DI x21, .row 9 4, .row 10 6, .row 11 4, .row 12 5, .row 13 6] 65),(15, .blk (b5.c c) 24)],16⟩) (0,v12) (sb 16) he ?_
 rintro fu964 ⟨v922,v923⟩ b hm hi965
 apply vb hm<;>intro _ hm
 refine eb hm fun _ hm=> ?_
 refine⟨rfl, ?_⟩
 refine er hm fun _ hm=> ?_
 apply vb hm<;>intro _ hm
 refine er hm fun _ hm=> ?_
 apply vb hm<;>intro _ hm
 refine er hm fun _ hm=> ?_
 apply vb hm<;>intro _ hm
 refine⟨rfl, ?_⟩
 refine er hm fun e978 hm=> ?_
 refine er hm fun e980 hm=> ?_
 obtain⟨e982,hx983,hm⟩:=b9 hm
 refine⟨_,a1M (fun _=>rfl) hx983,_,Q6 (y:=(⟨e982.No,e982.Thing,e982.To,e982.From,(if(if e980.From>c.Until then e980.From else c.Until)<e978.Until then(if e980.From>c.Until then e980.From else c.Until)else e978.Until)⟩:b8)) (fun _=>rfl) hx983, ?_⟩
 cases hm
 exact⟨(_,((W (v922+1)),(v923.set v922.toNat (⟨e982.No,e982.Thing,e982.To,e982.From,(if(if e980.From>c.Until then e980.From else c.Until)<e978.Until then(if e980.From>c.Until then e980.From else c.Until)else e978.Until)⟩:b8)))),sb 16,hi965,Nat.lt_succ_self _⟩
 cases hm
 exact⟨(_,((W (v922+1)),v923)),sb 16,hi965,Nat.lt_succ_self _⟩
 cases hm
 exact⟨(_,((W (v922+1)),v923)),sb 16,hi965,Nat.lt_succ_self _⟩
 cases hm
 exact⟨(_,((W (v922+1)),v923)),sb 16,hi965,Nat.lt_succ_self _⟩
 cases hm
 cases hi965
 have hm:=hk963
 cases hm
 exact sb 15
 obtain v821:=ev902
 cases hm
 exact c9j (c9h _)
 replace hm:=c0N h780 hm
 cases hm
def X7 (x:a6):Option (Sum Int (Int×Int×(List a8)×(List c0)×(List a7)×(List b8)×(List b6)×Int×(List a8)×(List c0)×(List a7)×(List b8)×(List b6))):=
 Option.bind (Y8 x) fun x22=>
 if(x22 !=0)=true then
  some (.inl x22)
 else
  Option.bind (C5 x.Now) fun x25=>
  Option.bind (C5 x.Safe) fun x27=>
  some (.inr (x.Me,x25.Round,x25.Slots,x25.Bids,x25.Heard,x25.Leases,x25.Loans,x27.Round,x27.Slots,x27.Bids,x27.Heard,x27.Leases,x27.Loans))
def Y2 (x:a6):Option (a6×Int):=
 Option.bind (X7 x) fun e=>
 match e with
 | .inl x8=>
  if(x8 !=0)=true then
   some ((⟨0,(⟨0, [], [], [], [], []⟩:b7),(⟨0, [], [], [], [], []⟩:b7)⟩:a6),x8)
  else
   none
 | .inr (x9,x10,x11,x12,x13,x14,x15,x16,x17,x18,x19,x20,x21)=>
  Option.bind (C5 (⟨x10,x11,x12,x13,x14,x15⟩:b7)) fun x32=>
  some ((⟨x9,(⟨x10,x11,x12,x13,x14,x15⟩:b7),x32⟩:a6),0)
theorem a7p (x:a6) (r:(a6×Int)) (hm:Y2 x=some r):d7 Tryz.prog 10 [.agg (a6.c x)] (fun x=>x= .tup [.agg (a6.c r.1),DI r.2]):=by
 refine zy [] [] [] [18] Tryz.func10 rfl ?_
 obtain⟨ev29,he30,hm⟩:=b9 hm
 refine M2.ofZ pok ⟨[(0, .agg (a6.c x)),(1000002, .own 1 0)], [(1, .blk [DI 0,DI 0,nS,nS,nS,nS,nS,DI 0,nS,nS,nS,nS,nS] 38)],2⟩ (match ev29 with| .inl x8=>(⟨[(2, .own 1 0),(8, .tup [.v (.pointer none),DI x8])], [(1, .blk [DI 0,DI 0,nS,nS,nS,nS,nS,DI 0,nS,nS,nS,nS,nS] 38)],2⟩:Sy)| .inr (x9,x10,x11,x12,x13,x14,x15,x16,x17,x18,x19,x20,x21)=>(⟨[(2, .own 1 0),(8, .tup [.own 3 0,DI 0])], [(1, .blk [DI 0,DI 0,nS,nS,nS,nS,nS,DI 0,nS,nS,nS,nS,nS] 38),(3, .blk [DI x9,DI x10,lD 4 x11 a8.c,lD 6 x12 c0.c,lD 4 x13 a7.c,lD 5 x14 b8.c,lD 6 x15 b6.c,DI x16,lD 4 x17 a8.c,lD 6 x18 c0.c,lD 4 x19 a7.c,lD 5 x20 b8.c,lD 6 x21 b6.c] 65)],4⟩:Sy):Sy) b8F [] [] [18] Tryz.func18 rfl rfl rfl (sb 2) (fun sv=> ?_) ?_
 have hm:=he30
 refine cy hm (P1 x) fun x34 hm=> ?_
 apply vb hm<;>intro _ hm
 cases hm
 exact sb 2
 refine⟨rfl, ?_⟩
 refine cy hm (M7 x.Now) fun x37 hm=> ?_
 refine cy hm (M7 x.Safe) fun x39 hm=> ?_
 cases hm
 exact sb 4
 rcases ev29 with x8|⟨x9,x10,x11,x12,x13,x14,x15,x16,x17,x18,x19,x20,x21⟩
 apply vb hm<;>intro _ hm
 cases hm
 exact c9j (le1)
 cases hm
 refine cy hm (M7 ((⟨x10,x11,x12,x13,x14,x15⟩:b7))) fun x32 hm=> ?_
 cases hm
 exact c9j (c9h _)
def a3w (x:a6):Option (a6×Int):=
 Option.bind (X7 x) fun e=>
 match e with
 | .inl x8=>
  if(x8 !=0)=true then
   some ((⟨0,(⟨0, [], [], [], [], []⟩:b7),(⟨0, [], [], [], [], []⟩:b7)⟩:a6),x8)
  else
   none
 | .inr (x9,x10,x11,x12,x13,x14,x15,x16,x17,x18,x19,x20,x21)=>
  Option.bind (C5 (⟨x16,x17,x18,x19,x20,x21⟩:b7)) fun x32=>
  some ((⟨x9,x32,(⟨x16,x17,x18,x19,x20,x21⟩:b7)⟩:a6),0)
theorem b4h (x:a6) (r:(a6×Int)) (hm:a3w x=some r):d7 Tryz.prog 11 [.agg (a6.c x)] (fun x=>x= .tup [.agg (a6.c r.1),DI r.2]):=by
 refine zy [] [] [] [18] Tryz.func11 rfl ?_
 obtain⟨ev29,he30,hm⟩:=b9 hm
 refine M2.ofZ pok ⟨[(0, .agg (a6.c x)),(1000002, .own 1 0)], [(1, .blk [DI 0,DI 0,nS,nS,nS,nS,nS,DI 0,nS,nS,nS,nS,nS] 38)],2⟩ (match ev29 with| .inl x8=>(⟨[(2, .own 1 0),(8, .tup [.v (.pointer none),DI x8])], [(1, .blk [DI 0,DI 0,nS,nS,nS,nS,nS,DI 0,nS,nS,nS,nS,nS] 38)],2⟩:Sy)| .inr (x9,x10,x11,x12,x13,x14,x15,x16,x17,x18,x19,x20,x21)=>(⟨[(2, .own 1 0),(8, .tup [.own 3 0,DI 0])], [(1, .blk [DI 0,DI 0,nS,nS,nS,nS,nS,DI 0,nS,nS,nS,nS,nS] 38),(3, .blk [DI x9,DI x10,lD 4 x11 a8.c,lD 6 x12 c0.c,lD 4 x13 a7.c,lD 5 x14 b8.c,lD 6 x15 b6.c,DI x16,lD 4 x17 a8.c,lD 6 x18 c0.c,lD 4 x19 a7.c,lD 5 x20 b8.c,lD 6 x21 b6.c] 65)],4⟩:Sy):Sy) b8F [] [] [18] Tryz.func18 rfl rfl rfl (sb 2) (fun sv=> ?_) ?_
 have hm:=he30
 refine cy hm (P1 x) fun x34 hm=> ?_
 apply vb hm<;>intro _ hm
 cases hm
 exact sb 2
 refine⟨rfl, ?_⟩
 refine cy hm (M7 x.Now) fun x37 hm=> ?_
 refine cy hm (M7 x.Safe) fun x39 hm=> ?_
 cases hm
 exact sb 4
 rcases ev29 with x8|⟨x9,x10,x11,x12,x13,x14,x15,x16,x17,x18,x19,x20,x21⟩
 apply vb hm<;>intro _ hm
 cases hm
 exact c9j (le1)
 cases hm
 refine cy hm (M7 ((⟨x16,x17,x18,x19,x20,x21⟩:b7))) fun x32 hm=> ?_
 cases hm
 exact c9j (c9h _)
def a4M (a:b7) (b_:b7):Int→Option (Sum Int (Sum Int Bool)):=fun i13=>
 if(decide (i13<(a.Slots.length:Int)))=true then
  Option.bind (idx a.Slots i13) fun e21=>
  Option.bind (idx b_.Slots i13) fun e23=>
  if(!((e21.Night==e23.Night)&&((e21.Promised==e23.Promised)&&((e21.Ballot==e23.Ballot)&&(e21.Value==e23.Value)))))=true then
   some (.inr (.inr false))
  else
   some (.inl (W (i13+1)))
 else
  some (.inr (.inl i13))
def a4D (a:b7) (b_:b7):Int→Option (Sum Int (Sum Int Bool)):=fun i33=>
 if(decide (i33<(a.Bids.length:Int)))=true then
  Option.bind (idx a.Bids i33) fun e41=>
  Option.bind (idx b_.Bids i33) fun e43=>
  if(!((e41.Night==e43.Night)&&((e41.Ballot==e43.Ballot)&&((e41.Value==e43.Value)&&((e41.Best==e43.Best)&&((e41.Mask==e43.Mask)&&(e41.Asked==e43.Asked)))))))=true then
   some (.inr (.inr false))
  else
   some (.inl (W (i33+1)))
 else
  some (.inr (.inl i33))
def a4L (a:b7) (b_:b7):Int→Option (Sum Int (Sum Int Bool)):=fun i53=>
 if(decide (i53<(a.Heard.length:Int)))=true then
  Option.bind (idx a.Heard i53) fun e61=>
  Option.bind (idx b_.Heard i53) fun e63=>
  if(!((e61.Night==e63.Night)&&((e61.Ballot==e63.Ballot)&&((e61.Value==e63.Value)&&(e61.Mask==e63.Mask)))))=true then
   some (.inr (.inr false))
  else
   some (.inl (W (i53+1)))
 else
  some (.inr (.inl i53))
def a5c (a:b7) (b_:b7):Int→Option (Sum Int (Sum Int Bool)):=fun i73=>
 if(decide (i73<(a.Leases.length:Int)))=true then
  Option.bind (idx a.Leases i73) fun e81=>
  Option.bind (idx b_.Leases i73) fun e83=>
  if(!((e81.No==e83.No)&&((e81.Thing==e83.Thing)&&((e81.To==e83.To)&&((e81.From==e83.From)&&(e81.Until==e83.Until))))))=true then
   some (.inr (.inr false))
  else
   some (.inl (W (i73+1)))
 else
  some (.inr (.inl i73))
def a4t (a:b7) (b_:b7):Int→Option (Sum Int (Sum Int Bool)):=fun i93=>
 if(decide (i93<(a.Loans.length:Int)))=true then
  Option.bind (idx a.Loans i93) fun e101=>
  Option.bind (idx b_.Loans i93) fun e103=>
  if(!((e101.Owner==e103.Owner)&&((e101.No==e103.No)&&((e101.Thing==e103.Thing)&&((e101.From==e103.From)&&((e101.Until==e103.Until)&&(e101.Back==e103.Back)))))))=true then
   some (.inr (.inr false))
  else
   some (.inl (W (i93+1)))
 else
  some (.inr (.inl i93))
def I9 (a:b7) (b_:b7):Option Bool:=
 if(a.Round !=b_.Round)=true then
  some false
 else
  if((a.Slots.length:Int) !=(b_.Slots.length:Int))=true then
   some false
  else
   if((a.Bids.length:Int) !=(b_.Bids.length:Int))=true then
    some false
   else
    if((a.Heard.length:Int) !=(b_.Heard.length:Int))=true then
     some false
    else
     if((a.Leases.length:Int) !=(b_.Leases.length:Int))=true then
      some false
     else
      if((a.Loans.length:Int) !=(b_.Loans.length:Int))=true then
       some false
      else
       Option.bind (j4 (a4M a b_) 0) fun e=>
       match e with
       | .inl i26=>
        Option.bind (j4 (a4D a b_) 0) fun e=>
        match e with
        | .inl i46=>
         Option.bind (j4 (a4L a b_) 0) fun e=>
         match e with
         | .inl i66=>
          Option.bind (j4 (a5c a b_) 0) fun e=>
          match e with
          | .inl i86=>
           Option.bind (j4 (a4t a b_) 0) fun e=>
           match e with
           | .inl i106=>
            some true
           | .inr rr107=>
            some rr107
          | .inr rr118=>
           some rr118
         | .inr rr160=>
          some rr160
        | .inr rr264=>
         some rr264
       | .inr rr492=>
        some rr492
theorem P9 (a:b7) (b_:b7) (r:Bool) (hm:I9 a b_=some r):d7 Tryz.prog 12 [.agg (b7.c a), .agg (b7.c b_)] (fun x=>x=DB r):=by
 refine zy c8A [] [] [] Tryz.func12 rfl ?_
 apply vb hm<;>intro _ hm
 exact hm.rr
 apply vb hm<;>intro _ hm
 exact hm.rr
 apply vb hm<;>intro _ hm
 exact hm.rr
 apply vb hm<;>intro _ hm
 exact hm.rr
 apply vb hm<;>intro _ hm
 exact hm.rr
 apply vb hm<;>intro _ hm
 exact hm.rr
 obtain⟨ev493,he,hk494⟩:=b9 hm
 refine c9k (a4M a b_) (fun i13=>⟨[(2, .own 0 0),(3, .own 1 0),(5,DI i13)], [(0, .blk (b7.c a) 36),(1, .blk (b7.c b_) 36)],2⟩) 0 (sb 2) he ?_
 rintro fu495 i13 b hm hi496
 apply vb hm<;>intro _ hm
 refine⟨rfl, ?_⟩
 refine ei hm fun _ hm=> ?_
 refine ei hm fun _ hm=> ?_
 apply vb hm<;>intro _ hm
 cases hm
 cases hi496
 have hm:=hk494
 exact hm.rr
 cases hm
 exact⟨(_,(W (i13+1))),sb 2,hi496,Nat.lt_succ_self _⟩
 cases hm
 cases hi496
 have hm:=hk494
 obtain⟨ev741,he,hk742⟩:=b9 hm
 refine c9k (a4D a b_) (fun i509=>⟨[(2, .own 0 0),(3, .own 1 0),(6,DI i509)], [(0, .blk (b7.c a) 36),(1, .blk (b7.c b_) 36)],2⟩) 0 (sb 2) he ?_
 rintro fu743 i509 b hm hi744
 apply vb hm<;>intro _ hm
 refine⟨rfl, ?_⟩
 refine ei hm fun _ hm=> ?_
 refine ei hm fun _ hm=> ?_
 apply vb hm<;>intro _ hm
 cases hm
 cases hi744
 have hm:=hk742
 exact hm.rr
 cases hm
 exact⟨(_,(W (i509+1))),sb 2,hi744,Nat.lt_succ_self _⟩
 cases hm
 cases hi744
 have hm:=hk742
 obtain⟨ev865,he,hk866⟩:=b9 hm
 refine c9k (a4L a b_) (fun i757=>⟨[(2, .own 0 0),(3, .own 1 0),(7,DI i757)], [(0, .blk (b7.c a) 36),(1, .blk (b7.c b_) 36)],2⟩) 0 (sb 2) he ?_
 rintro fu867 i757 b hm hi868
 apply vb hm<;>intro _ hm
 refine⟨rfl, ?_⟩
 refine ei hm fun _ hm=> ?_
 refine ei hm fun _ hm=> ?_
 apply vb hm<;>intro _ hm
 cases hm
 cases hi868
 have hm:=hk866
 exact hm.rr
 cases hm
 exact⟨(_,(W (i757+1))),sb 2,hi868,Nat.lt_succ_self _⟩
 cases hm
 cases hi868
 have hm:=hk866
 obtain⟨ev927,he,hk928⟩:=b9 hm
 refine c9k (a5c a b_) (fun i881=>⟨[(2, .own 0 0),(3, .own 1 0),(8,DI i881)], [(0, .blk (b7.c a) 36),(1, .blk (b7.c b_) 36)],2⟩) 0 (sb 2) he ?_
 rintro fu929 i881 b hm hi930
 apply vb hm<;>intro _ hm
 refine⟨rfl, ?_⟩
 refine ei hm fun _ hm=> ?_
 refine ei hm fun _ hm=> ?_
 apply vb hm<;>intro _ hm
 cases hm
 cases hi930
 have hm:=hk928
 exact hm.rr
 cases hm
 exact⟨(_,(W (i881+1))),sb 2,hi930,Nat.lt_succ_self _⟩
 cases hm
 cases hi930
 have hm:=hk928
 obtain⟨ev958,he,hk959⟩:=b9 hm
 refine c9k (a4t a b_) (fun i943=>⟨[(2, .own 0 0),(3, .own 1 0),(9,DI i943)], [(0, .blk (b7.c a) 36),(1, .blk (b7.c b_) 36)],2⟩) 0 (sb 2) he ?_
 rintro fu960 i943 b hm hi961
 apply vb hm<;>intro _ hm
 refine⟨rfl, ?_⟩
 refine ei hm fun _ hm=> ?_
 refine ei hm fun _ hm=> ?_
 apply vb hm<;>intro _ hm
 cases hm
 cases hi961
 have hm:=hk959
 exact hm.rr
 cases hm
 exact⟨(_,(W (i943+1))),sb 2,hi961,Nat.lt_succ_self _⟩
 cases hm
 cases hi961
 have hm:=hk959
 exact hm.rr
def E5 (x:a6) (y:a6):Option Bool:=
 Option.bind (Y8 y) fun x1=>
 if(x1==0)=true then
  if(y.Me==x.Me)=true then
   Option.bind (I9 x.Safe y.Safe) fun x5=>
   some x5
  else
   some false
 else
  some false
theorem L0 (x:a6) (y:a6) (r:Bool) (hm:E5 x y=some r):d7 Tryz.prog 13 [.agg (a6.c x), .agg (a6.c y)] (fun x=>x=DB r):=by
 refine zn Tryz.func13 rfl ?_
 refine cy hm (P1 y) fun x1 hm=> ?_
 apply vb hm<;>intro _ hm
 apply vb hm<;>intro _ hm
 refine cy hm (P9 x.Safe y.Safe) fun x5 hm=> ?_
 exact hm.rr
 exact hm.rr
 exact hm.rr
def a5a (a:a6) (b_:a6):Option Bool:=
 if(a.Me==b_.Me)=true then
  Option.bind (I9 a.Now b_.Now) fun x2=>
  if x2=true then
   Option.bind (I9 a.Safe b_.Safe) fun x5=>
   some x5
  else
   some false
 else
  some false
theorem b9G (a:a6) (b_:a6) (r:Bool) (hm:a5a a b_=some r):d7 Tryz.prog 14 [.agg (a6.c a), .agg (a6.c b_)] (fun x=>x=DB r):=by
 refine zn Tryz.func14 rfl ?_
 apply vb hm<;>intro _ hm
 refine cy hm (P9 a.Now b_.Now) fun x2 hm=> ?_
 apply vb hm<;>intro _ hm
 refine cy hm (P9 a.Safe b_.Safe) fun x5 hm=> ?_
 exact hm.rr
 exact hm.rr
 exact hm.rr
def a2J (me:Int):Option (a6×Int):=
 Option.bind (u7 me) fun x1=>
 if(!x1)=true then
  some ((⟨0,(⟨0, [], [], [], [], []⟩:b7),(⟨0, [], [], [], [], []⟩:b7)⟩:a6),1)
 else
  some ((⟨me,(⟨0, [], [], [], [], []⟩:b7),(⟨0, [], [], [], [], []⟩:b7)⟩:a6),0)
theorem a6x (me:Int) (r:(a6×Int)) (hm:a2J me=some r):d7 Tryz.prog 37 [DI me] (fun x=>x= .tup [.agg (a6.c r.1),DI r.2]):=by
 refine zn Tryz.func37 rfl ?_
 refine cy hm (A2 me) fun x1 hm=> ?_
 apply vb hm<;>intro _ hm
 cases hm
 exact c9j (le1)
 cases hm
 exact c9j (le1)
def b0d:(Bool×Int×Int×Int×(List a8)×(List c0)×(List a7)×(List b8)×(List b6)×Int×(List a8)×(List c0)×(List a7)×(List b8)×(List b6))→Option (Sum (Bool×Int×Int×Int×(List a8)×(List c0)×(List a7)×(List b8)×(List b6)×Int×(List a8)×(List c0)×(List a7)×(List b8)×(List b6)) (Bool×Int×Int×Int×(List a8)×(List c0)×(List a7)×(List b8)×(List b6)×Int×(List a8)×(List c0)×(List a7)×(List b8)×(List b6))):=fun(ok12,d13,v14,v15,v16,v17,v18,v19,v20,v21,v22,v23,v24,v25,v26)=>
 if(decide (d13≤3))=true then
  Option.bind (N9 (⟨v14,(⟨v15,v16,v17,v18,v19,v20⟩:b7),(⟨v21,v22,v23,v24,v25,v26⟩:b7)⟩:a6) (⟨2,d13,1,4,7,0,0,0,0,0,0⟩:b5)) fun⟨x33,x34⟩=>
  if ok12=true then
   some (.inl ((x34==0),(W (d13+1)),x33.Me,x33.Now.Round,x33.Now.Slots,x33.Now.Bids,x33.Now.Heard,x33.Now.Leases,x33.Now.Loans,x33.Safe.Round,x33.Safe.Slots,x33.Safe.Bids,x33.Safe.Heard,x33.Safe.Leases,x33.Safe.Loans))
  else
   some (.inl (false,(W (d13+1)),x33.Me,x33.Now.Round,x33.Now.Slots,x33.Now.Bids,x33.Now.Heard,x33.Now.Leases,x33.Now.Loans,x33.Safe.Round,x33.Safe.Slots,x33.Safe.Bids,x33.Safe.Heard,x33.Safe.Leases,x33.Safe.Loans))
 else
  some (.inr (ok12,d13,v14,v15,v16,v17,v18,v19,v20,v21,v22,v23,v24,v25,v26))
def a9F:(Int×Int×Int×(List a8)×(List c0)×(List a7)×(List b8)×(List b6)×Int×(List a8)×(List c0)×(List a7)×(List b8)×(List b6))→Option (Sum (Int×Int×Int×(List a8)×(List c0)×(List a7)×(List b8)×(List b6)×Int×(List a8)×(List c0)×(List a7)×(List b8)×(List b6)) (Int×Int×Int×(List a8)×(List c0)×(List a7)×(List b8)×(List b6)×Int×(List a8)×(List c0)×(List a7)×(List b8)×(List b6))):=fun(d64,v65,v66,v67,v68,v69,v70,v71,v72,v73,v74,v75,v76,v77)=>
 if(decide (d64≤3))=true then
  Option.bind (N9 (⟨v65,(⟨v66,v67,v68,v69,v70,v71⟩:b7),(⟨v72,v73,v74,v75,v76,v77⟩:b7)⟩:a6) (⟨2,d64,1,4,7,0,0,0,0,0,0⟩:b5)) fun⟨x83,x84⟩=>
  some (.inl ((W (d64+1)),x83.Me,x83.Now.Round,x83.Now.Slots,x83.Now.Bids,x83.Now.Heard,x83.Now.Leases,x83.Now.Loans,x83.Safe.Round,x83.Safe.Slots,x83.Safe.Bids,x83.Safe.Heard,x83.Safe.Leases,x83.Safe.Loans))
 else
  some (.inr (d64,v65,v66,v67,v68,v69,v70,v71,v72,v73,v74,v75,v76,v77))
def b1a:Option (a6×Bool):=
 Option.bind (a2J 1) fun⟨x1,x2⟩=>
 Option.bind (Y4 x1 4 77) fun⟨x4,x5⟩=>
 if(x2==0)=true then
  Option.bind (j4 b0d ((x5==0),1,x4.Me,x4.Now.Round,x4.Now.Slots,x4.Now.Bids,x4.Now.Heard,x4.Now.Leases,x4.Now.Loans,x4.Safe.Round,x4.Safe.Slots,x4.Safe.Bids,x4.Safe.Heard,x4.Safe.Leases,x4.Safe.Loans)) fun(ok37,d38,v39,v40,v41,v42,v43,v44,v45,v46,v47,v48,v49,v50,v51)=>
  some ((⟨v39,(⟨v40,v41,v42,v43,v44,v45⟩:b7),(⟨v46,v47,v48,v49,v50,v51⟩:b7)⟩:a6),ok37)
 else
  Option.bind (j4 a9F (1,x4.Me,x4.Now.Round,x4.Now.Slots,x4.Now.Bids,x4.Now.Heard,x4.Now.Leases,x4.Now.Loans,x4.Safe.Round,x4.Safe.Slots,x4.Safe.Bids,x4.Safe.Heard,x4.Safe.Leases,x4.Safe.Loans)) fun(d86,v87,v88,v89,v90,v91,v92,v93,v94,v95,v96,v97,v98,v99)=>
  some ((⟨v87,(⟨v88,v89,v90,v91,v92,v93⟩:b7),(⟨v94,v95,v96,v97,v98,v99⟩:b7)⟩:a6),false)
theorem c0P (r:(a6×Bool)) (hm:b1a=some r):d7 Tryz.prog 34 [] (fun x=>x= .tup [.agg (a6.c r.1),DB r.2]):=by
 refine zn Tryz.func34 rfl ?_
 refine cy hm (a6x 1) ?_
 rintro⟨x1,x2⟩ hm
 refine cy hm (a6h x1 4 77) ?_
 rintro⟨x4,x5⟩ hm
 apply vb hm<;>intro _ hm
 obtain⟨ev52,he,hk53⟩:=b9 hm
 refine c9k b0d (fun(ok12,d13,v14,v15,v16,v17,v18,v19,v20,v21,v22,v23,v24,v25,v26)=>⟨[(0, .own 0 0),(4, .own 2 0),(6,DB ok12),(7,DI d13)], [(0, .blk [DI 0,DI 0,nS,nS,nS,nS,nS,DI 0,nS,nS,nS,nS,nS] 38),(2, .blk [DI v14,DI v15,lD 4 v16 a8.c,lD 6 v17 c0.c,lD 4 v18 a7.c,lD 5 v19 b8.c,lD 6 v20 b6.c,DI v21,lD 4 v22 a8.c,lD 6 v23 c0.c,lD 4 v24 a7.c,lD 5 v25 b8.c,lD 6 v26 b6.c] 38)],3⟩) ((x5==0),1,x4.Me,x4.Now.Round,x4.Now.Slots,x4.Now.Bids,x4.Now.Heard,x4.Now.Leases,x4.Now.Loans,x4.Safe.Round,x4.Safe.Slots,x4.Safe.Bids,x4.Safe.Heard,x4.Safe.Leases,x4.Safe.Loans) (sb 3) he ?_
 rintro fu54 ⟨ok12,d13,v14,v15,v16,v17,v18,v19,v20,v21,v22,v23,v24,v25,v26⟩ b hm hi55
 apply vb hm<;>intro _ hm
 refine cy hm (a1B ((⟨v14,(⟨v15,v16,v17,v18,v19,v20⟩:b7),(⟨v21,v22,v23,v24,v25,v26⟩:b7)⟩:a6)) ((⟨2,d13,1,4,7,0,0,0,0,0,0⟩:b5))) ?_
 rintro⟨x57,x58⟩ hm
 apply vb hm<;>intro _ hm
 cases hm
 exact⟨(_,((x58==0),(W (d13+1)),x57.Me,x57.Now.Round,x57.Now.Slots,x57.Now.Bids,x57.Now.Heard,x57.Now.Leases,x57.Now.Loans,x57.Safe.Round,x57.Safe.Slots,x57.Safe.Bids,x57.Safe.Heard,x57.Safe.Leases,x57.Safe.Loans)),sb 3,hi55,Nat.lt_succ_self _⟩
 cases hm
 exact⟨(_,(false,(W (d13+1)),x57.Me,x57.Now.Round,x57.Now.Slots,x57.Now.Bids,x57.Now.Heard,x57.Now.Leases,x57.Now.Loans,x57.Safe.Round,x57.Safe.Slots,x57.Safe.Bids,x57.Safe.Heard,x57.Safe.Leases,x57.Safe.Loans)),sb 3,hi55,Nat.lt_succ_self _⟩
 cases hm
 cases hi55
 have hm:=hk53
 cases hm
 exact c9j (c9h _)
 obtain⟨ev100,he,hk101⟩:=b9 hm
 refine c9k a9F (fun(d64,v65,v66,v67,v68,v69,v70,v71,v72,v73,v74,v75,v76,v77)=>⟨[(0, .own 0 0),(4, .own 2 0),(6,DB false),(7,DI d64)], [(0, .blk [DI 0,DI 0,nS,nS,nS,nS,nS,DI 0,nS,nS,nS,nS,nS] 38),(2, .blk [DI v65,DI v66,lD 4 v67 a8.c,lD 6 v68 c0.c,lD 4 v69 a7.c,lD 5 v70 b8.c,lD 6 v71 b6.c,DI v72,lD 4 v73 a8.c,lD 6 v74 c0.c,lD 4 v75 a7.c,lD 5 v76 b8.c,lD 6 v77 b6.c] 38)],3⟩) (1,x4.Me,x4.Now.Round,x4.Now.Slots,x4.Now.Bids,x4.Now.Heard,x4.Now.Leases,x4.Now.Loans,x4.Safe.Round,x4.Safe.Slots,x4.Safe.Bids,x4.Safe.Heard,x4.Safe.Leases,x4.Safe.Loans) (sb 3) he ?_
 rintro fu102 ⟨d64,v65,v66,v67,v68,v69,v70,v71,v72,v73,v74,v75,v76,v77⟩ b hm hi103
 apply vb hm<;>intro _ hm
 refine cy hm (a1B ((⟨v65,(⟨v66,v67,v68,v69,v70,v71⟩:b7),(⟨v72,v73,v74,v75,v76,v77⟩:b7)⟩:a6)) ((⟨2,d64,1,4,7,0,0,0,0,0,0⟩:b5))) ?_
 rintro⟨x105,x106⟩ hm
 cases hm
 exact⟨(_,((W (d64+1)),x105.Me,x105.Now.Round,x105.Now.Slots,x105.Now.Bids,x105.Now.Heard,x105.Now.Leases,x105.Now.Loans,x105.Safe.Round,x105.Safe.Slots,x105.Safe.Bids,x105.Safe.Heard,x105.Safe.Leases,x105.Safe.Loans)),sb 3,hi103,Nat.lt_succ_self _⟩
 cases hm
 cases hi103
 have hm:=hk101
 cases hm
 exact c9j (c9h _)
def a5j (p:K6) (to_:Int):Option (K6×Int):=
 some (p,to_)
theorem b0i (p:K6) (to_:Int) (r:(K6×Int)) (hm:a5j p to_=some r):d7 Tryz.prog 74 [.ptr (K6.c p) 0,DI to_] (fun x=>x= .fn 124 [] [.ptr [.ptr (K6.c r.1) 0] 0, .ptr [DI r.2] 0]):=by
 refine zn Tryz.func74 rfl ?_
 cases hm
 exact c9j (c9h _)
def i4 (x:b5):List D:= [.agg (b5.c x)]
def a2w (c_0:K6) (c_1:Int):Int→Option (List b5×Sum Int Int):=fun v7=>
 if(decide (v7<(c_0.Station.Safe.Bids.length:Int)))=true then
  Option.bind (idx c_0.Station.Safe.Bids v7) fun e15=>
  if e15.Asked=true then
   emit (⟨3,c_0.Station.Me,c_1,e15.Night,e15.Ballot,0,e15.Value,0,0,0,0⟩:b5)<|
   some ([], .inl (W (v7+1)))
  else
   emit (⟨1,c_0.Station.Me,c_1,e15.Night,e15.Ballot,0,0,0,0,0,0⟩:b5)<|
   some ([], .inl (W (v7+1)))
 else
  some ([], .inr v7)
def a2p (c_0:K6) (c_1:Int):Int→Option (List b5×Sum Int Int):=fun v35=>
 if(decide (v35<(c_0.Station.Safe.Slots.length:Int)))=true then
  Option.bind (idx c_0.Station.Safe.Slots v35) fun e51=>
  Option.bind (d8 e51.Promised) fun x53=>
  if(x53==c_1)=true then
   if(decide (e51.Promised>e51.Ballot))=true then
    emit (⟨2,c_0.Station.Me,c_1,e51.Night,e51.Promised,e51.Ballot,e51.Value,0,0,0,0⟩:b5)<|
    if(e51.Ballot !=0)=true then
     emit (⟨4,c_0.Station.Me,c_1,e51.Night,e51.Ballot,0,e51.Value,0,0,0,0⟩:b5)<|
     some ([], .inl (W (v35+1)))
    else
     some ([], .inl (W (v35+1)))
   else
    if(e51.Ballot !=0)=true then
     emit (⟨4,c_0.Station.Me,c_1,e51.Night,e51.Ballot,0,e51.Value,0,0,0,0⟩:b5)<|
     some ([], .inl (W (v35+1)))
    else
     some ([], .inl (W (v35+1)))
  else
   if(e51.Ballot !=0)=true then
    emit (⟨4,c_0.Station.Me,c_1,e51.Night,e51.Ballot,0,e51.Value,0,0,0,0⟩:b5)<|
    some ([], .inl (W (v35+1)))
   else
    some ([], .inl (W (v35+1)))
 else
  some ([], .inr v35)
def a2e (c_0:K6) (c_1:Int):Int→Option (List b5×Sum Int Int):=fun v70=>
 if(decide (v70<(c_0.Station.Safe.Leases.length:Int)))=true then
  Option.bind (idx c_0.Station.Safe.Leases v70) fun e77=>
  if(e77.To==c_1)=true then
   emit (⟨5,c_0.Station.Me,c_1,0,0,0,0,e77.No,e77.Thing,e77.From,e77.Until⟩:b5)<|
   some ([], .inl (W (v70+1)))
  else
   some ([], .inl (W (v70+1)))
 else
  some ([], .inr v70)
def a2c (c_0:K6) (c_1:Int):Int→Option (List b5×Sum Int Int):=fun v88=>
 if(decide (v88<(c_0.Station.Safe.Loans.length:Int)))=true then
  Option.bind (idx c_0.Station.Safe.Loans v88) fun e96=>
  if(e96.Owner==c_1)=true then
   if e96.Back=true then
    emit (⟨6,c_0.Station.Me,c_1,0,0,0,0,e96.No,e96.Thing,0,e96.Until⟩:b5)<|
    some ([], .inl (W (v88+1)))
   else
    some ([], .inl (W (v88+1)))
  else
   some ([], .inl (W (v88+1)))
 else
  some ([], .inr v88)
def a3B (c_0:K6) (c_1:Int):Option (List b5×Unit):=
 b4U (b6h (a2w c_0 c_1) 0) fun v20=>
 b4U (b6h (a2p c_0 c_1) 0) fun v64=>
 b4U (b6h (a2e c_0 c_1) 0) fun v81=>
 b4U (b6h (a2c c_0 c_1) 0) fun v101=>
 some ([],())
def c5N:List (Nat×PT):= [(3, .of [(0, [],true),(1, [],false),(2, [],false),(3, [],false),(4, [],true),(5, [],true),(6, [],false),(7, [],true),(8, [],false),(9, [],true),(10, [],false),(11, [],false),(12, [],false)]),(5, .of [(0, [],false),(1, [],false),(2, [],false),(3, [1],false),(4, [],false),(5, [],false)]),(11, .of [(0, [],false),(1, [],false),(3, [],false),(2, [3],true),(4, [],false),(5, [],false),(6, [],false),(7, [],false),(8, [],false),(9, [],false),(10, [],false),(11, [],false),(12, [],false),(13, [],false),(14, [],false),(15, [],false),(16, [],false),(17, [],false),(18, [],false),(19, [],false),(20, [],false),(21, [],false),(22, [],false),(23, [],false),(24, [],false),(25, [],false),(26, [],false),(27, [],false),(28, [],false)]),(12, .of [(0, [],false),(1, [],false),(2, [],false),(3, [],false),(4, [],false),(5, [],false),(6, [],false),(7, [],false),(8, [],false),(9, [],false),(10, [],false),(11, [],false),(12, [],false),(13, [],false),(14, [],false),(15, [],false),(16, [],false),(17, [],false)]),(17, .of [(0, [],false),(1, [],false),(2, [],false),(3, [],false),(4, [],false),(5, [],false),(6, [],false),(7, [],false),(8, [],false),(9, [],false),(10, [],false),(11, [],false),(12, [],false),(13, [],false),(14, [],false),(15, [],false),(16, [],false),(17, [],false),(18, [],false),(19, [],false),(20, [],false)]),(22, .of [(0, [],false),(1, [],false),(2, [],false),(3, [],false),(4, [],false),(5, [],false),(6, [],false),(7, [],false),(8, [],false),(9, [],false),(10, [],false),(11, [],false),(12, [],false),(13, [],false),(14, [],false),(15, [],false),(16, [],false),(17, [],false),(18, [],false),(19, [],false),(20, [],false),(21, [],false),(22, [],false)])]
theorem a8v (c_0:K6) (c_1:Int) (xs:List b5) (hm:a3B c_0 c_1=some (xs,())):a9e Tryz.prog 124 [.ptr [.ptr (K6.c c_0) 0] 0, .ptr [DI c_1] 0] (xs.map i4):=by
 refine c3G (X:=⟨Tryz.prog,tt,Tryz.f124.ntmps,c5N, [], [], [], [], []⟩) pok _ _ [(11,29),(12,18),(17,21),(22,23)] Tryz.func124 rfl rfl (Nat.le_of_ble_eq_true rfl) rfl ?_
 intro l
 obtain⟨r,hr⟩:∃r:List b5×Unit,r=(xs,()):=⟨_,rfl⟩
 rw [←hr]at hm
 have hp:Hp3 i4 [] r.1 [] (xs.map i4):=⟨by rw [hr];simp⟩
 clear hr
 obtain⟨ev290,rr294,he,hk291,hb1,hb2⟩:=a6A hm
 replace hp:=hp.in1 hb1
 clear hb1 hb2
 refine a8B.of (fun(lpx:Nat×Int)=>match lpx with|(fu292,v7)=>(⟨[(0, .v (.func (.yield l) #[] #[])),(1, .ptr [.ptr (K6.c c_0) 0] 0),(2, .ptr [DI c_1] 0),(18,lD 6 c_0.Station.Safe.Bids c0.c),(19,DI (c_0.Station.Safe.Bids.length:Int)),(20,DI v7)], [],0⟩:Sy)) (fun lpx q=>∃e,a6m (a2w c_0 c_1) lpx.1 lpx.2=some e∧Hp3 i4 q e.1 _ _∧e.2=ev290.2) (fun lpx=>lpx.1) (a7j,0) ⟨_,he,hp,rfl⟩ (sb 0) ?_
 clear hp he
 rintro⟨fu292,v7⟩ q ⟨el296,hi293,hp,hx297⟩
 obtain⟨fu292,b,tl,rfl,hm,hb1,hi293⟩:=a6k hi293
 replace hp:=hp.in1 hb1
 clear hb1
 have hq:b.2=b.2:=rfl
 apply vb hm<;>intro _ hm
 refine ei hm fun e300 hm=> ?_
 refine⟨rfl, ?_⟩
 apply vb hm<;>intro _ hm
 refine⟨rfl, ?_⟩
 obtain⟨rb303,hm,hb1,hb2⟩:=a2v hm
 refine a1o.of (x':=i4 (⟨3,c_0.Station.Me,c_1,e300.Night,e300.Ballot,0,e300.Value,0,0,0,0⟩:b5)) rfl rfl (c9j (c9h _)) (hp.pre hb1) ?_ ?_
 replace hp:=hp.emit hb1
 replace hq:=hq.trans hb2
 cases hm
 rw [hq]at hi293
 obtain⟨e2,hm,rfl,ht⟩:=hi293
 exact⟨(fu292,(W (v7+1))),_,sb 0,rfl,⟨_,hm,hp.out rfl,ht.symm.trans hx297⟩,Nat.lt_succ_self _⟩
 exact .inl rfl
 obtain⟨rb304,hm,hb1,hb2⟩:=a2v hm
 refine a1o.of (x':=i4 (⟨1,c_0.Station.Me,c_1,e300.Night,e300.Ballot,0,0,0,0,0,0⟩:b5)) rfl rfl (c9j (c9h _)) (hp.pre hb1) ?_ ?_
 replace hp:=hp.emit hb1
 replace hq:=hq.trans hb2
 cases hm
 rw [hq]at hi293
 obtain⟨e2,hm,rfl,ht⟩:=hi293
 exact⟨(fu292,(W (v7+1))),_,sb 0,rfl,⟨_,hm,hp.out rfl,ht.symm.trans hx297⟩,Nat.lt_succ_self _⟩
 exact .inl rfl
 cases hm
 rw [hq]at hi293
 obtain⟨rfl,ht⟩:=hi293
 replace hp:=(hp.out (l':= []) rfl).out rfl
 have hm:=hk291
 try rw [←hx297,ht]at hm
 clear hq
 obtain⟨ev450,rr454,he,hk451,hb1,hb2⟩:=a6A hm
 replace hp:=hp.in1 hb1
 clear hb1 hb2
 refine a8B.of (fun(lpx:Nat×Int)=>match lpx with|(fu452,v319)=>(⟨[(0, .v (.func (.yield l) #[] #[])),(1, .ptr [.ptr (K6.c c_0) 0] 0),(2, .ptr [DI c_1] 0),(18,lD 6 c_0.Station.Safe.Bids c0.c),(19,DI (c_0.Station.Safe.Bids.length:Int)),(20,DI v7),(21,DB (decide (v7<(c_0.Station.Safe.Bids.length:Int)))),(51,lD 4 c_0.Station.Safe.Slots a8.c),(52,DI (c_0.Station.Safe.Slots.length:Int)),(53,DI v319)], [],0⟩:Sy)) (fun lpx q=>∃e,a6m (a2p c_0 c_1) lpx.1 lpx.2=some e∧Hp3 i4 q e.1 _ _∧e.2=ev450.2) (fun lpx=>lpx.1) (a7j,0) ⟨_,he,hp,rfl⟩ (sb 0) ?_
 clear hp he
 rintro⟨fu452,v319⟩ q ⟨el456,hi453,hp,hx457⟩
 obtain⟨fu452,b,tl,rfl,hm,hb1,hi453⟩:=a6k hi453
 replace hp:=hp.in1 hb1
 clear hb1
 have hq:b.2=b.2:=rfl
 apply vb hm<;>intro _ hm
 refine ei hm fun e460 hm=> ?_
 refine⟨rfl,rfl, ?_⟩
 refine cy hm (j2 e460.Promised) fun x462 hm=> ?_
 apply vb hm<;>intro _ hm
 apply vb hm<;>intro _ hm
 obtain⟨rb468,hm,hb1,hb2⟩:=a2v hm
 refine a1o.fz [0] rfl (a9u.of (x':=i4 (⟨2,c_0.Station.Me,c_1,e460.Night,e460.Promised,e460.Ballot,e460.Value,0,0,0,0⟩:b5)) rfl rfl (c9j (c9h _)) (hp.pre hb1) ?_ ?_)
 replace hp:=hp.emit hb1
 replace hq:=hq.trans hb2
 refine⟨rfl,rfl, ?_⟩
 apply vb hm<;>intro _ hm
 obtain⟨rb467,hm,hb1,hb2⟩:=a2v hm
 refine a1o.of (x':=i4 (⟨4,c_0.Station.Me,c_1,e460.Night,e460.Ballot,0,e460.Value,0,0,0,0⟩:b5)) rfl rfl (c9j (c9h _)) (hp.pre hb1) ?_ ?_
 replace hp:=hp.emit hb1
 replace hq:=hq.trans hb2
 cases hm
 rw [hq]at hi453
 obtain⟨e2,hm,rfl,ht⟩:=hi453
 exact⟨(fu452,(W (v319+1))),_,sb 0,rfl,⟨_,hm,hp.out rfl,ht.symm.trans hx457⟩,Nat.lt_succ_self _⟩
 exact .inl rfl
 cases hm
 rw [hq]at hi453
 obtain⟨e2,hm,rfl,ht⟩:=hi453
 exact⟨(fu452,(W (v319+1))),_,sb 0,rfl,⟨_,hm,hp.out rfl,ht.symm.trans hx457⟩,Nat.lt_succ_self _⟩
 exact .inl rfl
 refine⟨rfl,rfl, ?_⟩
 apply vb hm<;>intro _ hm
 obtain⟨rb470,hm,hb1,hb2⟩:=a2v hm
 refine a1o.of (x':=i4 (⟨4,c_0.Station.Me,c_1,e460.Night,e460.Ballot,0,e460.Value,0,0,0,0⟩:b5)) rfl rfl (c9j (c9h _)) (hp.pre hb1) ?_ ?_
 replace hp:=hp.emit hb1
 replace hq:=hq.trans hb2
 cases hm
 rw [hq]at hi453
 obtain⟨e2,hm,rfl,ht⟩:=hi453
 exact⟨(fu452,(W (v319+1))),_,sb 0,rfl,⟨_,hm,hp.out rfl,ht.symm.trans hx457⟩,Nat.lt_succ_self _⟩
 exact .inl rfl
 cases hm
 rw [hq]at hi453
 obtain⟨e2,hm,rfl,ht⟩:=hi453
 exact⟨(fu452,(W (v319+1))),_,sb 0,rfl,⟨_,hm,hp.out rfl,ht.symm.trans hx457⟩,Nat.lt_succ_self _⟩
 refine⟨rfl,rfl, ?_⟩
 apply vb hm<;>intro _ hm
 obtain⟨rb472,hm,hb1,hb2⟩:=a2v hm
 refine a1o.of (x':=i4 (⟨4,c_0.Station.Me,c_1,e460.Night,e460.Ballot,0,e460.Value,0,0,0,0⟩:b5)) rfl rfl (c9j (c9h _)) (hp.pre hb1) ?_ ?_
 replace hp:=hp.emit hb1
 replace hq:=hq.trans hb2
 cases hm
 rw [hq]at hi453
 obtain⟨e2,hm,rfl,ht⟩:=hi453
 exact⟨(fu452,(W (v319+1))),_,sb 0,rfl,⟨_,hm,hp.out rfl,ht.symm.trans hx457⟩,Nat.lt_succ_self _⟩
 exact .inl rfl
 cases hm
 rw [hq]at hi453
 obtain⟨e2,hm,rfl,ht⟩:=hi453
 exact⟨(fu452,(W (v319+1))),_,sb 0,rfl,⟨_,hm,hp.out rfl,ht.symm.trans hx457⟩,Nat.lt_succ_self _⟩
 cases hm
 rw [hq]at hi453
 obtain⟨rfl,ht⟩:=hi453
 replace hp:=(hp.out (l':= []) rfl).out rfl
 have hm:=hk451
 try rw [←hx457,ht]at hm
 clear hq
 obtain⟨ev525,rr529,he,hk526,hb1,hb2⟩:=a6A hm
 replace hp:=hp.in1 hb1
 clear hb1 hb2
 refine a8B.of (fun(lpx:Nat×Int)=>match lpx with|(fu527,v478)=>(⟨[(0, .v (.func (.yield l) #[] #[])),(1, .ptr [.ptr (K6.c c_0) 0] 0),(2, .ptr [DI c_1] 0),(18,lD 6 c_0.Station.Safe.Bids c0.c),(19,DI (c_0.Station.Safe.Bids.length:Int)),(20,DI v7),(21,DB (decide (v7<(c_0.Station.Safe.Bids.length:Int)))),(51,lD 4 c_0.Station.Safe.Slots a8.c),(52,DI (c_0.Station.Safe.Slots.length:Int)),(53,DI v319),(54,DB (decide (v319<(c_0.Station.Safe.Slots.length:Int)))),(116,lD 5 c_0.Station.Safe.Leases b8.c),(117,DI (c_0.Station.Safe.Leases.length:Int)),(118,DI v478)], [],0⟩:Sy)) (fun lpx q=>∃e,a6m (a2e c_0 c_1) lpx.1 lpx.2=some e∧Hp3 i4 q e.1 _ _∧e.2=ev525.2) (fun lpx=>lpx.1) (a7j,0) ⟨_,he,hp,rfl⟩ (sb 0) ?_
 clear hp he
 rintro⟨fu527,v478⟩ q ⟨el531,hi528,hp,hx532⟩
 obtain⟨fu527,b,tl,rfl,hm,hb1,hi528⟩:=a6k hi528
 replace hp:=hp.in1 hb1
 clear hb1
 have hq:b.2=b.2:=rfl
 apply vb hm<;>intro _ hm
 refine ei hm fun e535 hm=> ?_
 refine⟨rfl,rfl, ?_⟩
 apply vb hm<;>intro _ hm
 obtain⟨rb538,hm,hb1,hb2⟩:=a2v hm
 refine a1o.of (x':=i4 (⟨5,c_0.Station.Me,c_1,0,0,0,0,e535.No,e535.Thing,e535.From,e535.Until⟩:b5)) rfl rfl (c9j (c9h _)) (hp.pre hb1) ?_ ?_
 replace hp:=hp.emit hb1
 replace hq:=hq.trans hb2
 cases hm
 rw [hq]at hi528
 obtain⟨e2,hm,rfl,ht⟩:=hi528
 exact⟨(fu527,(W (v478+1))),_,sb 0,rfl,⟨_,hm,hp.out rfl,ht.symm.trans hx532⟩,Nat.lt_succ_self _⟩
 exact .inl rfl
 cases hm
 rw [hq]at hi528
 obtain⟨e2,hm,rfl,ht⟩:=hi528
 exact⟨(fu527,(W (v478+1))),_,sb 0,rfl,⟨_,hm,hp.out rfl,ht.symm.trans hx532⟩,Nat.lt_succ_self _⟩
 cases hm
 rw [hq]at hi528
 obtain⟨rfl,ht⟩:=hi528
 replace hp:=(hp.out (l':= []) rfl).out rfl
 have hm:=hk526
 try rw [←hx532,ht]at hm
 clear hq
 obtain⟨ev559,rr563,he,hk560,hb1,hb2⟩:=a6A hm
 replace hp:=hp.in1 hb1
 clear hb1 hb2
 refine a8B.of (fun(lpx:Nat×Int)=>match lpx with|(fu561,v545)=>(⟨[(0, .v (.func (.yield l) #[] #[])),(1, .ptr [.ptr (K6.c c_0) 0] 0),(2, .ptr [DI c_1] 0),(18,lD 6 c_0.Station.Safe.Bids c0.c),(19,DI (c_0.Station.Safe.Bids.length:Int)),(20,DI v7),(21,DB (decide (v7<(c_0.Station.Safe.Bids.length:Int)))),(51,lD 4 c_0.Station.Safe.Slots a8.c),(52,DI (c_0.Station.Safe.Slots.length:Int)),(53,DI v319),(54,DB (decide (v319<(c_0.Station.Safe.Slots.length:Int)))),(116,lD 5 c_0.Station.Safe.Leases b8.c),(117,DI (c_0.Station.Safe.Leases.length:Int)),(118,DI v478),(119,DB (decide (v478<(c_0.Station.Safe.Leases.length:Int)))),(152,lD 6 c_0.Station.Safe.Loans b6.c),(153,DI (c_0.Station.Safe.Loans.length:Int)),(154,DI v545)], [],0⟩:Sy)) (fun lpx q=>∃e,a6m (a2c c_0 c_1) lpx.1 lpx.2=some e∧Hp3 i4 q e.1 _ _∧e.2=ev559.2) (fun lpx=>lpx.1) (a7j,0) ⟨_,he,hp,rfl⟩ (sb 0) ?_
 clear hp he
 rintro⟨fu561,v545⟩ q ⟨el565,hi562,hp,hx566⟩
 obtain⟨fu561,b,tl,rfl,hm,hb1,hi562⟩:=a6k hi562
 replace hp:=hp.in1 hb1
 clear hb1
 have hq:b.2=b.2:=rfl
 apply vb hm<;>intro _ hm
 refine ei hm fun e569 hm=> ?_
 refine⟨rfl,rfl, ?_⟩
 apply vb hm<;>intro _ hm
 apply vb hm<;>intro _ hm
 obtain⟨rb573,hm,hb1,hb2⟩:=a2v hm
 refine a1o.of (x':=i4 (⟨6,c_0.Station.Me,c_1,0,0,0,0,e569.No,e569.Thing,0,e569.Until⟩:b5)) rfl rfl (c9j (c9h _)) (hp.pre hb1) ?_ ?_
 replace hp:=hp.emit hb1
 replace hq:=hq.trans hb2
 cases hm
 rw [hq]at hi562
 obtain⟨e2,hm,rfl,ht⟩:=hi562
 exact⟨(fu561,(W (v545+1))),_,sb 0,rfl,⟨_,hm,hp.out rfl,ht.symm.trans hx566⟩,Nat.lt_succ_self _⟩
 exact .inl rfl
 cases hm
 rw [hq]at hi562
 obtain⟨e2,hm,rfl,ht⟩:=hi562
 exact⟨(fu561,(W (v545+1))),_,sb 0,rfl,⟨_,hm,hp.out rfl,ht.symm.trans hx566⟩,Nat.lt_succ_self _⟩
 cases hm
 rw [hq]at hi562
 obtain⟨e2,hm,rfl,ht⟩:=hi562
 exact⟨(fu561,(W (v545+1))),_,sb 0,rfl,⟨_,hm,hp.out rfl,ht.symm.trans hx566⟩,Nat.lt_succ_self _⟩
 cases hm
 rw [hq]at hi562
 obtain⟨rfl,ht⟩:=hi562
 replace hp:=(hp.out (l':= []) rfl).out rfl
 have hm:=hk560
 try rw [←hx566,ht]at hm
 clear hq
 cases hm
 exact .inr (congrArg some (hp.done rfl))
def A0:(List b5)→b5→Option (Sum (List b5) Unit):=fun v2 y1=>
 gd ((v2.length+([y1]:List b5).length)*88≤140737488355328∧v2.length+([y1]:List b5).length≤9223372036854775807)<|
 some (.inl (v2++([y1]:List b5)))
def B4 (c1_0:K6) (c1_1:Int):Option (List b5):=
 Option.bind (a3B c1_0 c1_1) fun l3=>
 Option.bind (a1W A0 l3.1 []) fun e=>
 match e with
 | .inl v4=>
  some v4
 | .inr _=>none
theorem M8 (c1_0:K6) (c1_1:Int) (r:(List b5)) (hm:B4 c1_0 c1_1=some r):d7 Tryz.prog 123 [nS, .fn 124 [] [.ptr [.ptr (K6.c c1_0) 0] 0, .ptr [DI c1_1] 0]] (fun x=>x=lD 11 r b5.c):=by
 refine c4C (X:=⟨Tryz.prog,tt,Tryz.f123.ntmps, [], [], [], [], [], []⟩) pok _ Tryz.func123 rfl rfl (Nat.le_of_ble_eq_true rfl) ?_
 intro ds
 intro ds
 obtain⟨l3,hl6,hm⟩:=b9 hm
 obtain⟨ev5,he,hm⟩:=b9 hm
 refine a6B.ofZ (E:=Unit) i4 l3.1 A0 (fun(lpx:(List b5))=>match lpx with|v2=>(⟨[(0,nS),(1, .fn 124 [] [.ptr [.ptr (K6.c c1_0) 0] 0, .ptr [DI c1_1] 0]),(2, .own 0 0),(4,nS)], [(0, .blk [.row 1 11] 40),(1,rE 11 v2 b5.c 24)],2⟩:Sy)) (fun(_:Unit)=>(⟨[], [],0⟩:Sy)) (fun _=> .ret) [] ev5 [0,1,2,4] (a8v c1_0 c1_1 l3.1 hl6) he (c3F pok Tryz.func124 rfl) rfl rfl (fun _=>rfl) rfl rfl rfl (by rintro v2;rfl) (by intro _;rfl) (sb 1) ?_ ?_ (fun _=> .inl rfl) ?_
 rintro v4 rfl
 intro ds
 intro ds
 cases hm
 exact c9j (c9h _)
 rintro _ rfl
 cases hm
 clear he hm
 rintro v2 y1 b hm
 refine⟨([y1]:List b5).flatMap b5.c,([y1]:List b5).length,⟨rfl,rfl⟩, ?_⟩
 obtain⟨hg,hm⟩:=c7 hm
 refine⟨hg,_,_,c8 (c:=b5.c) (l:=(v2:List b5)) (r:=(([y1]:List b5):List b5)), ?_⟩
 cases hm
 exact⟨(v2++([y1]:List b5)),rfl,sb 2⟩
def L4 (c0_0:K6) (c0_1:Int):Option (List b5):=
 Option.bind (B4 c0_0 c0_1) fun x1=>
 some x1
theorem Y3 (c0_0:K6) (c0_1:Int) (r:(List b5)) (hm:L4 c0_0 c0_1=some r):d7 Tryz.prog 73 [.fn 124 [] [.ptr [.ptr (K6.c c0_0) 0] 0, .ptr [DI c0_1] 0]] (fun x=>x=lD 11 r b5.c):=by
 refine zn Tryz.func73 rfl ?_
 refine cy hm (M8 c0_0 c0_1) fun x1 hm=> ?_
 cases hm
 exact c9j (c9h _)
def a4S (x:a6) (to_:Int):Option ((List b5)×Int):=
 Option.bind (a1z x) fun⟨x1,x2⟩=>
 c1C x1 (
  if(x2 !=0)=true then
   some ([],x2)
  else
   Option.bind (u7 to_) fun x6=>
   if(!x6)=true then
    some ([],1)
   else
    none) fun p4=>
 if(x2 !=0)=true then
  some ([],x2)
 else
  Option.bind (u7 to_) fun x10=>
  if(!x10)=true then
   some ([],1)
  else
   Option.bind (a5j p4 to_) fun⟨x13,x14⟩=>
   Option.bind (L4 x13 x14) fun x16=>
   some (x16,0)
theorem b2O (x:a6) (to_:Int) (r:((List b5)×Int)) (hm:a4S x to_=some r):d7 Tryz.prog 35 [.agg (a6.c x),DI to_] (fun x=>x= .tup [lD 11 r.1 b5.c,DI r.2]):=by
 refine zn Tryz.func35 rfl ?_
 refine cy hm (a5L x) ?_
 rintro⟨x1,x2⟩ hm
 rcases x1 with _|p4
 replace hm:=b2Q hm
 apply vb hm<;>intro _ hm
 cases hm
 exact c9j (le2)
 refine cy hm (A2 to_) fun x6 hm=> ?_
 apply vb hm<;>intro _ hm
 cases hm
 exact c9j (le2)
 cases hm
 replace hm:=b2G hm
 apply vb hm<;>intro _ hm
 cases hm
 exact c9j (le2)
 refine cy hm (A2 to_) fun x10 hm=> ?_
 apply vb hm<;>intro _ hm
 cases hm
 exact c9j (le2)
 refine cy hm (b0i p4 to_) ?_
 rintro⟨x13,x14⟩ hm
 refine cy hm (Y3 x13 x14) fun x16 hm=> ?_
 cases hm
 exact c9j (c9h _)
def a4u (a:(List b5)) (b_:(List b5)):Int→Option (Sum Int (Sum Int Bool)):=fun i8=>
 if(decide (i8<(a.length:Int)))=true then
  Option.bind (idx a i8) fun e16=>
  Option.bind (idx b_ i8) fun e18=>
  if(!((e16.Kind==e18.Kind)&&((e16.From==e18.From)&&((e16.To==e18.To)&&((e16.Night==e18.Night)&&((e16.Ballot==e18.Ballot)&&((e16.Best==e18.Best)&&((e16.Value==e18.Value)&&((e16.No==e18.No)&&((e16.Thing==e18.Thing)&&((e16.Start==e18.Start)&&(e16.Until==e18.Until))))))))))))=true then
   some (.inr (.inr false))
  else
   some (.inl (W (i8+1)))
 else
  some (.inr (.inl i8))
def a1L (a:(List b5)) (b_:(List b5)):Option Bool:=
 if((a.length:Int) !=(b_.length:Int))=true then
  some false
 else
  Option.bind (j4 (a4u a b_) 0) fun e=>
  match e with
  | .inl i21=>
   some true
  | .inr rr22=>
   some rr22
theorem a6U (a:(List b5)) (b_:(List b5)) (r:Bool) (hm:a1L a b_=some r):d7 Tryz.prog 36 [lD 11 a b5.c,lD 11 b_ b5.c] (fun x=>x=DB r):=by
 refine zy c8e [] [] [] Tryz.func36 rfl ?_
 apply vb hm<;>intro _ hm
 exact hm.rr
 obtain⟨ev23,he,hk24⟩:=b9 hm
 refine c9k (a4u a b_) (fun i8=>⟨[(0,lD 11 a b5.c),(1,lD 11 b_ b5.c),(5,DI i8)], [],0⟩) 0 (sb 0) he ?_
 rintro fu25 i8 b hm hi26
 apply vb hm<;>intro _ hm
 refine⟨rfl, ?_⟩
 refine ei hm fun _ hm=> ?_
 refine ei hm fun _ hm=> ?_
 apply vb hm<;>intro _ hm
 cases hm
 cases hi26
 have hm:=hk24
 exact hm.rr
 cases hm
 exact⟨(_,(W (i8+1))),sb 0,hi26,Nat.lt_succ_self _⟩
 cases hm
 cases hi26
 have hm:=hk24
 exact hm.rr
def a3V (l:b8) (c_0:Int) (c_1:Int):Option Bool:=
 if(l.Thing==c_0)=true then
  if(decide (l.From≤c_1))=true then
   some (decide (c_1<l.Until))
  else
   some false
 else
  some false
theorem a8w (l:b8) (c_0:Int) (c_1:Int) (r:Bool) (hm:a3V l c_0 c_1=some r):d7 Tryz.prog 125 [.agg (b8.c l), .ptr [DI c_0] 0, .ptr [DI c_1] 0] (fun x=>x=DB r):=by
 refine zn Tryz.func125 rfl ?_
 apply vb hm<;>intro _ hm
 apply vb hm<;>intro _ hm
 exact hm.rr
 exact hm.rr
 exact hm.rr
def B2 (s:(List b8)) (c1_0:Int) (c1_1:Int):Int→Option (Sum Int (Sum Int Int)):=fun v7=>
 if(decide (v7<(s.length:Int)))=true then
  Option.bind (idx s v7) fun e15=>
  Option.bind (a3V e15 c1_0 c1_1) fun x17=>
  if x17=true then
   some (.inr (.inr v7))
  else
   some (.inl (W (v7+1)))
 else
  some (.inr (.inl v7))
def D4 (s:(List b8)) (c1_0:Int) (c1_1:Int):Option Int:=
 Option.bind (j4 (B2 s c1_0 c1_1) 0) fun e=>
 match e with
 | .inl v20=>
  some (-1)
 | .inr rr21=>
  some rr21
theorem O1 (s:(List b8)) (c1_0:Int) (c1_1:Int) (r:Int) (hm:D4 s c1_0 c1_1=some r):d7 Tryz.prog 94 [lD 5 s b8.c, .fn 125 [] [.ptr [DI c1_0] 0, .ptr [DI c1_1] 0]] (fun x=>x=DI r):=by
 refine zn Tryz.func94 rfl ?_
 obtain⟨ev22,he,hk23⟩:=b9 hm
 refine c9k (B2 s c1_0 c1_1) (fun v7=>⟨[(0,lD 5 s b8.c),(1, .fn 125 [] [.ptr [DI c1_0] 0, .ptr [DI c1_1] 0]),(7,DI (s.length:Int)),(8,DI v7)], [],0⟩) 0 (sb 0) he ?_
 rintro fu24 v7 b hm hi25
 apply vb hm<;>intro _ hm
 refine ei hm fun e27 hm=> ?_
 refine cy hm (a8w e27 c1_0 c1_1) fun x29 hm=> ?_
 apply vb hm<;>intro _ hm
 cases hm
 cases hi25
 have hm:=hk23
 exact hm.rr
 cases hm
 exact⟨(_,(W (v7+1))),sb 0,hi25,Nat.lt_succ_self _⟩
 cases hm
 cases hi25
 have hm:=hk23
 exact hm.rr
def B5 (s:(List b8)) (c1_0:Int) (c1_1:Int):Option Bool:=
 Option.bind (D4 s c1_0 c1_1) fun x1=>
 some (decide (x1≥0))
theorem N1 (s:(List b8)) (c1_0:Int) (c1_1:Int) (r:Bool) (hm:B5 s c1_0 c1_1=some r):d7 Tryz.prog 53 [lD 5 s b8.c, .fn 125 [] [.ptr [DI c1_0] 0, .ptr [DI c1_1] 0]] (fun x=>x=DB r):=by
 refine zn Tryz.func53 rfl ?_
 refine cy hm (O1 s c1_0 c1_1) fun x1 hm=> ?_
 exact hm.rr
def a3Y (l:b6) (c_0:Int) (c_1:Int):Option Bool:=
 if(l.Thing==c_0)=true then
  if(decide (l.From≤c_1))=true then
   some (decide (c_1<l.Until))
  else
   some false
 else
  some false
theorem a8s (l:b6) (c_0:Int) (c_1:Int) (r:Bool) (hm:a3Y l c_0 c_1=some r):d7 Tryz.prog 127 [.agg (b6.c l), .ptr [DI c_0] 0, .ptr [DI c_1] 0] (fun x=>x=DB r):=by
 refine zn Tryz.func127 rfl ?_
 apply vb hm<;>intro _ hm
 apply vb hm<;>intro _ hm
 exact hm.rr
 exact hm.rr
 exact hm.rr
def D3 (s:(List b6)) (c1_0:Int) (c1_1:Int):Int→Option (Sum Int (Sum Int Int)):=fun v7=>
 if(decide (v7<(s.length:Int)))=true then
  Option.bind (idx s v7) fun e15=>
  Option.bind (a3Y e15 c1_0 c1_1) fun x17=>
  if x17=true then
   some (.inr (.inr v7))
  else
   some (.inl (W (v7+1)))
 else
  some (.inr (.inl v7))
def F0 (s:(List b6)) (c1_0:Int) (c1_1:Int):Option Int:=
 Option.bind (j4 (D3 s c1_0 c1_1) 0) fun e=>
 match e with
 | .inl v20=>
  some (-1)
 | .inr rr21=>
  some rr21
theorem P2 (s:(List b6)) (c1_0:Int) (c1_1:Int) (r:Int) (hm:F0 s c1_0 c1_1=some r):d7 Tryz.prog 153 [lD 6 s b6.c, .fn 127 [] [.ptr [DI c1_0] 0, .ptr [DI c1_1] 0]] (fun x=>x=DI r):=by
 refine zn Tryz.func153 rfl ?_
 obtain⟨ev22,he,hk23⟩:=b9 hm
 refine c9k (D3 s c1_0 c1_1) (fun v7=>⟨[(0,lD 6 s b6.c),(1, .fn 127 [] [.ptr [DI c1_0] 0, .ptr [DI c1_1] 0]),(7,DI (s.length:Int)),(8,DI v7)], [],0⟩) 0 (sb 0) he ?_
 rintro fu24 v7 b hm hi25
 apply vb hm<;>intro _ hm
 refine ei hm fun e27 hm=> ?_
 refine cy hm (a8s e27 c1_0 c1_1) fun x29 hm=> ?_
 apply vb hm<;>intro _ hm
 cases hm
 cases hi25
 have hm:=hk23
 exact hm.rr
 cases hm
 exact⟨(_,(W (v7+1))),sb 0,hi25,Nat.lt_succ_self _⟩
 cases hm
 cases hi25
 have hm:=hk23
 exact hm.rr
def C9 (s:(List b6)) (c1_0:Int) (c1_1:Int):Option Bool:=
 Option.bind (F0 s c1_0 c1_1) fun x1=>
 some (decide (x1≥0))
theorem N7 (s:(List b6)) (c1_0:Int) (c1_1:Int) (r:Bool) (hm:C9 s c1_0 c1_1=some r):d7 Tryz.prog 126 [lD 6 s b6.c, .fn 127 [] [.ptr [DI c1_0] 0, .ptr [DI c1_1] 0]] (fun x=>x=DB r):=by
 refine zn Tryz.func126 rfl ?_
 refine cy hm (P2 s c1_0 c1_1) fun x1 hm=> ?_
 exact hm.rr
def a5k (p:K6) (thing:Int) (moment:Int):Option Bool:=
 Option.bind (d8 thing) fun x1=>
 if(x1==p.Station.Me)=true then
  Option.bind (B5 p.Station.Now.Leases thing moment) fun x4=>
  some (!x4)
 else
  Option.bind (C9 p.Station.Now.Loans thing moment) fun x6=>
  some x6
theorem a9T (p:K6) (thing:Int) (moment:Int) (r:Bool) (hm:a5k p thing moment=some r):d7 Tryz.prog 75 [.ptr (K6.c p) 0,DI thing,DI moment] (fun x=>x=DB r):=by
 refine zy c7X [] [] [] Tryz.func75 rfl ?_
 refine⟨rfl, ?_⟩
 refine cy hm (j2 thing) fun x1 hm=> ?_
 apply vb hm<;>intro _ hm
 refine co hm (N1 p.Station.Now.Leases thing moment) fun x4 hm=> ?_
 exact hm.rr
 refine co hm (N7 p.Station.Now.Loans thing moment) fun x6 hm=> ?_
 exact hm.rr
def a0e (x:a6) (thing:Int) (moment:Int):Option (Bool×Int):=
 Option.bind (a1z x) fun⟨x1,x2⟩=>
 c1C x1 (
  if(x2 !=0)=true then
   some (false,x2)
  else
   Option.bind (A1 thing) fun x6=>
   if(!x6)=true then
    some (false,1)
   else
    Option.bind (d9 moment) fun x9=>
    if(!x9)=true then
     some (false,95)
    else
     none) fun p4=>
 if(x2 !=0)=true then
  some (false,x2)
 else
  Option.bind (A1 thing) fun x13=>
  if(!x13)=true then
   some (false,1)
  else
   Option.bind (d9 moment) fun x16=>
   if(!x16)=true then
    some (false,95)
   else
    Option.bind (a5k p4 thing moment) fun x19=>
    some (x19,0)
theorem a4a (x:a6) (thing:Int) (moment:Int) (r:(Bool×Int)) (hm:a0e x thing moment=some r):d7 Tryz.prog 38 [.agg (a6.c x),DI thing,DI moment] (fun x=>x= .tup [DB r.1,DI r.2]):=by
 refine zn Tryz.func38 rfl ?_
 refine cy hm (a5L x) ?_
 rintro⟨x1,x2⟩ hm
 rcases x1 with _|p4
 replace hm:=b2Q hm
 apply vb hm<;>intro _ hm
 cases hm
 exact c9j (c9h _)
 refine cy hm (J3 thing) fun x6 hm=> ?_
 apply vb hm<;>intro _ hm
 cases hm
 exact c9j (c9h _)
 refine cy hm (l8 moment) fun x9 hm=> ?_
 apply vb hm<;>intro _ hm
 cases hm
 exact c9j (c9h _)
 cases hm
 replace hm:=b2G hm
 apply vb hm<;>intro _ hm
 cases hm
 exact c9j (c9h _)
 refine cy hm (J3 thing) fun x13 hm=> ?_
 apply vb hm<;>intro _ hm
 cases hm
 exact c9j (c9h _)
 refine cy hm (l8 moment) fun x16 hm=> ?_
 apply vb hm<;>intro _ hm
 cases hm
 exact c9j (c9h _)
 refine cy hm (a9T p4 thing moment) fun x19 hm=> ?_
 cases hm
 exact c9j (c9h _)
def S5 (x:List Int):Option (List Int):=gd (x.length<4611686018427387904) (some (a8I x))
theorem a7i (x r:List Int) (hm:S5 x=some r):c1U Tryz.prog 76 1 x.length (x.flatMap cI) 3 [] r.length (r.flatMap cI):=by
 obtain⟨hg,hm⟩:=c7 hm
 cases hm
 exact c1E c2O x 3 hg
def a3d (thing:Int) (from_:Int) (p4:K6):(Int×(List Int))→Option (Sum (Int×(List Int)) (Int×(List Int))):=fun(v34,v35)=>
 if(decide (v34<(p4.Station.Now.Leases.length:Int)))=true then
  Option.bind (idx p4.Station.Now.Leases v34) fun e42=>
  if(e42.Thing==thing)=true then
   if(decide (e42.Until>from_))=true then
    gd ((v35.length+([e42.Until]:List Int).length)*8≤140737488355328∧v35.length+([e42.Until]:List Int).length≤9223372036854775807)<|
    some (.inl ((W (v34+1)),(v35++([e42.Until]:List Int))))
   else
    some (.inl ((W (v34+1)),v35))
  else
   some (.inl ((W (v34+1)),v35))
 else
  some (.inr (v34,v35))
def a3l (thing:Int) (from_:Int) (until_:Int) (p4:K6) (x49:(List Int)):Int→Option (Sum Int (Sum Int (Int×Int))):=fun v61=>
 if(decide (v61<(x49.length:Int)))=true then
  Option.bind (idx x49 v61) fun e74=>
  Option.bind (idx x49 v61) fun e76=>
  Option.bind (d9 (W ((W (e76+until_))-from_))) fun x78=>
  if x78=true then
   Option.bind (a0m p4 (⟨0,thing,0,e76,(W ((W (e76+until_))-from_))⟩:b8)) fun x81=>
   if(!x81)=true then
    some (.inr (.inr (e76,0)))
   else
    some (.inl (W (v61+1)))
  else
   some (.inl (W (v61+1)))
 else
  some (.inr (.inl v61))
def a1w (x:a6) (thing:Int) (from_:Int) (until_:Int):Option (Int×Int):=
 Option.bind (a1z x) fun⟨x1,x2⟩=>
 c1C x1 (
  if(x2 !=0)=true then
   some (0,x2)
  else
   Option.bind (A1 thing) fun x6=>
   if(!x6)=true then
    some (0,1)
   else
    Option.bind (d9 from_) fun x9=>
    if(!x9)=true then
     some (0,95)
    else
     Option.bind (d9 until_) fun x12=>
     if(!x12)=true then
      some (0,95)
     else
      none) fun p4=>
 if(x2 !=0)=true then
  some (0,x2)
 else
  Option.bind (A1 thing) fun x16=>
  if(!x16)=true then
   some (0,1)
  else
   Option.bind (d9 from_) fun x19=>
   if(!x19)=true then
    some (0,95)
   else
    Option.bind (d9 until_) fun x22=>
    if(!x22)=true then
     some (0,95)
    else
     Option.bind (d8 thing) fun x25=>
     if(x25 !=p4.Station.Me)=true then
      some (0,92)
     else
      if(decide (from_>until_))=true then
       some (0,95)
      else
       Option.bind (j4 (a3d thing from_ p4) (0,([from_]:List Int))) fun(v46,v47)=>
       Option.bind (S5 v47) fun x49=>
       Option.bind (j4 (a3l thing from_ until_ p4 x49) 0) fun e=>
       match e with
       | .inl v84=>
        some (0,3)
       | .inr rr85=>
        some rr85
theorem a8z (x:a6) (thing:Int) (from_:Int) (until_:Int) (r:(Int×Int)) (hm:a1w x thing from_ until_=some r):d7 Tryz.prog 39 [.agg (a6.c x),DI thing,DI from_,DI until_] (fun x=>x= .tup [DI r.1,DI r.2]):=by
 refine zy c8F [51,76,144,145,173] [] [] Tryz.func39 rfl ?_
 refine cy hm (a5L x) ?_
 rintro⟨x1,x2⟩ hm
 rcases x1 with _|p4
 replace hm:=b2Q hm
 apply vb hm<;>intro _ hm
 cases hm
 exact c9j (c9h _)
 refine cy hm (J3 thing) fun x6 hm=> ?_
 apply vb hm<;>intro _ hm
 cases hm
 exact c9j (c9h _)
 refine cy hm (l8 from_) fun x9 hm=> ?_
 apply vb hm<;>intro _ hm
 cases hm
 exact c9j (c9h _)
 refine cy hm (l8 until_) fun x12 hm=> ?_
 apply vb hm<;>intro _ hm
 cases hm
 exact c9j (c9h _)
 refine⟨rfl, ?_⟩
 cases hm
 replace hm:=b2G hm
 apply vb hm<;>intro _ hm
 cases hm
 exact c9j (c9h _)
 refine cy hm (J3 thing) fun x16 hm=> ?_
 apply vb hm<;>intro _ hm
 cases hm
 exact c9j (c9h _)
 refine cy hm (l8 from_) fun x19 hm=> ?_
 apply vb hm<;>intro _ hm
 cases hm
 exact c9j (c9h _)
 refine cy hm (l8 until_) fun x22 hm=> ?_
 apply vb hm<;>intro _ hm
 cases hm
 exact c9j (c9h _)
 refine⟨rfl, ?_⟩
 refine cy hm (j2 thing) fun x25 hm=> ?_
 apply vb hm<;>intro _ hm
 cases hm
 exact c9j (c9h _)
 apply vb hm<;>intro _ hm
 cases hm
 exact c9j (c9h _)
 refine⟨([from_]:List Int).flatMap cI,([from_]:List Int).length,⟨rfl,rfl⟩, ?_⟩
 obtain⟨ev101,he,hk102⟩:=b9 hm
 refine c9k (a3d thing from_ p4) (fun(v34,v35)=>⟨[(1,DI thing),(2,DI from_),(3,DI until_),(10, .ptr (K6.c p4) 0),(12, .row 1 1),(60,lD 5 p4.Station.Now.Leases b8.c),(61,DI (p4.Station.Now.Leases.length:Int)),(62,DI v34)], [(1,rE 1 v35 cI 3)],2⟩) (0,([from_]:List Int)) (sb 2) he ?_
 rintro fu103 ⟨v34,v35⟩ b hm hi104
 apply vb hm<;>intro _ hm
 refine ei hm fun e106 hm=> ?_
 apply vb hm<;>intro _ hm
 apply vb hm<;>intro _ hm
 refine⟨([e106.Until]:List Int).flatMap cI,([e106.Until]:List Int).length,⟨rfl,rfl⟩, ?_⟩
 obtain⟨hg,hm⟩:=c7 hm
 refine⟨hg,_,_,c8 (c:=cI) (l:=(v35:List Int)) (r:=(([e106.Until]:List Int):List Int)), ?_⟩
 cases hm
 exact⟨(_,((W (v34+1)),(v35++([e106.Until]:List Int)))),sb 2,hi104,Nat.lt_succ_self _⟩
 cases hm
 exact⟨(_,((W (v34+1)),v35)),sb 2,hi104,Nat.lt_succ_self _⟩
 cases hm
 exact⟨(_,((W (v34+1)),v35)),sb 2,hi104,Nat.lt_succ_self _⟩
 cases hm
 cases hi104
 have hm:=hk102
 obtain⟨x111,hx110,hm⟩:=b9 hm
 refine .inr (c3J.mk ⟨_,_,_,_,_,_,rfl,a7i v35 _ hx110, ?_⟩)
 obtain⟨ev148,he,hk149⟩:=b9 hm
 refine c9k (a3l thing from_ until_ p4 x111) (fun v123=>⟨[(1,DI thing),(2,DI from_),(3,DI until_),(10, .ptr (K6.c p4) 0),(84, .row 1 1),(85,DI (x111.length:Int)),(86,DI v123)], [(1,rE 1 x111 cI 3)],2⟩) 0 (sb 2) he ?_
 rintro fu150 v123 b hm hi151
 apply vb hm<;>intro _ hm
 refine eb hm fun _ hm=> ?_
 refine er hm fun e155 hm=> ?_
 refine cy hm (l8 (W ((W (e155+until_))-from_))) fun x157 hm=> ?_
 apply vb hm<;>intro _ hm
 refine cy hm (a4C p4 ((⟨0,thing,0,e155,(W ((W (e155+until_))-from_))⟩:b8))) fun x160 hm=> ?_
 apply vb hm<;>intro _ hm
 cases hm
 cases hi151
 have hm:=hk149
 cases hm
 exact c9j (c9h _)
 cases hm
 exact⟨(_,(W (v123+1))),sb 2,hi151,Nat.lt_succ_self _⟩
 cases hm
 exact⟨(_,(W (v123+1))),sb 2,hi151,Nat.lt_succ_self _⟩
 cases hm
 cases hi151
 have hm:=hk149
 cases hm
 exact c9j (c9h _)
def a7L (n:Int):Option ByteArray:=gd (0≤n∧n<100) (some (c5g n))
theorem b3f (n:Int) (r:ByteArray) (hm:a7L n=some r):d7 Tryz.prog 130 [DI n] (fun x=>x= .v (.string r)):=by
 obtain⟨hg,hm⟩:=c7 hm
 cases hm
 exact c0H c3h n hg
def a6Z (l:(List Int)):(ByteArray×Int)→Option (Sum (ByteArray×Int) (ByteArray×Int)):=fun(word6,v7)=>
 if(decide (v7<(l.length:Int)))=true then
  Option.bind (idx l v7) fun e14=>
  Option.bind (a7L e14) fun x16=>
  gd ((((⟨#[32]⟩:ByteArray).size+x16.size:Nat):Int)≤9223372036854775807)<|
  gd (((word6.size+((⟨#[32]⟩:ByteArray)++x16).size:Nat):Int)≤9223372036854775807)<|
  some (.inl ((word6++((⟨#[32]⟩:ByteArray)++x16)),(W (v7+1))))
 else
  some (.inr (word6,v7))
def a0h (word:ByteArray) (l:(List Int)):Option ByteArray:=
 Option.bind (j4 (a6Z l) (word,0)) fun(word18,v19)=>
 gd (((word18.size+(⟨#[10]⟩:ByteArray).size:Nat):Int)≤9223372036854775807)<|
 some (word18++(⟨#[10]⟩:ByteArray))
theorem a1l (word:ByteArray) (l:(List Int)) (r:ByteArray) (hm:a0h word l=some r):d7 Tryz.prog 77 [.v (.string word),lD 1 l cI] (fun x=>x= .v (.string r)):=by
 refine zn Tryz.func77 rfl ?_
 obtain⟨ev20,he,hk21⟩:=b9 hm
 refine c9k (a6Z l) (fun(word6,v7)=>⟨[(0, .v (.string word6)),(7,lD 1 l cI),(8,DI (l.length:Int)),(9,DI v7)], [],0⟩) (word,0) (sb 0) he ?_
 rintro fu22 ⟨word6,v7⟩ b hm hi23
 apply vb hm<;>intro _ hm
 refine ei hm fun e25 hm=> ?_
 refine cy hm (b3f e25) fun x27 hm=> ?_
 obtain⟨hg,hm⟩:=c7 hm
 refine⟨hg, ?_⟩
 obtain⟨hg,hm⟩:=c7 hm
 refine⟨hg, ?_⟩
 cases hm
 exact⟨(_,((word6++((⟨#[32]⟩:ByteArray)++x27)),(W (v7+1)))),sb 0,hi23,Nat.lt_succ_self _⟩
 cases hm
 cases hi23
 have hm:=hk21
 obtain⟨hg,hm⟩:=c7 hm
 refine⟨hg, ?_⟩
 cases hm
 exact c9j (c9h _)
def a6C (is:Bool):Option Int:=
 if is=true then
  some 1
 else
  some 0
theorem b0p (is:Bool) (r:Int) (hm:a6C is=some r):d7 Tryz.prog 78 [DB is] (fun x=>x=DI r):=by
 refine zn Tryz.func78 rfl ?_
 apply vb hm<;>intro _ hm
 exact hm.rr
 exact hm.rr
def a5s (s:b7):(Bool×Int)→Option (Sum (Bool×Int) (Bool×Int)):=fun(some_3,v4)=>
 if(decide (v4<6))=true then
  if some_3=true then
   some (.inl (true,(W (v4+1))))
  else
   Option.bind (R5 v4 s) fun x11=>
   some (.inl (x11,(W (v4+1))))
 else
  some (.inr (some_3,v4))
def a5g (s:b7):(ByteArray×Int)→Option (Sum (ByteArray×Int) (ByteArray×Int)):=fun(out23,v24)=>
 if(decide (v24<(s.Slots.length:Int)))=true then
  Option.bind (idx s.Slots v24) fun e31=>
  Option.bind (a0h (⟨#[115,108,111,116]⟩:ByteArray) ([e31.Night,e31.Promised,e31.Ballot,e31.Value]:List Int)) fun x33=>
  gd (((out23.size+x33.size:Nat):Int)≤9223372036854775807)<|
  some (.inl ((out23++x33),(W (v24+1))))
 else
  some (.inr (out23,v24))
def a5o (s:b7):(ByteArray×Int)→Option (Sum (ByteArray×Int) (ByteArray×Int)):=fun(out44,v45)=>
 if(decide (v45<(s.Bids.length:Int)))=true then
  Option.bind (idx s.Bids v45) fun e54=>
  Option.bind (a6C e54.Asked) fun x56=>
  Option.bind (a0h (⟨#[98,105,100]⟩:ByteArray) ([e54.Night,e54.Ballot,e54.Value,e54.Best,e54.Mask,x56]:List Int)) fun x58=>
  gd (((out44.size+x58.size:Nat):Int)≤9223372036854775807)<|
  some (.inl ((out44++x58),(W (v45+1))))
 else
  some (.inr (out44,v45))
def a5A (s:b7):(ByteArray×Int)→Option (Sum (ByteArray×Int) (ByteArray×Int)):=fun(out67,v68)=>
 if(decide (v68<(s.Heard.length:Int)))=true then
  Option.bind (idx s.Heard v68) fun e75=>
  Option.bind (a0h (⟨#[104,101,97,114,100]⟩:ByteArray) ([e75.Night,e75.Ballot,e75.Value,e75.Mask]:List Int)) fun x77=>
  gd (((out67.size+x77.size:Nat):Int)≤9223372036854775807)<|
  some (.inl ((out67++x77),(W (v68+1))))
 else
  some (.inr (out67,v68))
def a5t (s:b7):(ByteArray×Int)→Option (Sum (ByteArray×Int) (ByteArray×Int)):=fun(out86,v87)=>
 if(decide (v87<(s.Leases.length:Int)))=true then
  Option.bind (idx s.Leases v87) fun e94=>
  Option.bind (a0h (⟨#[108,101,97,115,101]⟩:ByteArray) ([e94.No,e94.Thing,e94.To,e94.From,e94.Until]:List Int)) fun x96=>
  gd (((out86.size+x96.size:Nat):Int)≤9223372036854775807)<|
  some (.inl ((out86++x96),(W (v87+1))))
 else
  some (.inr (out86,v87))
def a5h (s:b7):(ByteArray×Int)→Option (Sum (ByteArray×Int) (ByteArray×Int)):=fun(out107,v108)=>
 if(decide (v108<(s.Loans.length:Int)))=true then
  Option.bind (idx s.Loans v108) fun e117=>
  Option.bind (a6C e117.Back) fun x119=>
  Option.bind (a0h (⟨#[108,111,97,110]⟩:ByteArray) ([e117.Owner,e117.No,e117.Thing,e117.From,e117.Until,x119]:List Int)) fun x121=>
  gd (((out107.size+x121.size:Nat):Int)≤9223372036854775807)<|
  some (.inl ((out107++x121),(W (v108+1))))
 else
  some (.inr (out107,v108))
def a2D (s:b7):Option (ByteArray×Int):=
 Option.bind (j4 (a5s s) (false,0)) fun(some_13,v14)=>
 if(!some_13)=true then
  some ((⟨#[]⟩:ByteArray),90)
 else
  Option.bind (a0h (⟨#[114,111,117,110,100]⟩:ByteArray) ([s.Round]:List Int)) fun x16=>
  Option.bind (j4 (a5g s) (x16,0)) fun(out35,v36)=>
  Option.bind (j4 (a5o s) (out35,0)) fun(out60,v61)=>
  Option.bind (j4 (a5A s) (out60,0)) fun(out79,v80)=>
  Option.bind (j4 (a5t s) (out79,0)) fun(out98,v99)=>
  Option.bind (j4 (a5h s) (out98,0)) fun(out123,v124)=>
  some (out123,0)
theorem a7o (s:b7) (r:(ByteArray×Int)) (hm:a2D s=some r):d7 Tryz.prog 40 [.agg (b7.c s)] (fun x=>x= .tup [.v (.string r.1),DI r.2]):=by
 refine zy c7N [] [] [] Tryz.func40 rfl ?_
 obtain⟨ev1030,he,hk1031⟩:=b9 hm
 refine c9k (a5s s) (fun(some_3,v4)=>⟨[(1, .own 0 0),(4,DB some_3),(17,DI v4)], [(0, .blk (b7.c s) 36)],1⟩) (false,0) (sb 1) he ?_
 rintro fu1032 ⟨some_3,v4⟩ b hm hi1033
 apply vb hm<;>intro _ hm
 apply vb hm<;>intro _ hm
 cases hm
 exact⟨(_,(true,(W (v4+1)))),sb 1,hi1033,Nat.lt_succ_self _⟩
 refine cy hm (a3p v4 s) fun x1036 hm=> ?_
 cases hm
 exact⟨(_,(x1036,(W (v4+1)))),sb 1,hi1033,Nat.lt_succ_self _⟩
 cases hm
 cases hi1033
 have hm:=hk1031
 apply vb hm<;>intro _ hm
 cases hm
 exact c9j (c9h _)
 refine⟨([s.Round]:List Int).flatMap cI,([s.Round]:List Int).length,⟨rfl,rfl⟩, ?_⟩
 refine co hm (a1l ((⟨#[114,111,117,110,100]⟩:ByteArray)) (([s.Round]:List Int))) fun x1039 hm=> ?_
 obtain⟨ev1552,he,hk1553⟩:=b9 hm
 refine c9k (a5g s) (fun(out1046,v1047)=>⟨[(1, .own 0 0),(6, .v (.string out1046)),(34,lD 4 s.Slots a8.c),(35,DI (s.Slots.length:Int)),(36,DI v1047)], [(0, .blk (b7.c s) 36)],2⟩) (x1039,0) (sb 2) he ?_
 rintro fu1554 ⟨out1046,v1047⟩ b hm hi1555
 apply vb hm<;>intro _ hm
 refine ei hm fun e1557 hm=> ?_
 refine⟨([e1557.Night,e1557.Promised,e1557.Ballot,e1557.Value]:List Int).flatMap cI,([e1557.Night,e1557.Promised,e1557.Ballot,e1557.Value]:List Int).length,⟨rfl,rfl⟩, ?_⟩
 refine co hm (a1l ((⟨#[115,108,111,116]⟩:ByteArray)) (([e1557.Night,e1557.Promised,e1557.Ballot,e1557.Value]:List Int))) fun x1559 hm=> ?_
 obtain⟨hg,hm⟩:=c7 hm
 refine⟨hg, ?_⟩
 cases hm
 exact⟨(_,((out1046++x1559),(W (v1047+1)))),sb 2,hi1555,Nat.lt_succ_self _⟩
 cases hm
 cases hi1555
 have hm:=hk1553
 obtain⟨ev1814,he,hk1815⟩:=b9 hm
 refine c9k (a5o s) (fun(out1568,v1569)=>⟨[(1, .own 0 0),(6, .v (.string out1568)),(54,lD 6 s.Bids c0.c),(55,DI (s.Bids.length:Int)),(56,DI v1569)], [(0, .blk (b7.c s) 36)],2⟩) (out1046,0) (sb 2) he ?_
 rintro fu1816 ⟨out1568,v1569⟩ b hm hi1817
 apply vb hm<;>intro _ hm
 refine ei hm fun e1819 hm=> ?_
 refine⟨rfl, ?_⟩
 refine cy hm (b0p e1819.Asked) fun x1821 hm=> ?_
 refine⟨([e1819.Night,e1819.Ballot,e1819.Value,e1819.Best,e1819.Mask,x1821]:List Int).flatMap cI,([e1819.Night,e1819.Ballot,e1819.Value,e1819.Best,e1819.Mask,x1821]:List Int).length,⟨rfl,rfl⟩, ?_⟩
 refine co hm (a1l ((⟨#[98,105,100]⟩:ByteArray)) (([e1819.Night,e1819.Ballot,e1819.Value,e1819.Best,e1819.Mask,x1821]:List Int))) fun x1823 hm=> ?_
 obtain⟨hg,hm⟩:=c7 hm
 refine⟨hg, ?_⟩
 cases hm
 exact⟨(_,((out1568++x1823),(W (v1569+1)))),sb 2,hi1817,Nat.lt_succ_self _⟩
 cases hm
 cases hi1817
 have hm:=hk1815
 obtain⟨ev1944,he,hk1945⟩:=b9 hm
 refine c9k (a5A s) (fun(out1830,v1831)=>⟨[(1, .own 0 0),(6, .v (.string out1830)),(79,lD 4 s.Heard a7.c),(80,DI (s.Heard.length:Int)),(81,DI v1831)], [(0, .blk (b7.c s) 36)],2⟩) (out1568,0) (sb 2) he ?_
 rintro fu1946 ⟨out1830,v1831⟩ b hm hi1947
 apply vb hm<;>intro _ hm
 refine ei hm fun e1949 hm=> ?_
 refine⟨([e1949.Night,e1949.Ballot,e1949.Value,e1949.Mask]:List Int).flatMap cI,([e1949.Night,e1949.Ballot,e1949.Value,e1949.Mask]:List Int).length,⟨rfl,rfl⟩, ?_⟩
 refine co hm (a1l ((⟨#[104,101,97,114,100]⟩:ByteArray)) (([e1949.Night,e1949.Ballot,e1949.Value,e1949.Mask]:List Int))) fun x1951 hm=> ?_
 obtain⟨hg,hm⟩:=c7 hm
 refine⟨hg, ?_⟩
 cases hm
 exact⟨(_,((out1830++x1951),(W (v1831+1)))),sb 2,hi1947,Nat.lt_succ_self _⟩
 cases hm
 cases hi1947
 have hm:=hk1945
 obtain⟨ev2008,he,hk2009⟩:=b9 hm
 refine c9k (a5t s) (fun(out1958,v1959)=>⟨[(1, .own 0 0),(6, .v (.string out1958)),(99,lD 5 s.Leases b8.c),(100,DI (s.Leases.length:Int)),(101,DI v1959)], [(0, .blk (b7.c s) 36)],2⟩) (out1830,0) (sb 2) he ?_
 rintro fu2010 ⟨out1958,v1959⟩ b hm hi2011
 apply vb hm<;>intro _ hm
 refine ei hm fun e2013 hm=> ?_
 refine⟨([e2013.No,e2013.Thing,e2013.To,e2013.From,e2013.Until]:List Int).flatMap cI,([e2013.No,e2013.Thing,e2013.To,e2013.From,e2013.Until]:List Int).length,⟨rfl,rfl⟩, ?_⟩
 refine co hm (a1l ((⟨#[108,101,97,115,101]⟩:ByteArray)) (([e2013.No,e2013.Thing,e2013.To,e2013.From,e2013.Until]:List Int))) fun x2015 hm=> ?_
 obtain⟨hg,hm⟩:=c7 hm
 refine⟨hg, ?_⟩
 cases hm
 exact⟨(_,((out1958++x2015),(W (v1959+1)))),sb 2,hi2011,Nat.lt_succ_self _⟩
 cases hm
 cases hi2011
 have hm:=hk2009
 obtain⟨ev2042,he,hk2043⟩:=b9 hm
 refine c9k (a5h s) (fun(out2024,v2025)=>⟨[(6, .v (.string out2024)),(121,lD 6 s.Loans b6.c),(122,DI (s.Loans.length:Int)),(123,DI v2025)], [],2⟩) (out1958,0) (sb 2) he ?_
 rintro fu2044 ⟨out2024,v2025⟩ b hm hi2045
 apply vb hm<;>intro _ hm
 refine ei hm fun e2047 hm=> ?_
 refine⟨rfl, ?_⟩
 refine cy hm (b0p e2047.Back) fun x2049 hm=> ?_
 refine⟨([e2047.Owner,e2047.No,e2047.Thing,e2047.From,e2047.Until,x2049]:List Int).flatMap cI,([e2047.Owner,e2047.No,e2047.Thing,e2047.From,e2047.Until,x2049]:List Int).length,⟨rfl,rfl⟩, ?_⟩
 refine co hm (a1l ((⟨#[108,111,97,110]⟩:ByteArray)) (([e2047.Owner,e2047.No,e2047.Thing,e2047.From,e2047.Until,x2049]:List Int))) fun x2051 hm=> ?_
 obtain⟨hg,hm⟩:=c7 hm
 refine⟨hg, ?_⟩
 cases hm
 exact⟨(_,((out2024++x2051),(W (v2025+1)))),sb 2,hi2045,Nat.lt_succ_self _⟩
 cases hm
 cases hi2045
 have hm:=hk2043
 cases hm
 exact c9j (c9h _)
def a6s:Option Bool:=
 Option.bind (b1a) fun⟨x1,x2⟩=>
 Option.bind (N9 x1 (⟨2,5,1,4,7,0,0,0,0,0,0⟩:b5)) fun⟨x4,x5⟩=>
 Option.bind (Y2 x4) fun⟨x7,x8⟩=>
 Option.bind (a4S x7 2) fun⟨x10,x11⟩=>
 if(!x2)=true then
  some false
 else
  if(x5 !=0)=true then
   some false
  else
   if(x8 !=0)=true then
    some false
   else
    if(x11 !=0)=true then
     some false
    else
     if((x1.Now.Bids.length:Int) !=1)=true then
      some false
     else
      if((x4.Now.Bids.length:Int) !=1)=true then
       some false
      else
       Option.bind (idx x1.Now.Bids 0) fun e19=>
       if((e19.Night==4)&&((e19.Ballot==7)&&((e19.Value==77)&&((e19.Best==0)&&((e19.Mask==14)&&(e19.Asked==false))))))=true then
        Option.bind (idx x4.Now.Bids 0) fun e22=>
        Option.bind (a1L x10 ([(⟨3,1,2,4,7,0,77,0,0,0,0⟩:b5)]:List b5)) fun x24=>
        Option.bind (a2J 2) fun⟨x26,x27⟩=>
        Option.bind (L9 x26 8 0 100 200) fun⟨x29,x30⟩=>
        Option.bind (a0e x29 8 150) fun⟨x32,x33⟩=>
        Option.bind (a0e x29 8 200) fun⟨x35,x36⟩=>
        Option.bind (L9 x29 8 1 150 250) fun⟨x38,x39⟩=>
        Option.bind (a1w x29 8 150 250) fun⟨x41,x42⟩=>
        Option.bind (a2D x1.Now) fun⟨x44,x45⟩=>
        if(x27==0)=true then
         if(x30==0)=true then
          if(x33==0)=true then
           if(x36==0)=true then
            if(x39==93)=true then
             if(x42==0)=true then
              if((e22.Night==4)&&((e22.Ballot==7)&&((e22.Value==77)&&((e22.Best==0)&&((e22.Mask==46)&&(e22.Asked==true))))))=true then
               if x24=true then
                if(x45==0)=true then
                 if(!x32)=true then
                  if x35=true then
                   if(x41==200)=true then
                    some (x44.toList==(⟨#[114,111,117,110,100,32,49,10,98,105,100,32,52,32,55,32,55,55,32,48,32,49,52,32,48,10]⟩:ByteArray).toList)
                   else
                    some false
                  else
                   some false
                 else
                  some false
                else
                 some false
               else
                some false
              else
               some false
             else
              if((e22.Night==4)&&((e22.Ballot==7)&&((e22.Value==77)&&((e22.Best==0)&&((e22.Mask==46)&&(e22.Asked==true))))))=true then
               if x24=true then
                some false
               else
                some false
              else
               some false
            else
             if((e22.Night==4)&&((e22.Ballot==7)&&((e22.Value==77)&&((e22.Best==0)&&((e22.Mask==46)&&(e22.Asked==true))))))=true then
              if x24=true then
               some false
              else
               some false
             else
              some false
           else
            if((e22.Night==4)&&((e22.Ballot==7)&&((e22.Value==77)&&((e22.Best==0)&&((e22.Mask==46)&&(e22.Asked==true))))))=true then
             if x24=true then
              some false
             else
              some false
            else
             some false
          else
           if((e22.Night==4)&&((e22.Ballot==7)&&((e22.Value==77)&&((e22.Best==0)&&((e22.Mask==46)&&(e22.Asked==true))))))=true then
            if x24=true then
             some false
            else
             some false
           else
            some false
         else
          if((e22.Night==4)&&((e22.Ballot==7)&&((e22.Value==77)&&((e22.Best==0)&&((e22.Mask==46)&&(e22.Asked==true))))))=true then
           if x24=true then
            some false
           else
            some false
          else
           some false
        else
         if((e22.Night==4)&&((e22.Ballot==7)&&((e22.Value==77)&&((e22.Best==0)&&((e22.Mask==46)&&(e22.Asked==true))))))=true then
          if x24=true then
           some false
          else
           some false
         else
          some false
       else
        Option.bind (a1L x10 ([(⟨3,1,2,4,7,0,77,0,0,0,0⟩:b5)]:List b5)) fun x71=>
        Option.bind (a2J 2) fun⟨x73,x74⟩=>
        Option.bind (L9 x73 8 0 100 200) fun⟨x76,x77⟩=>
        Option.bind (a0e x76 8 150) fun⟨x79,x80⟩=>
        Option.bind (a0e x76 8 200) fun⟨x82,x83⟩=>
        Option.bind (L9 x76 8 1 150 250) fun⟨x85,x86⟩=>
        Option.bind (a1w x76 8 150 250) fun⟨x88,x89⟩=>
        Option.bind (a2D x1.Now) fun⟨x91,x92⟩=>
        if(x74==0)=true then
         if(x77==0)=true then
          if(x80==0)=true then
           if(x83==0)=true then
            if(x86==93)=true then
             if(x89==0)=true then
              some false
             else
              some false
            else
             some false
           else
            some false
          else
           some false
         else
          some false
        else
         some false
theorem b8r (r:Bool) (hm:a6s=some r):d7 Tryz.prog 15 [] (fun x=>x=DB r):=by
 refine zn Tryz.func15 rfl ?_
 refine cy hm (c0P) ?_
 rintro⟨x1,x2⟩ hm
 refine cy hm (a1B x1 ((⟨2,5,1,4,7,0,0,0,0,0,0⟩:b5))) ?_
 rintro⟨x4,x5⟩ hm
 refine cy hm (a7p x4) ?_
 rintro⟨x7,x8⟩ hm
 refine cy hm (b2O x7 2) ?_
 rintro⟨x10,x11⟩ hm
 apply vb hm<;>intro _ hm
 exact hm.rr
 apply vb hm<;>intro _ hm
 exact hm.rr
 apply vb hm<;>intro _ hm
 exact hm.rr
 apply vb hm<;>intro _ hm
 exact hm.rr
 apply vb hm<;>intro _ hm
 exact hm.rr
 apply vb hm<;>intro _ hm
 exact hm.rr
 refine ei hm fun _ hm=> ?_
 apply vb hm<;>intro _ hm
 refine ei hm fun _ hm=> ?_
 refine⟨([(⟨3,1,2,4,7,0,77,0,0,0,0⟩:b5)]:List b5).flatMap b5.c,([(⟨3,1,2,4,7,0,77,0,0,0,0⟩:b5)]:List b5).length,⟨rfl,rfl⟩, ?_⟩
 refine co hm (a6U x10 (([(⟨3,1,2,4,7,0,77,0,0,0,0⟩:b5)]:List b5))) fun x24 hm=> ?_
 refine cy hm (a6x 2) ?_
 rintro⟨x26,x27⟩ hm
 refine cy hm (a1u x26 8 0 100 200) ?_
 rintro⟨x29,x30⟩ hm
 refine cy hm (a4a x29 8 150) ?_
 rintro⟨x32,x33⟩ hm
 refine cy hm (a4a x29 8 200) ?_
 rintro⟨x35,x36⟩ hm
 refine cy hm (a1u x29 8 1 150 250) ?_
 rintro⟨x38,x39⟩ hm
 refine cy hm (a8z x29 8 150 250) ?_
 rintro⟨x41,x42⟩ hm
 refine cy hm (a7o x1.Now) ?_
 rintro⟨x44,x45⟩ hm
 apply vb hm<;>intro _ hm
 apply vb hm<;>intro _ hm
 apply vb hm<;>intro _ hm
 apply vb hm<;>intro _ hm
 apply vb hm<;>intro _ hm
 apply vb hm<;>intro _ hm
 apply vb hm<;>intro _ hm
 apply vb hm<;>intro _ hm
 apply vb hm<;>intro _ hm
 apply vb hm<;>intro _ hm
 apply vb hm<;>intro _ hm
 apply vb hm<;>intro _ hm
 exact hm.rr
 exact hm.rr
 exact hm.rr
 exact hm.rr
 exact hm.rr
 exact hm.rr
 exact hm.rr
 apply vb hm<;>intro _ hm
 apply vb hm<;>intro _ hm
 exact hm.rr
 exact hm.rr
 exact hm.rr
 apply vb hm<;>intro _ hm
 apply vb hm<;>intro _ hm
 exact hm.rr
 exact hm.rr
 exact hm.rr
 apply vb hm<;>intro _ hm
 apply vb hm<;>intro _ hm
 exact hm.rr
 exact hm.rr
 exact hm.rr
 apply vb hm<;>intro _ hm
 apply vb hm<;>intro _ hm
 exact hm.rr
 exact hm.rr
 exact hm.rr
 apply vb hm<;>intro _ hm
 apply vb hm<;>intro _ hm
 exact hm.rr
 exact hm.rr
 exact hm.rr
 apply vb hm<;>intro _ hm
 apply vb hm<;>intro _ hm
 exact hm.rr
 exact hm.rr
 exact hm.rr
 refine⟨([(⟨3,1,2,4,7,0,77,0,0,0,0⟩:b5)]:List b5).flatMap b5.c,([(⟨3,1,2,4,7,0,77,0,0,0,0⟩:b5)]:List b5).length,⟨rfl,rfl⟩, ?_⟩
 refine co hm (a6U x10 (([(⟨3,1,2,4,7,0,77,0,0,0,0⟩:b5)]:List b5))) fun x71 hm=> ?_
 refine cy hm (a6x 2) ?_
 rintro⟨x73,x74⟩ hm
 refine cy hm (a1u x73 8 0 100 200) ?_
 rintro⟨x76,x77⟩ hm
 refine cy hm (a4a x76 8 150) ?_
 rintro⟨x79,x80⟩ hm
 refine cy hm (a4a x76 8 200) ?_
 rintro⟨x82,x83⟩ hm
 refine cy hm (a1u x76 8 1 150 250) ?_
 rintro⟨x85,x86⟩ hm
 refine cy hm (a8z x76 8 150 250) ?_
 rintro⟨x88,x89⟩ hm
 refine cy hm (a7o x1.Now) ?_
 rintro⟨x91,x92⟩ hm
 apply vb hm<;>intro _ hm
 apply vb hm<;>intro _ hm
 apply vb hm<;>intro _ hm
 apply vb hm<;>intro _ hm
 apply vb hm<;>intro _ hm
 apply vb hm<;>intro _ hm
 exact hm.rr
 exact hm.rr
 exact hm.rr
 exact hm.rr
 exact hm.rr
 exact hm.rr
 exact hm.rr
def a2P (l:(List U6)) (c:b5) (a:a7X):Option Bool:=
 Option.bind (a4e l 25) fun x1=>
 Option.bind (w7 a.Night 6) fun x3=>
 gd (0≤x3∧x3<6)<|
 Option.bind (idx [x1.All.1,x1.All.2.1,x1.All.2.2.1,x1.All.2.2.2.1,x1.All.2.2.2.2.1,x1.All.2.2.2.2.2] x3) fun e5=>
 Option.bind (if(decide ((x1.Calls.length:Int)>0))=true then
  Option.bind (w7 c.Kind 3) fun x12=>
  some (decide (x12>0))
 else
  some false) fun v10=>
 Option.bind (if v10=true then
  Option.bind (w7 c.No (x1.Calls.length:Int)) fun x24=>
  Option.bind (idx x1.Calls x24) fun e26=>
  gd (0≤e26.To∧e26.To<6)<|
  Option.bind (idx [x1.All.1,x1.All.2.1,x1.All.2.2.1,x1.All.2.2.2.1,x1.All.2.2.2.2.1,x1.All.2.2.2.2.2] e26.To) fun e28=>
  some (e26,e28)
 else
  some (c,e5)) fun⟨v21,v22⟩=>
 Option.bind (Y4 v22 a.Night a.Value) fun⟨x30,x31⟩=>
 Option.bind (L9 v22 a.Deal.Thing a.Deal.To a.Deal.From a.Deal.Until) fun⟨x33,x34⟩=>
 Option.bind (a1E v22 a.Loan.1 a.Loan.2.1 a.Loan.2.2) fun⟨x36,x37⟩=>
 Option.bind (N9 v22 v21) fun⟨x39,x40⟩=>
 Option.bind (Y2 v22) fun⟨x42,x43⟩=>
 Option.bind (a3w v22) fun⟨x45,x46⟩=>
 Option.bind (if(x43 !=0)=true then
  some true
 else
  if(x46 !=0)=true then
   some true
  else
   Option.bind (I9 x42.Safe v22.Now) fun x64=>
   if(!x64)=true then
    some true
   else
    Option.bind (I9 x42.Now v22.Now) fun x67=>
    if(!x67)=true then
     some true
    else
     Option.bind (I9 x45.Now v22.Safe) fun x70=>
     if(!x70)=true then
      some true
     else
      Option.bind (I9 x45.Safe v22.Safe) fun x73=>
      some (!x73)) fun v61=>
 if v61=true then
  some false
 else
  Option.bind (if(x31==0)=true then
   Option.bind (E5 v22 x30) fun x131=>
   if(!x131)=true then
    some true
   else
    if(x34==0)=true then
     Option.bind (E5 v22 x33) fun x135=>
     if(!x135)=true then
      some true
     else
      if(x37==0)=true then
       Option.bind (E5 v22 x36) fun x139=>
       if(!x139)=true then
        some true
       else
        if(x40==0)=true then
         Option.bind (E5 v22 x39) fun x143=>
         some (!x143)
        else
         some false
      else
       if(x40==0)=true then
        Option.bind (E5 v22 x39) fun x146=>
        some (!x146)
       else
        some false
    else
     if(x37==0)=true then
      Option.bind (E5 v22 x36) fun x149=>
      if(!x149)=true then
       some true
      else
       if(x40==0)=true then
        Option.bind (E5 v22 x39) fun x153=>
        some (!x153)
       else
        some false
     else
      if(x40==0)=true then
       Option.bind (E5 v22 x39) fun x156=>
       some (!x156)
      else
       some false
  else
   if(x34==0)=true then
    Option.bind (E5 v22 x33) fun x159=>
    if(!x159)=true then
     some true
    else
     if(x37==0)=true then
      Option.bind (E5 v22 x36) fun x163=>
      if(!x163)=true then
       some true
      else
       if(x40==0)=true then
        Option.bind (E5 v22 x39) fun x167=>
        some (!x167)
       else
        some false
     else
      if(x40==0)=true then
       Option.bind (E5 v22 x39) fun x170=>
       some (!x170)
      else
       some false
   else
    if(x37==0)=true then
     Option.bind (E5 v22 x36) fun x173=>
     if(!x173)=true then
      some true
     else
      if(x40==0)=true then
       Option.bind (E5 v22 x39) fun x177=>
       some (!x177)
      else
       some false
    else
     if(x40==0)=true then
      Option.bind (E5 v22 x39) fun x180=>
      some (!x180)
     else
      some false) fun v129=>
  if v129=true then
   some false
  else
   Option.bind (if(x40==0)=true then
    Option.bind (N9 x39 v21) fun⟨x195,x196⟩=>
    Option.bind (if(x196 !=0)=true then
     some true
    else
     Option.bind (a5a x195 x39) fun x203=>
     some (!x203)) fun v201=>
    if v201=true then
     some (.inr false)
    else
     some (.inl ())
   else
    some (.inl ()):Option (Sum Unit Bool)) fun e=>
   match e with
   | .inl _=>
    Option.bind (a6s) fun x208=>
    some x208
   | .inr rr210=>
    some rr210
theorem b0t (l:(List U6)) (c:b5) (a:a7X) (r:Bool) (hm:a2P l c a=some r):d7 Tryz.prog 3 [lD 9 l U6.c, .agg (b5.c c), .agg (a7X.c a)] (fun x=>x=DB r):=by
 refine b9Q (X:=⟨Tryz.prog,tt,Tryz.f3.ntmps,pl3, [], [], [], [], []⟩) pok _ Tryz.func3 rfl rfl (Nat.le_of_ble_eq_true rfl) ?_
 refine cy hm (b6n l 25) fun x1 hm=> ?_
 refine cy hm (E1 a.Night 6) fun x3 hm=> ?_
 obtain⟨hg,hm⟩:=c7 hm
 refine⟨hg, ?_⟩
 obtain⟨e5,hx6,hm⟩:=b9 hm
 refine⟨_,ldx (r:=(a6.c e5)) (c:=a6.c) (z:=13) (pre:= []) (post:= [lD 11 x1.Calls b5.c]) (b:=0) (off:=0) (fun _=>rfl) hx6 rfl rfl (by omega) rfl, ?_⟩
 obtain⟨v10,hx216,ho217⟩:=b9 hm
 refine .join (⟨[(4, .own 0 0),(5, .own 1 0),(7, .own 2 0),(8, .own 3 0),(40,DB v10)], [(0, .blk (b5.c c) 24),(1, .blk (a7X.c a) 29),(2, .blk (a6.c x1.All.1++(a6.c x1.All.2.1++(a6.c x1.All.2.2.1++(a6.c x1.All.2.2.2.1++(a6.c x1.All.2.2.2.2.1++(a6.c x1.All.2.2.2.2.2++ [lD 11 x1.Calls b5.c])))))) 42),(3, .blk (a6.c e5) 38)],4⟩:Sy) True ?_ (fun _=> ?_)
 replace hm:=hx216
 apply vb hm<;>intro _ hm
 refine cy hm (E1 c.Kind 3) fun x219 hm=> ?_
 cases hm
 exact⟨trivial,sb 4⟩
 cases hm
 exact⟨trivial,sb 4⟩
 have hm:=ho217
 obtain⟨⟨v228,v229⟩,hx422,ho423⟩:=b9 hm
 refine .join (⟨[(4, .own 0 0),(5, .own 1 0),(8, .own 3 0)], [(0, .blk (b5.c v228) 24),(1, .blk (a7X.c a) 29),(3, .blk (a6.c v229) 38)],4⟩:Sy) True ?_ (fun _=> ?_)
 replace hm:=hx422
 apply vb hm<;>intro _ hm
 refine⟨rfl, ?_⟩
 refine cy hm (E1 c.No ((x1.Calls.length:Int))) fun x425 hm=> ?_
 refine ei hm fun _ hm=> ?_
 obtain⟨hg,hm⟩:=c7 hm
 refine⟨hg, ?_⟩
 obtain⟨e429,hx430,hm⟩:=b9 hm
 refine⟨_,ldx (r:=(a6.c e429)) (c:=a6.c) (z:=13) (pre:= []) (post:= [lD 11 x1.Calls b5.c]) (b:=0) (off:=0) (fun _=>rfl) hx430 rfl rfl (by omega) rfl, ?_⟩
 cases hm
 exact⟨trivial,sb 4⟩
 cases hm
 exact⟨trivial,sb 4⟩
 have hm:=ho423
 refine cy hm (a6h v229 a.Night a.Value) ?_
 rintro⟨x431,x432⟩ hm
 refine cy hm (a1u v229 a.Deal.Thing a.Deal.To a.Deal.From a.Deal.Until) ?_
 rintro⟨x434,x435⟩ hm
 refine⟨by decide, ?_⟩
 refine⟨by decide, ?_⟩
 refine⟨by decide, ?_⟩
 refine cy hm (b1N v229 a.Loan.1 a.Loan.2.1 a.Loan.2.2) ?_
 rintro⟨x437,x438⟩ hm
 refine cy hm (a1B v229 v228) ?_
 rintro⟨x440,x441⟩ hm
 refine cy hm (a7p v229) ?_
 rintro⟨x443,x444⟩ hm
 refine cy hm (b4h v229) ?_
 rintro⟨x446,x447⟩ hm
 obtain⟨v462,hx615,ho616⟩:=b9 hm
 refine .join (⟨[(4, .own 0 0),(8, .own 3 0),(9, .own 4 0),(10,DI x432),(11, .own 5 0),(12,DI x435),(13, .own 6 0),(14,DI x438),(15, .own 7 0),(16,DI x441),(149,DB v462)], [(0, .blk (b5.c v228) 24),(3, .blk (a6.c v229) 38),(4, .blk (a6.c x431) 38),(5, .blk (a6.c x434) 38),(6, .blk (a6.c x437) 38),(7, .blk (a6.c x440) 38)],10⟩:Sy) True ?_ (fun _=> ?_)
 replace hm:=hx615
 apply vb hm<;>intro _ hm
 cases hm
 exact⟨trivial,sb 10⟩
 apply vb hm<;>intro _ hm
 cases hm
 exact⟨trivial,sb 10⟩
 refine cy hm (P9 x443.Safe v229.Now) fun x619 hm=> ?_
 apply vb hm<;>intro _ hm
 cases hm
 exact⟨trivial,sb 10⟩
 refine cy hm (P9 x443.Now v229.Now) fun x622 hm=> ?_
 apply vb hm<;>intro _ hm
 cases hm
 exact⟨trivial,sb 10⟩
 refine cy hm (P9 x446.Now v229.Safe) fun x625 hm=> ?_
 apply vb hm<;>intro _ hm
 cases hm
 exact⟨trivial,sb 10⟩
 refine cy hm (P9 x446.Safe v229.Safe) fun x628 hm=> ?_
 cases hm
 exact⟨trivial,sb 10⟩
 have hm:=ho616
 refine .two ?_
 apply vb hm<;>intro _ hm
 exact hm.rr
 obtain⟨v684,hx768,ho769⟩:=b9 hm
 refine .join (⟨[(4, .own 0 0),(15, .own 7 0),(16,DI x441),(187,DB v684)], [(0, .blk (b5.c v228) 24),(7, .blk (a6.c x440) 38)],10⟩:Sy) True ?_ (fun _=> ?_)
 replace hm:=hx768
 apply vb hm<;>intro _ hm
 refine cy hm (L0 v229 x431) fun x771 hm=> ?_
 apply vb hm<;>intro _ hm
 cases hm
 exact⟨trivial,sb 10⟩
 apply vb hm<;>intro _ hm
 refine cy hm (L0 v229 x434) fun x775 hm=> ?_
 apply vb hm<;>intro _ hm
 cases hm
 exact⟨trivial,sb 10⟩
 apply vb hm<;>intro _ hm
 refine cy hm (L0 v229 x437) fun x779 hm=> ?_
 apply vb hm<;>intro _ hm
 cases hm
 exact⟨trivial,sb 10⟩
 apply vb hm<;>intro _ hm
 refine cy hm (L0 v229 x440) fun x783 hm=> ?_
 cases hm
 exact⟨trivial,sb 10⟩
 cases hm
 exact⟨trivial,sb 10⟩
 apply vb hm<;>intro _ hm
 refine cy hm (L0 v229 x440) fun x786 hm=> ?_
 cases hm
 exact⟨trivial,sb 10⟩
 cases hm
 exact⟨trivial,sb 10⟩
 apply vb hm<;>intro _ hm
 refine cy hm (L0 v229 x437) fun x789 hm=> ?_
 apply vb hm<;>intro _ hm
 cases hm
 exact⟨trivial,sb 10⟩
 apply vb hm<;>intro _ hm
 refine cy hm (L0 v229 x440) fun x793 hm=> ?_
 cases hm
 exact⟨trivial,sb 10⟩
 cases hm
 exact⟨trivial,sb 10⟩
 apply vb hm<;>intro _ hm
 refine cy hm (L0 v229 x440) fun x796 hm=> ?_
 cases hm
 exact⟨trivial,sb 10⟩
 cases hm
 exact⟨trivial,sb 10⟩
 apply vb hm<;>intro _ hm
 refine cy hm (L0 v229 x434) fun x799 hm=> ?_
 apply vb hm<;>intro _ hm
 cases hm
 exact⟨trivial,sb 10⟩
 apply vb hm<;>intro _ hm
 refine cy hm (L0 v229 x437) fun x803 hm=> ?_
 apply vb hm<;>intro _ hm
 cases hm
 exact⟨trivial,sb 10⟩
 apply vb hm<;>intro _ hm
 refine cy hm (L0 v229 x440) fun x807 hm=> ?_
 cases hm
 exact⟨trivial,sb 10⟩
 cases hm
 exact⟨trivial,sb 10⟩
 apply vb hm<;>intro _ hm
 refine cy hm (L0 v229 x440) fun x810 hm=> ?_
 cases hm
 exact⟨trivial,sb 10⟩
 cases hm
 exact⟨trivial,sb 10⟩
 apply vb hm<;>intro _ hm
 refine cy hm (L0 v229 x437) fun x813 hm=> ?_
 apply vb hm<;>intro _ hm
 cases hm
 exact⟨trivial,sb 10⟩
 apply vb hm<;>intro _ hm
 refine cy hm (L0 v229 x440) fun x817 hm=> ?_
 cases hm
 exact⟨trivial,sb 10⟩
 cases hm
 exact⟨trivial,sb 10⟩
 apply vb hm<;>intro _ hm
 refine cy hm (L0 v229 x440) fun x820 hm=> ?_
 cases hm
 exact⟨trivial,sb 10⟩
 cases hm
 exact⟨trivial,sb 10⟩
 have hm:=ho769
 refine .two ?_
 apply vb hm<;>intro _ hm
 exact hm.rr
 obtain⟨ev851,hx852,ho853⟩:=b9 hm
 refine .join (match ev851 with| .inl _=>(⟨[], [],11⟩:Sy)| .inr _=>⟨[], [],0⟩) (∃x,ev851= .inl x) ?_ ?_
 replace hm:=hx852
 apply vb hm<;>intro _ hm
 refine cy hm (a1B x440 v228) ?_
 rintro⟨x855,x856⟩ hm
 obtain⟨v861,hx869,ho870⟩:=b9 hm
 refine .join (⟨[(203,DB v861)], [],11⟩:Sy) True ?_ (fun _=> ?_)
 replace hm:=hx869
 apply vb hm<;>intro _ hm
 cases hm
 exact⟨trivial,sb 11⟩
 refine cy hm (b9G x855 x440) fun x872 hm=> ?_
 cases hm
 exact⟨trivial,sb 11⟩
 have hm:=ho870
 refine .two ?_
 apply vb hm<;>intro _ hm
 cases hm
 have hm:=ho853
 exact hm.rr
 cases hm
 exact⟨⟨_,rfl⟩,sb 11⟩
 cases hm
 exact⟨⟨_,rfl⟩,sb 11⟩
 rintro⟨⟨⟩,rfl⟩
 have hm:=ho853
 refine cy hm (b8r) fun x876 hm=> ?_
 exact hm.rr
end Go.Proofs.YtlngjieodaocfaaGreatDoor
