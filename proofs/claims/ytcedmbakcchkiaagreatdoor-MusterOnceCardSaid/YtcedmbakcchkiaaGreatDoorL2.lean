/- Functions of the program as pure Lean functions, and that calls do what these say. Printed by a program out of the given form. -/
import Derived.Test.YtcedmbakcchkiaaGreatDoorL1
set_option linter.unusedVariables false
set_option linter.unusedSimpArgs false
namespace Go.Proofs.YtcedmbakcchkiaaGreatDoor
open Go Go.RowKit Go.Sx
set_option maxRecDepth 100000
set_option maxHeartbeats 20000000
def R1 (x:a8) (night:Int) (value:Int):Option (a8×Int):=
 Option.bind (R0 x) fun e=>
 match e with
 | .inl x8=>
  if(x8 !=0)=true then
   some ((⟨0,(⟨0, [], [], [], [], []⟩:c8),(⟨0, [], [], [], [], []⟩:c8)⟩:a8),x8)
  else
   Option.bind (z6 night) fun x32=>
   if(!x32)=true then
    some ((⟨0,(⟨0, [], [], [], [], []⟩:c8),(⟨0, [], [], [], [], []⟩:c8)⟩:a8),6)
   else
    Option.bind (m9 value) fun x35=>
    if(!x35)=true then
     some ((⟨0,(⟨0, [], [], [], [], []⟩:c8),(⟨0, [], [], [], [], []⟩:c8)⟩:a8),1)
    else
     none
 | .inr (v9,v10,v11,v12,v13,v14,v15,v16,v17,v18,x19,x20,x21)=>
  Option.bind (z6 night) fun x38=>
  if(!x38)=true then
   some ((⟨0,(⟨0, [], [], [], [], []⟩:c8),(⟨0, [], [], [], [], []⟩:c8)⟩:a8),6)
  else
   Option.bind (m9 value) fun x41=>
   if(!x41)=true then
    some ((⟨0,(⟨0, [], [], [], [], []⟩:c8),(⟨0, [], [], [], [], []⟩:c8)⟩:a8),1)
   else
    if(x20==9999)=true then
     some ((⟨0,(⟨0, [], [], [], [], []⟩:c8),(⟨0, [], [], [], [], []⟩:c8)⟩:a8),2)
    else
     Option.bind (X7 night value v10 x19 x20) fun e=>
     match e with
     | .inl (v52,x53)=>
      Option.bind (idx v52 x53) fun e63=>
      Option.bind (idx v52 x53) fun e65=>
      some ((⟨x19,(⟨(W (x20+1)),v9,(v52.set x53.toNat (⟨night,(W ((W (6*(W (x20+1))))+x19)),value,0,0,false⟩:i0)),v11,v12,v13⟩:c8),(⟨x21,v14,v15,v16,v17,v18⟩:c8)⟩:a8),0)
     | .inr _=>
      some ((⟨0,(⟨0, [], [], [], [], []⟩:c8),(⟨0, [], [], [], [], []⟩:c8)⟩:a8),2)
theorem a2P (x:a8) (night:Int) (value:Int) (r:(a8×Int)) (hm:R1 x night value=some r):k9 Tryz.prog 31 [.agg (a8.c x),DI night,DI value] (fun x=>x= .tup [.agg (a8.c r.1),DI r.2]):=by
 refine zy c6S [99,106,149,210,211,220] [62] [61,88] Tryz.func31 rfl ?_
 obtain⟨ev29,he30,hm⟩:=b8 hm
 refine O7.ofZ pok ⟨[(0, .agg (a8.c x)),(1000000, .agg (a8.c x)),(1000001,DI night),(1000002,DI value),(1000003, .own 0 0),(1000006, .own 1 0),(1000007,DI 0)], [(0, .blk (a8.c x) 30),(1, .blk [DI 0,DI 0,nS,nS,nS,nS,nS,DI 0,nS,nS,nS,nS,nS] 30)],2⟩ (match ev29 with| .inl x8=>(⟨[(0, .agg (a8.c x)),(1,DI night),(2,DI value),(3, .own 0 0),(6, .own 1 0),(7,DI 0),(16, .tup [.v (.pointer none),DI x8])], [(0, .blk (a8.c x) 30),(1, .blk [DI 0,DI 0,nS,nS,nS,nS,nS,DI 0,nS,nS,nS,nS,nS] 30)],2⟩:Sy)| .inr (v9,v10,v11,v12,v13,v14,v15,v16,v17,v18,x19,x20,x21)=>(⟨[(0, .agg (a8.c x)),(1,DI night),(2,DI value),(3, .own 0 0),(6, .own 1 0),(7,DI 0),(16, .tup [.own 13 0,DI 0])], [(0, .blk (a8.c x) 30),(1, .blk [DI 0,DI 0,nS,nS,nS,nS,nS,DI 0,nS,nS,nS,nS,nS] 30),(3,rE 4 v9 d0.c 110),(4,rE 6 v10 i0.c 108),(5,rE 4 v11 c9.c 149),(6,rE 5 v12 c0.c 112),(7,rE 6 v13 d7.c 114),(8,rE 4 v14 d0.c 110),(9,rE 6 v15 i0.c 108),(10,rE 4 v16 c9.c 149),(11,rE 5 v17 c0.c 112),(12,rE 6 v18 d7.c 114),(13, .blk [DI x19,DI x20, .row 3 4, .row 4 6, .row 5 4, .row 6 5, .row 7 6,DI x21, .row 8 4, .row 9 6, .row 10 4, .row 11 5, .row 12 6] 102)],14⟩:Sy):Sy) b6V [99,106,149,210,211,220] [62] [61,88] Tryz.func61 rfl rfl rfl (i6.of 2 rfl (tA rfl) ⟨hR rfl,hR rfl,trivial⟩) (fun sv=> ?_) ?_
 have hm:=he30
 refine cy hm (R8 x) fun x74 hm=> ?_
 apply vb hm<;>intro _ hm
 cases hm
 exact i6.of 2 rfl (tA rfl) ⟨hR rfl,hR rfl,trivial⟩
 refine⟨rfl, ?_⟩
 obtain⟨x77,hx78,hm⟩:=b8 hm
 refine .inr (a7n.mk ⟨_,_,L6 x.Now _ hx78, ?_⟩)
 obtain⟨x79,hx80,hm⟩:=b8 hm
 refine .inr (a7n.mk ⟨_,_,L6 x.Safe _ hx80, ?_⟩)
 cases hm
 exact i6.of 14 rfl (tA rfl) ⟨hR rfl,hR rfl,hW rfl,hW rfl,hW rfl,hW rfl,hW rfl,hW rfl,hW rfl,hW rfl,hW rfl,hW rfl,hR rfl,trivial⟩
 rcases ev29 with x8|⟨v9,v10,v11,v12,v13,v14,v15,v16,v17,v18,x19,x20,x21⟩
 apply vb hm<;>intro _ hm
 cases hm
 exact j1.le (⟨_,rfl,⟨⟨_,rfl,⟨leD.refl _,leD.refl _,leD.nil,leD.nil,leD.nil,leD.nil,leD.nil,leD.refl _,leD.nil,leD.nil,leD.nil,leD.nil,leD.nil,trivial⟩⟩,leD.refl _,trivial⟩⟩)
 refine cy hm (B3 night) fun x32 hm=> ?_
 apply vb hm<;>intro _ hm
 cases hm
 exact j1.le (⟨_,rfl,⟨⟨_,rfl,⟨leD.refl _,leD.refl _,leD.nil,leD.nil,leD.nil,leD.nil,leD.nil,leD.refl _,leD.nil,leD.nil,leD.nil,leD.nil,leD.nil,trivial⟩⟩,leD.refl _,trivial⟩⟩)
 refine cy hm (q0 value) fun x35 hm=> ?_
 apply vb hm<;>intro _ hm
 cases hm
 exact j1.le (⟨_,rfl,⟨⟨_,rfl,⟨leD.refl _,leD.refl _,leD.nil,leD.nil,leD.nil,leD.nil,leD.nil,leD.refl _,leD.nil,leD.nil,leD.nil,leD.nil,leD.nil,trivial⟩⟩,leD.refl _,trivial⟩⟩)
 cases hm
 refine cy hm (B3 night) fun x38 hm=> ?_
 apply vb hm<;>intro _ hm
 cases hm
 exact j1.le (⟨_,rfl,⟨⟨_,rfl,⟨leD.refl _,leD.refl _,leD.nil,leD.nil,leD.nil,leD.nil,leD.nil,leD.refl _,leD.nil,leD.nil,leD.nil,leD.nil,leD.nil,trivial⟩⟩,leD.refl _,trivial⟩⟩)
 refine cy hm (q0 value) fun x41 hm=> ?_
 apply vb hm<;>intro _ hm
 cases hm
 exact j1.le (⟨_,rfl,⟨⟨_,rfl,⟨leD.refl _,leD.refl _,leD.nil,leD.nil,leD.nil,leD.nil,leD.nil,leD.refl _,leD.nil,leD.nil,leD.nil,leD.nil,leD.nil,trivial⟩⟩,leD.refl _,trivial⟩⟩)
 apply vb hm<;>intro _ hm
 cases hm
 exact j1.le (⟨_,rfl,⟨⟨_,rfl,⟨leD.refl _,leD.refl _,leD.nil,leD.nil,leD.nil,leD.nil,leD.nil,leD.refl _,leD.nil,leD.nil,leD.nil,leD.nil,leD.nil,trivial⟩⟩,leD.refl _,trivial⟩⟩)
 refine⟨rfl, ?_⟩
 refine⟨rfl, ?_⟩
 obtain⟨ev61,he62,hm⟩:=b8 hm
 refine O7.ofZ pok ⟨[(0, .row 4 6),(1, .agg [DI night,DI (W ((W (6*(W (x20+1))))+x19)),DI value,DI 0,DI 0,DB false]),(2,DI 12),(3, .fn 89 [] []),(1000000, .agg (a8.c x)),(1000001,DI night),(1000002,DI value),(1000003, .own 0 0),(1000006, .own 1 0),(1000007,DI 0),(1000008, .own 13 0),(1000009,DI 0),(1000010, .own 14 0),(1000019,DB false),(1000024,DB (!x38)),(1000029,DB (!x41)),(1000034,DB (x20==9999))], [(0, .blk (a8.c x) 30),(1, .blk [DI 0,DI 0,nS,nS,nS,nS,nS,DI 0,nS,nS,nS,nS,nS] 30),(3,rE 4 v9 d0.c 110),(4,rE 6 v10 i0.c 108),(5,rE 4 v11 c9.c 149),(6,rE 5 v12 c0.c 112),(7,rE 6 v13 d7.c 114),(8,rE 4 v14 d0.c 110),(9,rE 6 v15 i0.c 108),(10,rE 4 v16 c9.c 149),(11,rE 5 v17 c0.c 112),(12,rE 6 v18 d7.c 114),(13, .blk [DI x19,DI (W (x20+1)), .row 3 4, .row 4 6, .row 5 4, .row 6 5, .row 7 6,DI x21, .row 8 4, .row 9 6, .row 10 4, .row 11 5, .row 12 6] 102),(14, .blk [DI night,DI (W ((W (6*(W (x20+1))))+x19)),DI value,DI 0,DI 0,DB false] 108)],15⟩ (match ev61 with| .inl (v52,x53)=>(⟨[(0, .agg (a8.c x)),(1,DI night),(2,DI value),(3, .own 0 0),(6, .own 1 0),(7,DI 0),(8, .own 13 0),(9,DI 0),(10, .own 14 0),(19,DB false),(24,DB (!x38)),(29,DB (!x41)),(34,DB (x20==9999)),(78, .tup [.row 4 6,DI x53,DB true])], [(0, .blk (a8.c x) 30),(1, .blk [DI 0,DI 0,nS,nS,nS,nS,nS,DI 0,nS,nS,nS,nS,nS] 30),(3,rE 4 v9 d0.c 110),(4,rE 6 v52 i0.c 108),(5,rE 4 v11 c9.c 149),(6,rE 5 v12 c0.c 112),(7,rE 6 v13 d7.c 114),(8,rE 4 v14 d0.c 110),(9,rE 6 v15 i0.c 108),(10,rE 4 v16 c9.c 149),(11,rE 5 v17 c0.c 112),(12,rE 6 v18 d7.c 114),(13, .blk [DI x19,DI (W (x20+1)), .row 3 4, .bad, .row 5 4, .row 6 5, .row 7 6,DI x21, .row 8 4, .row 9 6, .row 10 4, .row 11 5, .row 12 6] 102),(14, .blk [DI night,DI (W ((W (6*(W (x20+1))))+x19)),DI value,DI 0,DI 0,DB false] 108)],15⟩:Sy)| .inr _=>(⟨[(0, .agg (a8.c x)),(1,DI night),(2,DI value),(3, .own 0 0),(6, .own 1 0),(7,DI 0),(8, .own 13 0),(9,DI 0),(10, .own 14 0),(19,DB false),(24,DB (!x38)),(29,DB (!x41)),(34,DB (x20==9999)),(78, .tup [nS,DI 0,DB false])], [(0, .blk (a8.c x) 30),(1, .blk [DI 0,DI 0,nS,nS,nS,nS,nS,DI 0,nS,nS,nS,nS,nS] 30),(3,rE 4 v9 d0.c 110),(4,rE 6 v10 i0.c 108),(5,rE 4 v11 c9.c 149),(6,rE 5 v12 c0.c 112),(7,rE 6 v13 d7.c 114),(8,rE 4 v14 d0.c 110),(9,rE 6 v15 i0.c 108),(10,rE 4 v16 c9.c 149),(11,rE 5 v17 c0.c 112),(12,rE 6 v18 d7.c 114),(13, .blk [DI x19,DI (W (x20+1)), .row 3 4, .row 4 6, .row 5 4, .row 6 5, .row 7 6,DI x21, .row 8 4, .row 9 6, .row 10 4, .row 11 5, .row 12 6] 102),(14, .blk [DI night,DI (W ((W (6*(W (x20+1))))+x19)),DI value,DI 0,DI 0,DB false] 108)],15⟩:Sy):Sy) [] [99,106,149,210,211,220] [62] [61,88] Tryz.func88 rfl rfl rfl (i6.of 15 rfl (tA rfl) ⟨hR rfl,hR rfl,hW rfl,hW rfl,hW rfl,hW rfl,hW rfl,hW rfl,hW rfl,hW rfl,hW rfl,hW rfl,hR rfl,hR rfl,trivial⟩) (fun sv=> ?_) ?_
 have hm:=he62
 refine co hm (a0c v10 ((⟨night,(W ((W (6*(W (x20+1))))+x19)),value,0,0,false⟩:i0))) ?_
 rintro⟨x67,x68⟩ hm
 apply vb hm<;>intro _ hm
 cases hm
 exact i6.of 15 rfl (tA rfl) ⟨hR rfl,hR rfl,hW rfl,hW rfl,hW rfl,hW rfl,hW rfl,hW rfl,hW rfl,hW rfl,hW rfl,hW rfl,⟨_,rfl,⟨leD.refl _,leD.refl _,leD.refl _,leD.refl _,leD.refl _,leD.refl _,leD.refl _,leD.refl _,leD.refl _,leD.refl _,leD.refl _,leD.refl _,trivial⟩⟩,hR rfl,trivial⟩
 apply vb hm<;>intro _ hm
 cases hm
 exact i6.of 15 rfl (tA rfl) ⟨hR rfl,hR rfl,hW rfl,hW rfl,hW rfl,hW rfl,hW rfl,hW rfl,hW rfl,hW rfl,hW rfl,hW rfl,hR rfl,hR rfl,trivial⟩
 refine⟨([(⟨night,(W ((W (6*(W (x20+1))))+x19)),value,0,0,false⟩:i0)]:List i0).flatMap i0.c,([(⟨night,(W ((W (6*(W (x20+1))))+x19)),value,0,0,false⟩:i0)]:List i0).length,⟨rfl,rfl⟩, ?_⟩
 obtain⟨x72,hx73,hm⟩:=b8 hm
 refine .inl (a9O.mk ⟨_,_,_,_,_,_,_,rfl,a2w v10 x67 (([(⟨night,(W ((W (6*(W (x20+1))))+x19)),value,0,0,false⟩:i0)]:List i0)) _ hx73, ?_⟩)
 cases hm
 exact i6.of 15 rfl (tA rfl) ⟨hR rfl,hR rfl,hW rfl,hW rfl,hW rfl,hW rfl,hW rfl,hW rfl,hW rfl,hW rfl,hW rfl,hW rfl,hR rfl,hR rfl,trivial⟩
 rcases ev61 with⟨v52,x53⟩|⟨⟩
 obtain⟨e63,hx64,hm⟩:=b8 hm
 refine⟨S7 hx64, ?_⟩
 obtain⟨e65,hx66,hm⟩:=b8 hm
 refine⟨_,K0 (fun _=>rfl) hx66,_,O4 (y:=(⟨night,(W ((W (6*(W (x20+1))))+x19)),value,0,0,false⟩:i0)) (fun _=>rfl) hx66, ?_⟩
 cases hm
 exact j1.le (by first|exact leD.refl _|(simp only [a8.c,lD,List.length_set];exact leD.refl _))
 cases hm
 exact j1.le (⟨_,rfl,⟨⟨_,rfl,⟨leD.refl _,leD.refl _,leD.nil,leD.nil,leD.nil,leD.nil,leD.nil,leD.refl _,leD.nil,leD.nil,leD.nil,leD.nil,leD.nil,trivial⟩⟩,leD.refl _,trivial⟩⟩)
def a8W:(Bool×Int×Int×Int×(List d0)×(List i0)×(List c9)×(List c0)×(List d7)×Int×(List d0)×(List i0)×(List c9)×(List c0)×(List d7))→Option (Sum (Bool×Int×Int×Int×(List d0)×(List i0)×(List c9)×(List c0)×(List d7)×Int×(List d0)×(List i0)×(List c9)×(List c0)×(List d7)) (Bool×Int×Int×Int×(List d0)×(List i0)×(List c9)×(List c0)×(List d7)×Int×(List d0)×(List i0)×(List c9)×(List c0)×(List d7))):=fun(ok12,d13,v14,v15,v16,v17,v18,v19,v20,v21,v22,v23,v24,v25,v26)=>
 if(decide (d13≤3))=true then
  Option.bind (Q9 (⟨v14,(⟨v15,v16,v17,v18,v19,v20⟩:c8),(⟨v21,v22,v23,v24,v25,v26⟩:c8)⟩:a8) (⟨2,d13,1,4,7,0,0,0,0,0,0⟩:b9)) fun⟨x33,x34⟩=>
  if ok12=true then
   some (.inl ((x34==0),(W (d13+1)),x33.Me,x33.Now.Round,x33.Now.Slots,x33.Now.Bids,x33.Now.Heard,x33.Now.Leases,x33.Now.Loans,x33.Safe.Round,x33.Safe.Slots,x33.Safe.Bids,x33.Safe.Heard,x33.Safe.Leases,x33.Safe.Loans))
  else
   some (.inl (false,(W (d13+1)),x33.Me,x33.Now.Round,x33.Now.Slots,x33.Now.Bids,x33.Now.Heard,x33.Now.Leases,x33.Now.Loans,x33.Safe.Round,x33.Safe.Slots,x33.Safe.Bids,x33.Safe.Heard,x33.Safe.Leases,x33.Safe.Loans))
 else
  some (.inr (ok12,d13,v14,v15,v16,v17,v18,v19,v20,v21,v22,v23,v24,v25,v26))
def a8l:(Int×Int×Int×(List d0)×(List i0)×(List c9)×(List c0)×(List d7)×Int×(List d0)×(List i0)×(List c9)×(List c0)×(List d7))→Option (Sum (Int×Int×Int×(List d0)×(List i0)×(List c9)×(List c0)×(List d7)×Int×(List d0)×(List i0)×(List c9)×(List c0)×(List d7)) (Int×Int×Int×(List d0)×(List i0)×(List c9)×(List c0)×(List d7)×Int×(List d0)×(List i0)×(List c9)×(List c0)×(List d7))):=fun(d64,v65,v66,v67,v68,v69,v70,v71,v72,v73,v74,v75,v76,v77)=>
 if(decide (d64≤3))=true then
  Option.bind (Q9 (⟨v65,(⟨v66,v67,v68,v69,v70,v71⟩:c8),(⟨v72,v73,v74,v75,v76,v77⟩:c8)⟩:a8) (⟨2,d64,1,4,7,0,0,0,0,0,0⟩:b9)) fun⟨x83,x84⟩=>
  some (.inl ((W (d64+1)),x83.Me,x83.Now.Round,x83.Now.Slots,x83.Now.Bids,x83.Now.Heard,x83.Now.Leases,x83.Now.Loans,x83.Safe.Round,x83.Safe.Slots,x83.Safe.Bids,x83.Safe.Heard,x83.Safe.Leases,x83.Safe.Loans))
 else
  some (.inr (d64,v65,v66,v67,v68,v69,v70,v71,v72,v73,v74,v75,v76,v77))
def a9B:Option (a8×Bool):=
 Option.bind (a0N 1) fun⟨x1,x2⟩=>
 Option.bind (R1 x1 4 77) fun⟨x4,x5⟩=>
 if(x2==0)=true then
  Option.bind (A5 a8W ((x5==0),1,x4.Me,x4.Now.Round,x4.Now.Slots,x4.Now.Bids,x4.Now.Heard,x4.Now.Leases,x4.Now.Loans,x4.Safe.Round,x4.Safe.Slots,x4.Safe.Bids,x4.Safe.Heard,x4.Safe.Leases,x4.Safe.Loans)) fun(ok37,d38,v39,v40,v41,v42,v43,v44,v45,v46,v47,v48,v49,v50,v51)=>
  some ((⟨v39,(⟨v40,v41,v42,v43,v44,v45⟩:c8),(⟨v46,v47,v48,v49,v50,v51⟩:c8)⟩:a8),ok37)
 else
  Option.bind (A5 a8l (1,x4.Me,x4.Now.Round,x4.Now.Slots,x4.Now.Bids,x4.Now.Heard,x4.Now.Leases,x4.Now.Loans,x4.Safe.Round,x4.Safe.Slots,x4.Safe.Bids,x4.Safe.Heard,x4.Safe.Leases,x4.Safe.Loans)) fun(d86,v87,v88,v89,v90,v91,v92,v93,v94,v95,v96,v97,v98,v99)=>
  some ((⟨v87,(⟨v88,v89,v90,v91,v92,v93⟩:c8),(⟨v94,v95,v96,v97,v98,v99⟩:c8)⟩:a8),false)
theorem b8L (r:(a8×Bool)) (hm:a9B=some r):k9 Tryz.prog 68 [] (fun x=>x= .tup [.agg (a8.c r.1),DB r.2]):=by
 refine zn Tryz.func68 rfl ?_
 refine cy hm (a3s 1) ?_
 rintro⟨x1,x2⟩ hm
 refine cy hm (a2P x1 4 77) ?_
 rintro⟨x4,x5⟩ hm
 apply vb hm<;>intro _ hm
 obtain⟨ev52,he,hk53⟩:=b8 hm
 refine D5.ofL a8W (fun(ok12,d13,v14,v15,v16,v17,v18,v19,v20,v21,v22,v23,v24,v25,v26)=>⟨[(0, .own 0 0),(1,DB false),(2, .own 1 0),(3,DI x2),(4, .own 2 0),(5,DI x5),(6,DB ok12),(7,DI d13)], [(0, .blk [DI 0,DI 0,nS,nS,nS,nS,nS,DI 0,nS,nS,nS,nS,nS] 30),(1, .blk (a8.c x1) 30),(2, .blk [DI v14,DI v15,lD 4 v16 d0.c,lD 6 v17 i0.c,lD 4 v18 c9.c,lD 5 v19 c0.c,lD 6 v20 d7.c,DI v21,lD 4 v22 d0.c,lD 6 v23 i0.c,lD 4 v24 c9.c,lD 5 v25 c0.c,lD 6 v26 d7.c] 30)],3⟩) ((x5==0),1,x4.Me,x4.Now.Round,x4.Now.Slots,x4.Now.Bids,x4.Now.Heard,x4.Now.Leases,x4.Now.Loans,x4.Safe.Round,x4.Safe.Slots,x4.Safe.Bids,x4.Safe.Heard,x4.Safe.Leases,x4.Safe.Loans) (i6.of 3 rfl (tA rfl) ⟨hR rfl,hR rfl,hR rfl,trivial⟩) he ?_
 rintro fu54 ⟨ok12,d13,v14,v15,v16,v17,v18,v19,v20,v21,v22,v23,v24,v25,v26⟩ b hm hi55
 apply vb hm<;>intro _ hm
 refine cy hm (a2W ((⟨v14,(⟨v15,v16,v17,v18,v19,v20⟩:c8),(⟨v21,v22,v23,v24,v25,v26⟩:c8)⟩:a8)) ((⟨2,d13,1,4,7,0,0,0,0,0,0⟩:b9))) ?_
 rintro⟨x57,x58⟩ hm
 apply vb hm<;>intro _ hm
 cases hm
 exact⟨(_,((x58==0),(W (d13+1)),x57.Me,x57.Now.Round,x57.Now.Slots,x57.Now.Bids,x57.Now.Heard,x57.Now.Leases,x57.Now.Loans,x57.Safe.Round,x57.Safe.Slots,x57.Safe.Bids,x57.Safe.Heard,x57.Safe.Leases,x57.Safe.Loans)),i6.of 3 rfl (tA rfl) ⟨hR rfl,hR rfl,hR rfl,trivial⟩,hi55,Nat.lt_succ_self _⟩
 cases hm
 exact⟨(_,(false,(W (d13+1)),x57.Me,x57.Now.Round,x57.Now.Slots,x57.Now.Bids,x57.Now.Heard,x57.Now.Leases,x57.Now.Loans,x57.Safe.Round,x57.Safe.Slots,x57.Safe.Bids,x57.Safe.Heard,x57.Safe.Leases,x57.Safe.Loans)),i6.of 3 rfl (tA rfl) ⟨hR rfl,hR rfl,hR rfl,trivial⟩,hi55,Nat.lt_succ_self _⟩
 cases hm
 cases hi55
 have hm:=hk53
 cases hm
 exact j1.le (leD.refl _)
 obtain⟨ev100,he,hk101⟩:=b8 hm
 refine D5.ofL a8l (fun(d64,v65,v66,v67,v68,v69,v70,v71,v72,v73,v74,v75,v76,v77)=>⟨[(0, .own 0 0),(1,DB false),(2, .own 1 0),(3,DI x2),(4, .own 2 0),(5,DI x5),(6,DB false),(7,DI d64)], [(0, .blk [DI 0,DI 0,nS,nS,nS,nS,nS,DI 0,nS,nS,nS,nS,nS] 30),(1, .blk (a8.c x1) 30),(2, .blk [DI v65,DI v66,lD 4 v67 d0.c,lD 6 v68 i0.c,lD 4 v69 c9.c,lD 5 v70 c0.c,lD 6 v71 d7.c,DI v72,lD 4 v73 d0.c,lD 6 v74 i0.c,lD 4 v75 c9.c,lD 5 v76 c0.c,lD 6 v77 d7.c] 30)],3⟩) (1,x4.Me,x4.Now.Round,x4.Now.Slots,x4.Now.Bids,x4.Now.Heard,x4.Now.Leases,x4.Now.Loans,x4.Safe.Round,x4.Safe.Slots,x4.Safe.Bids,x4.Safe.Heard,x4.Safe.Leases,x4.Safe.Loans) (i6.of 3 rfl (tA rfl) ⟨hR rfl,hR rfl,hR rfl,trivial⟩) he ?_
 rintro fu102 ⟨d64,v65,v66,v67,v68,v69,v70,v71,v72,v73,v74,v75,v76,v77⟩ b hm hi103
 apply vb hm<;>intro _ hm
 refine cy hm (a2W ((⟨v65,(⟨v66,v67,v68,v69,v70,v71⟩:c8),(⟨v72,v73,v74,v75,v76,v77⟩:c8)⟩:a8)) ((⟨2,d64,1,4,7,0,0,0,0,0,0⟩:b9))) ?_
 rintro⟨x105,x106⟩ hm
 cases hm
 exact⟨(_,((W (d64+1)),x105.Me,x105.Now.Round,x105.Now.Slots,x105.Now.Bids,x105.Now.Heard,x105.Now.Leases,x105.Now.Loans,x105.Safe.Round,x105.Safe.Slots,x105.Safe.Bids,x105.Safe.Heard,x105.Safe.Leases,x105.Safe.Loans)),i6.of 3 rfl (tA rfl) ⟨hR rfl,hR rfl,hR rfl,trivial⟩,hi103,Nat.lt_succ_self _⟩
 cases hm
 cases hi103
 have hm:=hk101
 cases hm
 exact j1.le (leD.refl _)
def a6b (n:Int):Option ByteArray:=gd (0≤n∧n<100) (some (c3L n))
theorem b2q (n:Int) (r:ByteArray) (hm:a6b n=some r):k9 Tryz.prog 170 [DI n] (fun x=>x= .v (.string r)):=by
 obtain⟨hg,hm⟩:=n8 hm
 cases hm
 exact b9q c0T n hg
def a5H (l:(List Int)):(ByteArray×Int)→Option (Sum (ByteArray×Int) (ByteArray×Int)):=fun(word6,v7)=>
 if(decide (v7<(l.length:Int)))=true then
  Option.bind (idx l v7) fun e14=>
  Option.bind (a6b e14) fun x16=>
  gd ((((⟨#[32]⟩:ByteArray).size+x16.size:Nat):Int)≤9223372036854775807)<|
  gd (((word6.size+((⟨#[32]⟩:ByteArray)++x16).size:Nat):Int)≤9223372036854775807)<|
  some (.inl ((word6++((⟨#[32]⟩:ByteArray)++x16)),(W (v7+1))))
 else
  some (.inr (word6,v7))
def Z8 (word:ByteArray) (l:(List Int)):Option ByteArray:=
 Option.bind (A5 (a5H l) (word,0)) fun(word18,v19)=>
 gd (((word18.size+(⟨#[10]⟩:ByteArray).size:Nat):Int)≤9223372036854775807)<|
 some (word18++(⟨#[10]⟩:ByteArray))
theorem a0O (word:ByteArray) (l:(List Int)) (r:ByteArray) (hm:Z8 word l=some r):k9 Tryz.prog 120 [.v (.string word),lD 1 l cI] (fun x=>x= .v (.string r)):=by
 refine zn Tryz.func120 rfl ?_
 obtain⟨ev20,he,hk21⟩:=b8 hm
 refine D5.ofL (a5H l) (fun(word6,v7)=>⟨[(0, .v (.string word6)),(1,lD 1 l cI),(4, .v (.string (⟨#[]⟩:ByteArray))),(7,lD 1 l cI),(8,DI (l.length:Int)),(9,DI v7)], [],0⟩) (word,0) (i6.of 0 rfl (tA rfl) trivial) he ?_
 rintro fu22 ⟨word6,v7⟩ b hm hi23
 apply vb hm<;>intro _ hm
 obtain⟨e25,hx26,hm⟩:=b8 hm
 refine⟨_,u4 (fun _=>rfl) hx26, ?_⟩
 refine cy hm (b2q e25) fun x27 hm=> ?_
 obtain⟨hg,hm⟩:=n8 hm
 refine⟨hg, ?_⟩
 obtain⟨hg,hm⟩:=n8 hm
 refine⟨hg, ?_⟩
 cases hm
 exact⟨(_,((word6++((⟨#[32]⟩:ByteArray)++x27)),(W (v7+1)))),i6.of 0 rfl (tA rfl) trivial,hi23,Nat.lt_succ_self _⟩
 cases hm
 cases hi23
 have hm:=hk21
 obtain⟨hg,hm⟩:=n8 hm
 refine⟨hg, ?_⟩
 cases hm
 exact j1.le (leD.refl _)
def a5l (is:Bool):Option Int:=
 if is=true then
  some 1
 else
  some 0
theorem a8y (is:Bool) (r:Int) (hm:a5l is=some r):k9 Tryz.prog 121 [DB is] (fun x=>x=DI r):=by
 refine zn Tryz.func121 rfl ?_
 apply vb hm<;>intro _ hm
 exact hm.rr
 exact hm.rr
def a4p (s:c8):(Bool×Int)→Option (Sum (Bool×Int) (Bool×Int)):=fun(some_3,v4)=>
 if(decide (v4<6))=true then
  if some_3=true then
   some (.inl (true,(W (v4+1))))
  else
   Option.bind (R2 v4 s) fun x11=>
   some (.inl (x11,(W (v4+1))))
 else
  some (.inr (some_3,v4))
def a4t (s:c8):(ByteArray×Int)→Option (Sum (ByteArray×Int) (ByteArray×Int)):=fun(out23,v24)=>
 if(decide (v24<(s.Slots.length:Int)))=true then
  Option.bind (idx s.Slots v24) fun e31=>
  Option.bind (Z8 (⟨#[115,108,111,116]⟩:ByteArray) ([e31.Night,e31.Promised,e31.Ballot,e31.Value]:List Int)) fun x33=>
  gd (((out23.size+x33.size:Nat):Int)≤9223372036854775807)<|
  some (.inl ((out23++x33),(W (v24+1))))
 else
  some (.inr (out23,v24))
def a4l (s:c8):(ByteArray×Int)→Option (Sum (ByteArray×Int) (ByteArray×Int)):=fun(out44,v45)=>
 if(decide (v45<(s.Bids.length:Int)))=true then
  Option.bind (idx s.Bids v45) fun e54=>
  Option.bind (a5l e54.Asked) fun x56=>
  Option.bind (Z8 (⟨#[98,105,100]⟩:ByteArray) ([e54.Night,e54.Ballot,e54.Value,e54.Best,e54.Mask,x56]:List Int)) fun x58=>
  gd (((out44.size+x58.size:Nat):Int)≤9223372036854775807)<|
  some (.inl ((out44++x58),(W (v45+1))))
 else
  some (.inr (out44,v45))
def a4m (s:c8):(ByteArray×Int)→Option (Sum (ByteArray×Int) (ByteArray×Int)):=fun(out67,v68)=>
 if(decide (v68<(s.Heard.length:Int)))=true then
  Option.bind (idx s.Heard v68) fun e75=>
  Option.bind (Z8 (⟨#[104,101,97,114,100]⟩:ByteArray) ([e75.Night,e75.Ballot,e75.Value,e75.Mask]:List Int)) fun x77=>
  gd (((out67.size+x77.size:Nat):Int)≤9223372036854775807)<|
  some (.inl ((out67++x77),(W (v68+1))))
 else
  some (.inr (out67,v68))
def a4q (s:c8):(ByteArray×Int)→Option (Sum (ByteArray×Int) (ByteArray×Int)):=fun(out86,v87)=>
 if(decide (v87<(s.Leases.length:Int)))=true then
  Option.bind (idx s.Leases v87) fun e94=>
  Option.bind (Z8 (⟨#[108,101,97,115,101]⟩:ByteArray) ([e94.No,e94.Thing,e94.To,e94.From,e94.Until]:List Int)) fun x96=>
  gd (((out86.size+x96.size:Nat):Int)≤9223372036854775807)<|
  some (.inl ((out86++x96),(W (v87+1))))
 else
  some (.inr (out86,v87))
def a4h (s:c8):(ByteArray×Int)→Option (Sum (ByteArray×Int) (ByteArray×Int)):=fun(out107,v108)=>
 if(decide (v108<(s.Loans.length:Int)))=true then
  Option.bind (idx s.Loans v108) fun e117=>
  Option.bind (a5l e117.Back) fun x119=>
  Option.bind (Z8 (⟨#[108,111,97,110]⟩:ByteArray) ([e117.Owner,e117.No,e117.Thing,e117.From,e117.Until,x119]:List Int)) fun x121=>
  gd (((out107.size+x121.size:Nat):Int)≤9223372036854775807)<|
  some (.inl ((out107++x121),(W (v108+1))))
 else
  some (.inr (out107,v108))
def a2b (s:c8):Option (ByteArray×Int):=
 Option.bind (A5 (a4p s) (false,0)) fun(some_13,v14)=>
 if(!some_13)=true then
  some ((⟨#[]⟩:ByteArray),90)
 else
  Option.bind (Z8 (⟨#[114,111,117,110,100]⟩:ByteArray) ([s.Round]:List Int)) fun x16=>
  Option.bind (A5 (a4t s) (x16,0)) fun(out35,v36)=>
  Option.bind (A5 (a4l s) (out35,0)) fun(out60,v61)=>
  Option.bind (A5 (a4m s) (out60,0)) fun(out79,v80)=>
  Option.bind (A5 (a4q s) (out79,0)) fun(out98,v99)=>
  Option.bind (A5 (a4h s) (out98,0)) fun(out123,v124)=>
  some (out123,0)
theorem a6m (s:c8) (r:(ByteArray×Int)) (hm:a2b s=some r):k9 Tryz.prog 69 [.agg (c8.c s)] (fun x=>x= .tup [.v (.string r.1),DI r.2]):=by
 refine zy c6t [] [] [] Tryz.func69 rfl ?_
 obtain⟨ev1030,he,hk1031⟩:=b8 hm
 refine D5.ofL (a4p s) (fun(some_3,v4)=>⟨[(0, .agg (c8.c s)),(1, .own 0 0),(2, .v (.string (⟨#[]⟩:ByteArray))),(3,DI 0),(4,DB some_3),(17,DI v4)], [(0, .blk (c8.c s) 28)],1⟩) (false,0) (i6.of 1 rfl (tA rfl) ⟨hR rfl,trivial⟩) he ?_
 rintro fu1032 ⟨some_3,v4⟩ b hm hi1033
 apply vb hm<;>intro _ hm
 apply vb hm<;>intro _ hm
 cases hm
 exact⟨(_,(true,(W (v4+1)))),i6.of 1 rfl (tA rfl) ⟨hR rfl,trivial⟩,hi1033,Nat.lt_succ_self _⟩
 refine cy hm (a2S v4 s) fun x1036 hm=> ?_
 cases hm
 exact⟨(_,(x1036,(W (v4+1)))),i6.of 1 rfl (tA rfl) ⟨hR rfl,trivial⟩,hi1033,Nat.lt_succ_self _⟩
 cases hm
 cases hi1033
 have hm:=hk1031
 apply vb hm<;>intro _ hm
 cases hm
 exact j1.le (leD.refl _)
 refine⟨([s.Round]:List Int).flatMap cI,([s.Round]:List Int).length,⟨rfl,rfl⟩, ?_⟩
 refine co hm (a0O ((⟨#[114,111,117,110,100]⟩:ByteArray)) (([s.Round]:List Int))) fun x1039 hm=> ?_
 obtain⟨ev1552,he,hk1553⟩:=b8 hm
 refine D5.ofL (a4t s) (fun(out1046,v1047)=>⟨[(0, .agg (c8.c s)),(1, .own 0 0),(2, .v (.string (⟨#[]⟩:ByteArray))),(3,DI 0),(4,DB some_3),(6, .v (.string out1046)),(17,DI v4),(18,DB (decide (v4<6))),(28,DB (!some_3)),(34,lD 4 s.Slots d0.c),(35,DI (s.Slots.length:Int)),(36,DI v1047)], [(0, .blk (c8.c s) 28),(1,rE 1 ([s.Round]:List Int) cI 3)],2⟩) (x1039,0) (i6.of 2 rfl (tA rfl) ⟨hR rfl,hW rfl,trivial⟩) he ?_
 rintro fu1554 ⟨out1046,v1047⟩ b hm hi1555
 apply vb hm<;>intro _ hm
 obtain⟨e1557,hx1558,hm⟩:=b8 hm
 refine⟨_,u4 (fun _=>rfl) hx1558, ?_⟩
 refine⟨([e1557.Night,e1557.Promised,e1557.Ballot,e1557.Value]:List Int).flatMap cI,([e1557.Night,e1557.Promised,e1557.Ballot,e1557.Value]:List Int).length,⟨rfl,rfl⟩, ?_⟩
 refine co hm (a0O ((⟨#[115,108,111,116]⟩:ByteArray)) (([e1557.Night,e1557.Promised,e1557.Ballot,e1557.Value]:List Int))) fun x1559 hm=> ?_
 obtain⟨hg,hm⟩:=n8 hm
 refine⟨hg, ?_⟩
 cases hm
 exact⟨(_,((out1046++x1559),(W (v1047+1)))),i6.of 2 rfl (tA rfl) ⟨hR rfl,hW rfl,trivial⟩,hi1555,Nat.lt_succ_self _⟩
 cases hm
 cases hi1555
 have hm:=hk1553
 obtain⟨ev1814,he,hk1815⟩:=b8 hm
 refine D5.ofL (a4l s) (fun(out1568,v1569)=>⟨[(0, .agg (c8.c s)),(1, .own 0 0),(2, .v (.string (⟨#[]⟩:ByteArray))),(3,DI 0),(4,DB some_3),(6, .v (.string out1568)),(17,DI v4),(18,DB (decide (v4<6))),(28,DB (!some_3)),(34,lD 4 s.Slots d0.c),(35,DI (s.Slots.length:Int)),(36,DI v1047),(37,DB (decide (v1047<(s.Slots.length:Int)))),(54,lD 6 s.Bids i0.c),(55,DI (s.Bids.length:Int)),(56,DI v1569)], [(0, .blk (c8.c s) 28),(1,rE 1 ([s.Round]:List Int) cI 3)],2⟩) (out1046,0) (i6.of 2 rfl (tA rfl) ⟨hR rfl,hW rfl,trivial⟩) he ?_
 rintro fu1816 ⟨out1568,v1569⟩ b hm hi1817
 apply vb hm<;>intro _ hm
 obtain⟨e1819,hx1820,hm⟩:=b8 hm
 refine⟨_,u4 (fun _=>rfl) hx1820, ?_⟩
 refine⟨rfl, ?_⟩
 refine cy hm (a8y e1819.Asked) fun x1821 hm=> ?_
 refine⟨([e1819.Night,e1819.Ballot,e1819.Value,e1819.Best,e1819.Mask,x1821]:List Int).flatMap cI,([e1819.Night,e1819.Ballot,e1819.Value,e1819.Best,e1819.Mask,x1821]:List Int).length,⟨rfl,rfl⟩, ?_⟩
 refine co hm (a0O ((⟨#[98,105,100]⟩:ByteArray)) (([e1819.Night,e1819.Ballot,e1819.Value,e1819.Best,e1819.Mask,x1821]:List Int))) fun x1823 hm=> ?_
 obtain⟨hg,hm⟩:=n8 hm
 refine⟨hg, ?_⟩
 cases hm
 exact⟨(_,((out1568++x1823),(W (v1569+1)))),i6.of 2 rfl (tA rfl) ⟨hR rfl,hW rfl,trivial⟩,hi1817,Nat.lt_succ_self _⟩
 cases hm
 cases hi1817
 have hm:=hk1815
 obtain⟨ev1944,he,hk1945⟩:=b8 hm
 refine D5.ofL (a4m s) (fun(out1830,v1831)=>⟨[(0, .agg (c8.c s)),(1, .own 0 0),(2, .v (.string (⟨#[]⟩:ByteArray))),(3,DI 0),(4,DB some_3),(6, .v (.string out1830)),(17,DI v4),(18,DB (decide (v4<6))),(28,DB (!some_3)),(34,lD 4 s.Slots d0.c),(35,DI (s.Slots.length:Int)),(36,DI v1047),(37,DB (decide (v1047<(s.Slots.length:Int)))),(54,lD 6 s.Bids i0.c),(55,DI (s.Bids.length:Int)),(56,DI v1569),(57,DB (decide (v1569<(s.Bids.length:Int)))),(79,lD 4 s.Heard c9.c),(80,DI (s.Heard.length:Int)),(81,DI v1831)], [(0, .blk (c8.c s) 28),(1,rE 1 ([s.Round]:List Int) cI 3)],2⟩) (out1568,0) (i6.of 2 rfl (tA rfl) ⟨hR rfl,hW rfl,trivial⟩) he ?_
 rintro fu1946 ⟨out1830,v1831⟩ b hm hi1947
 apply vb hm<;>intro _ hm
 obtain⟨e1949,hx1950,hm⟩:=b8 hm
 refine⟨_,u4 (fun _=>rfl) hx1950, ?_⟩
 refine⟨([e1949.Night,e1949.Ballot,e1949.Value,e1949.Mask]:List Int).flatMap cI,([e1949.Night,e1949.Ballot,e1949.Value,e1949.Mask]:List Int).length,⟨rfl,rfl⟩, ?_⟩
 refine co hm (a0O ((⟨#[104,101,97,114,100]⟩:ByteArray)) (([e1949.Night,e1949.Ballot,e1949.Value,e1949.Mask]:List Int))) fun x1951 hm=> ?_
 obtain⟨hg,hm⟩:=n8 hm
 refine⟨hg, ?_⟩
 cases hm
 exact⟨(_,((out1830++x1951),(W (v1831+1)))),i6.of 2 rfl (tA rfl) ⟨hR rfl,hW rfl,trivial⟩,hi1947,Nat.lt_succ_self _⟩
 cases hm
 cases hi1947
 have hm:=hk1945
 obtain⟨ev2008,he,hk2009⟩:=b8 hm
 refine D5.ofL (a4q s) (fun(out1958,v1959)=>⟨[(0, .agg (c8.c s)),(1, .own 0 0),(2, .v (.string (⟨#[]⟩:ByteArray))),(3,DI 0),(4,DB some_3),(6, .v (.string out1958)),(17,DI v4),(18,DB (decide (v4<6))),(28,DB (!some_3)),(34,lD 4 s.Slots d0.c),(35,DI (s.Slots.length:Int)),(36,DI v1047),(37,DB (decide (v1047<(s.Slots.length:Int)))),(54,lD 6 s.Bids i0.c),(55,DI (s.Bids.length:Int)),(56,DI v1569),(57,DB (decide (v1569<(s.Bids.length:Int)))),(79,lD 4 s.Heard c9.c),(80,DI (s.Heard.length:Int)),(81,DI v1831),(82,DB (decide (v1831<(s.Heard.length:Int)))),(99,lD 5 s.Leases c0.c),(100,DI (s.Leases.length:Int)),(101,DI v1959)], [(0, .blk (c8.c s) 28),(1,rE 1 ([s.Round]:List Int) cI 3)],2⟩) (out1830,0) (i6.of 2 rfl (tA rfl) ⟨hR rfl,hW rfl,trivial⟩) he ?_
 rintro fu2010 ⟨out1958,v1959⟩ b hm hi2011
 apply vb hm<;>intro _ hm
 obtain⟨e2013,hx2014,hm⟩:=b8 hm
 refine⟨_,u4 (fun _=>rfl) hx2014, ?_⟩
 refine⟨([e2013.No,e2013.Thing,e2013.To,e2013.From,e2013.Until]:List Int).flatMap cI,([e2013.No,e2013.Thing,e2013.To,e2013.From,e2013.Until]:List Int).length,⟨rfl,rfl⟩, ?_⟩
 refine co hm (a0O ((⟨#[108,101,97,115,101]⟩:ByteArray)) (([e2013.No,e2013.Thing,e2013.To,e2013.From,e2013.Until]:List Int))) fun x2015 hm=> ?_
 obtain⟨hg,hm⟩:=n8 hm
 refine⟨hg, ?_⟩
 cases hm
 exact⟨(_,((out1958++x2015),(W (v1959+1)))),i6.of 2 rfl (tA rfl) ⟨hR rfl,hW rfl,trivial⟩,hi2011,Nat.lt_succ_self _⟩
 cases hm
 cases hi2011
 have hm:=hk2009
 obtain⟨ev2042,he,hk2043⟩:=b8 hm
 refine D5.ofL (a4h s) (fun(out2024,v2025)=>⟨[(0, .agg (c8.c s)),(1, .own 0 0),(2, .v (.string (⟨#[]⟩:ByteArray))),(3,DI 0),(4,DB some_3),(6, .v (.string out2024)),(17,DI v4),(18,DB (decide (v4<6))),(28,DB (!some_3)),(34,lD 4 s.Slots d0.c),(35,DI (s.Slots.length:Int)),(36,DI v1047),(37,DB (decide (v1047<(s.Slots.length:Int)))),(54,lD 6 s.Bids i0.c),(55,DI (s.Bids.length:Int)),(56,DI v1569),(57,DB (decide (v1569<(s.Bids.length:Int)))),(79,lD 4 s.Heard c9.c),(80,DI (s.Heard.length:Int)),(81,DI v1831),(82,DB (decide (v1831<(s.Heard.length:Int)))),(99,lD 5 s.Leases c0.c),(100,DI (s.Leases.length:Int)),(101,DI v1959),(102,DB (decide (v1959<(s.Leases.length:Int)))),(121,lD 6 s.Loans d7.c),(122,DI (s.Loans.length:Int)),(123,DI v2025)], [(0, .blk (c8.c s) 28),(1,rE 1 ([s.Round]:List Int) cI 3)],2⟩) (out1958,0) (i6.of 2 rfl (tA rfl) ⟨hR rfl,hW rfl,trivial⟩) he ?_
 rintro fu2044 ⟨out2024,v2025⟩ b hm hi2045
 apply vb hm<;>intro _ hm
 obtain⟨e2047,hx2048,hm⟩:=b8 hm
 refine⟨_,u4 (fun _=>rfl) hx2048, ?_⟩
 refine⟨rfl, ?_⟩
 refine cy hm (a8y e2047.Back) fun x2049 hm=> ?_
 refine⟨([e2047.Owner,e2047.No,e2047.Thing,e2047.From,e2047.Until,x2049]:List Int).flatMap cI,([e2047.Owner,e2047.No,e2047.Thing,e2047.From,e2047.Until,x2049]:List Int).length,⟨rfl,rfl⟩, ?_⟩
 refine co hm (a0O ((⟨#[108,111,97,110]⟩:ByteArray)) (([e2047.Owner,e2047.No,e2047.Thing,e2047.From,e2047.Until,x2049]:List Int))) fun x2051 hm=> ?_
 obtain⟨hg,hm⟩:=n8 hm
 refine⟨hg, ?_⟩
 cases hm
 exact⟨(_,((out2024++x2051),(W (v2025+1)))),i6.of 2 rfl (tA rfl) ⟨hR rfl,hW rfl,trivial⟩,hi2045,Nat.lt_succ_self _⟩
 cases hm
 cases hi2045
 have hm:=hk2043
 cases hm
 exact j1.le (leD.refl _)
def a5u:Option Bool:=
 Option.bind (a9B) fun⟨x1,x2⟩=>
 Option.bind (Q9 x1 (⟨2,5,1,4,7,0,0,0,0,0,0⟩:b9)) fun⟨x4,x5⟩=>
 Option.bind (S1 x4) fun⟨x7,x8⟩=>
 Option.bind (Y2 x7 2) fun⟨x10,x11⟩=>
 if(!x2)=true then
  some false
 else
  if(x5 !=0)=true then
   some false
  else
   if(x8 !=0)=true then
    some false
   else
    if(x11 !=0)=true then
     some false
    else
     if((x1.Now.Bids.length:Int) !=1)=true then
      some false
     else
      if((x4.Now.Bids.length:Int) !=1)=true then
       some false
      else
       Option.bind (idx x1.Now.Bids 0) fun e19=>
       if((e19.Night==4)&&((e19.Ballot==7)&&((e19.Value==77)&&((e19.Best==0)&&((e19.Mask==14)&&(e19.Asked==false))))))=true then
        Option.bind (idx x4.Now.Bids 0) fun e22=>
        Option.bind (a1n x10 ([(⟨3,1,2,4,7,0,77,0,0,0,0⟩:b9)]:List b9)) fun x24=>
        Option.bind (a0N 2) fun⟨x26,x27⟩=>
        Option.bind (M3 x26 8 0 100 200) fun⟨x29,x30⟩=>
        Option.bind (a0g x29 8 150) fun⟨x32,x33⟩=>
        Option.bind (a0g x29 8 200) fun⟨x35,x36⟩=>
        Option.bind (M3 x29 8 1 150 250) fun⟨x38,x39⟩=>
        Option.bind (a1l x29 8 150 250) fun⟨x41,x42⟩=>
        Option.bind (a2b x1.Now) fun⟨x44,x45⟩=>
        if(x27==0)=true then
         if(x30==0)=true then
          if(x33==0)=true then
           if(x36==0)=true then
            if(x39==93)=true then
             if(x42==0)=true then
              if((e22.Night==4)&&((e22.Ballot==7)&&((e22.Value==77)&&((e22.Best==0)&&((e22.Mask==46)&&(e22.Asked==true))))))=true then
               if x24=true then
                if(x45==0)=true then
                 if(!x32)=true then
                  if x35=true then
                   if(x41==200)=true then
                    some (x44.toList==(⟨#[114,111,117,110,100,32,49,10,98,105,100,32,52,32,55,32,55,55,32,48,32,49,52,32,48,10]⟩:ByteArray).toList)
                   else
                    some false
                  else
                   some false
                 else
                  some false
                else
                 some false
               else
                some false
              else
               some false
             else
              if((e22.Night==4)&&((e22.Ballot==7)&&((e22.Value==77)&&((e22.Best==0)&&((e22.Mask==46)&&(e22.Asked==true))))))=true then
               if x24=true then
                some false
               else
                some false
              else
               some false
            else
             if((e22.Night==4)&&((e22.Ballot==7)&&((e22.Value==77)&&((e22.Best==0)&&((e22.Mask==46)&&(e22.Asked==true))))))=true then
              if x24=true then
               some false
              else
               some false
             else
              some false
           else
            if((e22.Night==4)&&((e22.Ballot==7)&&((e22.Value==77)&&((e22.Best==0)&&((e22.Mask==46)&&(e22.Asked==true))))))=true then
             if x24=true then
              some false
             else
              some false
            else
             some false
          else
           if((e22.Night==4)&&((e22.Ballot==7)&&((e22.Value==77)&&((e22.Best==0)&&((e22.Mask==46)&&(e22.Asked==true))))))=true then
            if x24=true then
             some false
            else
             some false
           else
            some false
         else
          if((e22.Night==4)&&((e22.Ballot==7)&&((e22.Value==77)&&((e22.Best==0)&&((e22.Mask==46)&&(e22.Asked==true))))))=true then
           if x24=true then
            some false
           else
            some false
          else
           some false
        else
         if((e22.Night==4)&&((e22.Ballot==7)&&((e22.Value==77)&&((e22.Best==0)&&((e22.Mask==46)&&(e22.Asked==true))))))=true then
          if x24=true then
           some false
          else
           some false
         else
          some false
       else
        Option.bind (a1n x10 ([(⟨3,1,2,4,7,0,77,0,0,0,0⟩:b9)]:List b9)) fun x71=>
        Option.bind (a0N 2) fun⟨x73,x74⟩=>
        Option.bind (M3 x73 8 0 100 200) fun⟨x76,x77⟩=>
        Option.bind (a0g x76 8 150) fun⟨x79,x80⟩=>
        Option.bind (a0g x76 8 200) fun⟨x82,x83⟩=>
        Option.bind (M3 x76 8 1 150 250) fun⟨x85,x86⟩=>
        Option.bind (a1l x76 8 150 250) fun⟨x88,x89⟩=>
        Option.bind (a2b x1.Now) fun⟨x91,x92⟩=>
        if(x74==0)=true then
         if(x77==0)=true then
          if(x80==0)=true then
           if(x83==0)=true then
            if(x86==93)=true then
             if(x89==0)=true then
              some false
             else
              some false
            else
             some false
           else
            some false
          else
           some false
         else
          some false
        else
         some false
theorem a7X (r:Bool) (hm:a5u=some r):k9 Tryz.prog 20 [] (fun x=>x=DB r):=by
 refine zn Tryz.func20 rfl ?_
 refine cy hm (b8L) ?_
 rintro⟨x1,x2⟩ hm
 refine cy hm (a2W x1 ((⟨2,5,1,4,7,0,0,0,0,0,0⟩:b9))) ?_
 rintro⟨x4,x5⟩ hm
 refine cy hm (a3W x4) ?_
 rintro⟨x7,x8⟩ hm
 refine cy hm (a6L x7 2) ?_
 rintro⟨x10,x11⟩ hm
 apply vb hm<;>intro _ hm
 exact hm.rr
 apply vb hm<;>intro _ hm
 exact hm.rr
 apply vb hm<;>intro _ hm
 exact hm.rr
 apply vb hm<;>intro _ hm
 exact hm.rr
 apply vb hm<;>intro _ hm
 exact hm.rr
 apply vb hm<;>intro _ hm
 exact hm.rr
 obtain⟨e19,hx20,hm⟩:=b8 hm
 refine⟨_,u4 (fun _=>rfl) hx20, ?_⟩
 apply vb hm<;>intro _ hm
 obtain⟨e22,hx23,hm⟩:=b8 hm
 refine⟨_,u4 (fun _=>rfl) hx23, ?_⟩
 refine⟨([(⟨3,1,2,4,7,0,77,0,0,0,0⟩:b9)]:List b9).flatMap b9.c,([(⟨3,1,2,4,7,0,77,0,0,0,0⟩:b9)]:List b9).length,⟨rfl,rfl⟩, ?_⟩
 refine co hm (a5M x10 (([(⟨3,1,2,4,7,0,77,0,0,0,0⟩:b9)]:List b9))) fun x24 hm=> ?_
 refine cy hm (a3s 2) ?_
 rintro⟨x26,x27⟩ hm
 refine cy hm (a1g x26 8 0 100 200) ?_
 rintro⟨x29,x30⟩ hm
 refine cy hm (a3r x29 8 150) ?_
 rintro⟨x32,x33⟩ hm
 refine cy hm (a3r x29 8 200) ?_
 rintro⟨x35,x36⟩ hm
 refine cy hm (a1g x29 8 1 150 250) ?_
 rintro⟨x38,x39⟩ hm
 refine cy hm (a7r x29 8 150 250) ?_
 rintro⟨x41,x42⟩ hm
 refine cy hm (a6m x1.Now) ?_
 rintro⟨x44,x45⟩ hm
 apply vb hm<;>intro _ hm
 apply vb hm<;>intro _ hm
 apply vb hm<;>intro _ hm
 apply vb hm<;>intro _ hm
 apply vb hm<;>intro _ hm
 apply vb hm<;>intro _ hm
 apply vb hm<;>intro _ hm
 apply vb hm<;>intro _ hm
 apply vb hm<;>intro _ hm
 apply vb hm<;>intro _ hm
 apply vb hm<;>intro _ hm
 apply vb hm<;>intro _ hm
 exact hm.rr
 exact hm.rr
 exact hm.rr
 exact hm.rr
 exact hm.rr
 exact hm.rr
 exact hm.rr
 apply vb hm<;>intro _ hm
 apply vb hm<;>intro _ hm
 exact hm.rr
 exact hm.rr
 exact hm.rr
 apply vb hm<;>intro _ hm
 apply vb hm<;>intro _ hm
 exact hm.rr
 exact hm.rr
 exact hm.rr
 apply vb hm<;>intro _ hm
 apply vb hm<;>intro _ hm
 exact hm.rr
 exact hm.rr
 exact hm.rr
 apply vb hm<;>intro _ hm
 apply vb hm<;>intro _ hm
 exact hm.rr
 exact hm.rr
 exact hm.rr
 apply vb hm<;>intro _ hm
 apply vb hm<;>intro _ hm
 exact hm.rr
 exact hm.rr
 exact hm.rr
 apply vb hm<;>intro _ hm
 apply vb hm<;>intro _ hm
 exact hm.rr
 exact hm.rr
 exact hm.rr
 refine⟨([(⟨3,1,2,4,7,0,77,0,0,0,0⟩:b9)]:List b9).flatMap b9.c,([(⟨3,1,2,4,7,0,77,0,0,0,0⟩:b9)]:List b9).length,⟨rfl,rfl⟩, ?_⟩
 refine co hm (a5M x10 (([(⟨3,1,2,4,7,0,77,0,0,0,0⟩:b9)]:List b9))) fun x71 hm=> ?_
 refine cy hm (a3s 2) ?_
 rintro⟨x73,x74⟩ hm
 refine cy hm (a1g x73 8 0 100 200) ?_
 rintro⟨x76,x77⟩ hm
 refine cy hm (a3r x76 8 150) ?_
 rintro⟨x79,x80⟩ hm
 refine cy hm (a3r x76 8 200) ?_
 rintro⟨x82,x83⟩ hm
 refine cy hm (a1g x76 8 1 150 250) ?_
 rintro⟨x85,x86⟩ hm
 refine cy hm (a7r x76 8 150 250) ?_
 rintro⟨x88,x89⟩ hm
 refine cy hm (a6m x1.Now) ?_
 rintro⟨x91,x92⟩ hm
 apply vb hm<;>intro _ hm
 apply vb hm<;>intro _ hm
 apply vb hm<;>intro _ hm
 apply vb hm<;>intro _ hm
 apply vb hm<;>intro _ hm
 apply vb hm<;>intro _ hm
 exact hm.rr
 exact hm.rr
 exact hm.rr
 exact hm.rr
 exact hm.rr
 exact hm.rr
 exact hm.rr
def a1t (x:a8) (owner:Int) (no:Int) (moment:Int):Option (a8×Int):=
 Option.bind (R0 x) fun e=>
 match e with
 | .inl x8=>
  if(x8 !=0)=true then
   some ((⟨0,(⟨0, [], [], [], [], []⟩:c8),(⟨0, [], [], [], [], []⟩:c8)⟩:a8),x8)
  else
   Option.bind (A9 owner) fun x32=>
   if(!x32)=true then
    some ((⟨0,(⟨0, [], [], [], [], []⟩:c8),(⟨0, [], [], [], [], []⟩:c8)⟩:a8),1)
   else
    Option.bind (j5 moment) fun x35=>
    if(!x35)=true then
     some ((⟨0,(⟨0, [], [], [], [], []⟩:c8),(⟨0, [], [], [], [], []⟩:c8)⟩:a8),95)
    else
     none
 | .inr (v9,v10,v11,v12,v13,v14,v15,v16,v17,v18,x19,x20,x21)=>
  Option.bind (A9 owner) fun x38=>
  if(!x38)=true then
   some ((⟨0,(⟨0, [], [], [], [], []⟩:c8),(⟨0, [], [], [], [], []⟩:c8)⟩:a8),1)
  else
   Option.bind (j5 moment) fun x41=>
   if(!x41)=true then
    some ((⟨0,(⟨0, [], [], [], [], []⟩:c8),(⟨0, [], [], [], [], []⟩:c8)⟩:a8),95)
   else
    Option.bind (r7 v13 (⟨owner,no,0,0,0,false⟩:d7)) fun⟨x44,x45⟩=>
    if(!x45)=true then
     some ((⟨0,(⟨0, [], [], [], [], []⟩:c8),(⟨0, [], [], [], [], []⟩:c8)⟩:a8),94)
    else
     Option.bind (idx v13 x44) fun e48=>
     Option.bind (idx v13 x44) fun e50=>
     if e50.Back=true then
      some ((⟨0,(⟨0, [], [], [], [], []⟩:c8),(⟨0, [], [], [], [], []⟩:c8)⟩:a8),94)
     else
      Option.bind (idx v13 x44) fun e53=>
      Option.bind (idx v13 x44) fun e55=>
      Option.bind (idx v13 x44) fun e57=>
      Option.bind (idx v13 x44) fun e59=>
      Option.bind (idx (v13.set x44.toNat (⟨e59.Owner,e59.No,e59.Thing,e59.From,(if(if e57.From>moment then e57.From else moment)<e55.Until then(if e57.From>moment then e57.From else moment)else e55.Until),e59.Back⟩:d7)) x44) fun e61=>
      some ((⟨x19,(⟨x20,v9,v10,v11,v12,((v13.set x44.toNat (⟨e59.Owner,e59.No,e59.Thing,e59.From,(if(if e57.From>moment then e57.From else moment)<e55.Until then(if e57.From>moment then e57.From else moment)else e55.Until),e59.Back⟩:d7)).set x44.toNat (⟨e61.Owner,e61.No,e61.Thing,e61.From,e61.Until,true⟩:d7))⟩:c8),(⟨x21,v14,v15,v16,v17,v18⟩:c8)⟩:a8),0)
theorem b0u (x:a8) (owner:Int) (no:Int) (moment:Int) (r:(a8×Int)) (hm:a1t x owner no moment=some r):k9 Tryz.prog 35 [.agg (a8.c x),DI owner,DI no,DI moment] (fun x=>x= .tup [.agg (a8.c r.1),DI r.2]):=by
 refine zy c6x [99,106,149,210,211,220] [62] [61] Tryz.func35 rfl ?_
 obtain⟨ev29,he30,hm⟩:=b8 hm
 refine O7.ofZ pok ⟨[(0, .agg (a8.c x)),(1000000, .agg (a8.c x)),(1000001,DI owner),(1000002,DI no),(1000003,DI moment),(1000004, .own 0 0),(1000008, .own 1 0),(1000009,DI 0)], [(0, .blk (a8.c x) 30),(1, .blk [DI 0,DI 0,nS,nS,nS,nS,nS,DI 0,nS,nS,nS,nS,nS] 30)],2⟩ (match ev29 with| .inl x8=>(⟨[(0, .agg (a8.c x)),(1,DI owner),(2,DI no),(3,DI moment),(4, .own 0 0),(8, .own 1 0),(9,DI 0),(17, .tup [.v (.pointer none),DI x8])], [(0, .blk (a8.c x) 30),(1, .blk [DI 0,DI 0,nS,nS,nS,nS,nS,DI 0,nS,nS,nS,nS,nS] 30)],2⟩:Sy)| .inr (v9,v10,v11,v12,v13,v14,v15,v16,v17,v18,x19,x20,x21)=>(⟨[(0, .agg (a8.c x)),(1,DI owner),(2,DI no),(3,DI moment),(4, .own 0 0),(8, .own 1 0),(9,DI 0),(17, .tup [.own 13 0,DI 0])], [(0, .blk (a8.c x) 30),(1, .blk [DI 0,DI 0,nS,nS,nS,nS,nS,DI 0,nS,nS,nS,nS,nS] 30),(3,rE 4 v9 d0.c 110),(4,rE 6 v10 i0.c 108),(5,rE 4 v11 c9.c 149),(6,rE 5 v12 c0.c 112),(7,rE 6 v13 d7.c 114),(8,rE 4 v14 d0.c 110),(9,rE 6 v15 i0.c 108),(10,rE 4 v16 c9.c 149),(11,rE 5 v17 c0.c 112),(12,rE 6 v18 d7.c 114),(13, .blk [DI x19,DI x20, .row 3 4, .row 4 6, .row 5 4, .row 6 5, .row 7 6,DI x21, .row 8 4, .row 9 6, .row 10 4, .row 11 5, .row 12 6] 102)],14⟩:Sy):Sy) b6V [99,106,149,210,211,220] [62] [61] Tryz.func61 rfl rfl rfl (i6.of 2 rfl (tA rfl) ⟨hR rfl,hR rfl,trivial⟩) (fun sv=> ?_) ?_
 have hm:=he30
 refine cy hm (R8 x) fun x63 hm=> ?_
 apply vb hm<;>intro _ hm
 cases hm
 exact i6.of 2 rfl (tA rfl) ⟨hR rfl,hR rfl,trivial⟩
 refine⟨rfl, ?_⟩
 obtain⟨x66,hx67,hm⟩:=b8 hm
 refine .inr (a7n.mk ⟨_,_,L6 x.Now _ hx67, ?_⟩)
 obtain⟨x68,hx69,hm⟩:=b8 hm
 refine .inr (a7n.mk ⟨_,_,L6 x.Safe _ hx69, ?_⟩)
 cases hm
 exact i6.of 14 rfl (tA rfl) ⟨hR rfl,hR rfl,hW rfl,hW rfl,hW rfl,hW rfl,hW rfl,hW rfl,hW rfl,hW rfl,hW rfl,hW rfl,hR rfl,trivial⟩
 rcases ev29 with x8|⟨v9,v10,v11,v12,v13,v14,v15,v16,v17,v18,x19,x20,x21⟩
 apply vb hm<;>intro _ hm
 cases hm
 exact j1.le (⟨_,rfl,⟨⟨_,rfl,⟨leD.refl _,leD.refl _,leD.nil,leD.nil,leD.nil,leD.nil,leD.nil,leD.refl _,leD.nil,leD.nil,leD.nil,leD.nil,leD.nil,trivial⟩⟩,leD.refl _,trivial⟩⟩)
 refine cy hm (B6 owner) fun x32 hm=> ?_
 apply vb hm<;>intro _ hm
 cases hm
 exact j1.le (⟨_,rfl,⟨⟨_,rfl,⟨leD.refl _,leD.refl _,leD.nil,leD.nil,leD.nil,leD.nil,leD.nil,leD.refl _,leD.nil,leD.nil,leD.nil,leD.nil,leD.nil,trivial⟩⟩,leD.refl _,trivial⟩⟩)
 refine cy hm (n7 moment) fun x35 hm=> ?_
 apply vb hm<;>intro _ hm
 cases hm
 exact j1.le (⟨_,rfl,⟨⟨_,rfl,⟨leD.refl _,leD.refl _,leD.nil,leD.nil,leD.nil,leD.nil,leD.nil,leD.refl _,leD.nil,leD.nil,leD.nil,leD.nil,leD.nil,trivial⟩⟩,leD.refl _,trivial⟩⟩)
 cases hm
 refine cy hm (B6 owner) fun x38 hm=> ?_
 apply vb hm<;>intro _ hm
 cases hm
 exact j1.le (⟨_,rfl,⟨⟨_,rfl,⟨leD.refl _,leD.refl _,leD.nil,leD.nil,leD.nil,leD.nil,leD.nil,leD.refl _,leD.nil,leD.nil,leD.nil,leD.nil,leD.nil,trivial⟩⟩,leD.refl _,trivial⟩⟩)
 refine cy hm (n7 moment) fun x41 hm=> ?_
 apply vb hm<;>intro _ hm
 cases hm
 exact j1.le (⟨_,rfl,⟨⟨_,rfl,⟨leD.refl _,leD.refl _,leD.nil,leD.nil,leD.nil,leD.nil,leD.nil,leD.refl _,leD.nil,leD.nil,leD.nil,leD.nil,leD.nil,trivial⟩⟩,leD.refl _,trivial⟩⟩)
 refine co hm (L9 v13 ((⟨owner,no,0,0,0,false⟩:d7))) ?_
 rintro⟨x44,x45⟩ hm
 apply vb hm<;>intro _ hm
 cases hm
 exact j1.le (⟨_,rfl,⟨⟨_,rfl,⟨leD.refl _,leD.refl _,leD.nil,leD.nil,leD.nil,leD.nil,leD.nil,leD.refl _,leD.nil,leD.nil,leD.nil,leD.nil,leD.nil,trivial⟩⟩,leD.refl _,trivial⟩⟩)
 obtain⟨e48,hx49,hm⟩:=b8 hm
 refine⟨S7 hx49, ?_⟩
 obtain⟨e50,hx51,hm⟩:=b8 hm
 refine⟨_,K0 (fun _=>rfl) hx51, ?_⟩
 apply vb hm<;>intro _ hm
 cases hm
 exact j1.le (⟨_,rfl,⟨⟨_,rfl,⟨leD.refl _,leD.refl _,leD.nil,leD.nil,leD.nil,leD.nil,leD.nil,leD.refl _,leD.nil,leD.nil,leD.nil,leD.nil,leD.nil,trivial⟩⟩,leD.refl _,trivial⟩⟩)
 obtain⟨e53,hx54,hm⟩:=b8 hm
 refine⟨S7 hx54, ?_⟩
 refine⟨rfl, ?_⟩
 obtain⟨e55,hx56,hm⟩:=b8 hm
 refine⟨_,K0 (fun _=>rfl) hx56, ?_⟩
 obtain⟨e57,hx58,hm⟩:=b8 hm
 refine⟨_,K0 (fun _=>rfl) hx58, ?_⟩
 obtain⟨e59,hx60,hm⟩:=b8 hm
 refine⟨_,K0 (fun _=>rfl) hx60,_,O4 (y:=(⟨e59.Owner,e59.No,e59.Thing,e59.From,(if(if e57.From>moment then e57.From else moment)<e55.Until then(if e57.From>moment then e57.From else moment)else e55.Until),e59.Back⟩:d7)) (fun _=>rfl) hx60, ?_⟩
 obtain⟨e61,hx62,hm⟩:=b8 hm
 refine⟨_,a5o (fun _=>rfl) hx62 (by first|rfl|simp only [List.length_set]),_,O4 (y:=(⟨e61.Owner,e61.No,e61.Thing,e61.From,e61.Until,true⟩:d7)) (fun _=>rfl) hx62, ?_⟩
 cases hm
 exact j1.le (by first|exact leD.refl _|(simp only [a8.c,lD,List.length_set];exact leD.refl _))
def a2g (y:a1A):Option b1g:=
 Option.bind (J8 y.Depot 6) fun x1=>
 Option.bind (J8 y.From 40) fun x3=>
 Option.bind (J8 y.Thing 3) fun x5=>
 Option.bind (J8 y.To 6) fun x7=>
 Option.bind (J8 y.Long 12) fun x9=>
 some (⟨(W (x1+(W (6*(W (1+x5)))))),x7,(W (x3*10)),(W ((W (x3*10))+(W (x9*10))))⟩:b1g)
theorem b2i (y:a1A) (r:b1g) (hm:a2g y=some r):k9 Tryz.prog 39 [.agg (a1A.c y)] (fun x=>x= .agg (b1g.c r)):=by
 refine zy c6M [] [] [] Tryz.func39 rfl ?_
 refine cy hm (P3 y.Depot 6) fun x1 hm=> ?_
 refine cy hm (P3 y.From 40) fun x3 hm=> ?_
 refine⟨rfl, ?_⟩
 refine cy hm (P3 y.Thing 3) fun x5 hm=> ?_
 refine cy hm (P3 y.To 6) fun x7 hm=> ?_
 refine cy hm (P3 y.Long 12) fun x9 hm=> ?_
 cases hm
 exact j1.le (leD.refl _)
def a6y:(Int×(List a8))→Option (Sum (Int×(List a8)) (Sum (Int×(List a8)) (i4×Bool))):=fun(i5,v6)=>
 if(decide (i5<6))=true then
  Option.bind (a0N i5) fun⟨x13,x14⟩=>
  if(x14 !=0)=true then
   some (.inr (.inr ((⟨v6, [],(0,0,0)⟩:i4),false)))
  else
   gd ((v6.length+([x13]:List a8).length)*264≤140737488355328∧v6.length+([x13]:List a8).length≤9223372036854775807)<|
   some (.inl ((W (i5+1)),(v6++([x13]:List a8))))
 else
  some (.inr (.inl (i5,v6)))
def a6w:Option (i4×Bool):=
 Option.bind (A5 a6y (0, [])) fun e=>
 match e with
 | .inl (i17,v18)=>
  some ((⟨v18, [],(0,0,0)⟩:i4),true)
 | .inr rr19=>
  some rr19
theorem b5S (r:(i4×Bool)) (hm:a6w=some r):k9 Tryz.prog 46 [] (fun x=>x= .tup [.agg (i4.c r.1),DB r.2]):=by
 refine zn Tryz.func46 rfl ?_
 obtain⟨ev20,he,hk21⟩:=b8 hm
 refine D5.ofL a6y (fun(i5,v6)=>⟨[(0, .own 0 0),(1,DB false),(2, .own 1 0),(3,DI i5)], [(0, .blk [nS,nS,DI 0,DI 0,DI 0] 79),(1, .blk [.row 2 13,nS,DI 0,DI 0,DI 0] 79),(2,rE 13 v6 a8.c 30)],3⟩) (0, []) (i6.of 2 rfl (tA rfl) ⟨hR rfl,hR rfl,⟨rfl,rfl⟩,trivial⟩) he ?_
 rintro fu22 ⟨i5,v6⟩ b hm hi23
 apply vb hm<;>intro _ hm
 refine cy hm (a3s i5) ?_
 rintro⟨x25,x26⟩ hm
 apply vb hm<;>intro _ hm
 cases hm
 cases hi23
 have hm:=hk21
 cases hm
 exact j1.le (⟨_,rfl,⟨⟨_,rfl,⟨leD.refl _,leD.nil,leD.refl _,leD.refl _,leD.refl _,trivial⟩⟩,leD.refl _,trivial⟩⟩)
 refine⟨([x25]:List a8).flatMap a8.c,([x25]:List a8).length,⟨rfl,rfl⟩, ?_⟩
 obtain⟨hg,hm⟩:=n8 hm
 refine⟨hg,_,_,O9 (c:=a8.c) (l:=(v6:List a8)) (r:=(([x25]:List a8):List a8)), ?_⟩
 cases hm
 exact⟨(_,((W (i5+1)),(v6++([x25]:List a8)))),i6.of 3 rfl (tA rfl) ⟨hR rfl,hR rfl,hW rfl,trivial⟩,hi23,Nat.lt_succ_self _⟩
 cases hm
 cases hi23
 have hm:=hk21
 cases hm
 exact j1.le (⟨_,rfl,⟨⟨_,rfl,⟨leD.refl _,leD.nil,leD.refl _,leD.refl _,leD.refl _,trivial⟩⟩,leD.refl _,trivial⟩⟩)
def S3 (w:i4) (d:Int):(Int×(List b9))→Option (Sum (Int×(List b9)) (Sum (Int×(List b9)) (i4×Bool))):=fun(to_7,v8)=>
 if(decide (to_7<6))=true then
  Option.bind (idx w.all d) fun e17=>
  Option.bind (Y2 e17 to_7) fun⟨x19,x20⟩=>
  if(x20 !=0)=true then
   some (.inr (.inr ((⟨w.all,v8,w.told⟩:i4),false)))
  else
   gd ((([]:List b9).length+v8.length)*88≤140737488355328∧([]:List b9).length+v8.length≤9223372036854775807)<|
   gd (((([]:List b9)++v8).length+x19.length)*88≤140737488355328∧(([]:List b9)++v8).length+x19.length≤9223372036854775807)<|
   some (.inl ((W (to_7+1)),((([]:List b9)++v8)++x19)))
 else
  some (.inr (.inl (to_7,v8)))
def z7 (w:i4) (d:Int):Option (i4×Bool):=
 Option.bind (A5 (S3 w d) (0,w.calls)) fun e=>
 match e with
 | .inl (to_23,v24)=>
  some ((⟨w.all,v24,w.told⟩:i4),true)
 | .inr rr25=>
  some rr25
theorem C6 (w:i4) (d:Int) (r:(i4×Bool)) (hm:z7 w d=some r):k9 Tryz.prog 48 [.agg (i4.c w),DI d] (fun x=>x= .tup [.agg (i4.c r.1),DB r.2]):=by
 refine zn Tryz.func48 rfl ?_
 obtain⟨ev26,he,hk27⟩:=b8 hm
 refine D5.ofL (S3 w d) (fun(to_7,v8)=>⟨[(0, .agg (i4.c w)),(1,DI d),(2, .own 0 0),(4, .own 1 0),(5,DB false),(6,DI to_7)], [(0, .blk [lD 13 w.all a8.c,lD 11 v8 b9.c,DI w.told.1,DI w.told.2.1,DI w.told.2.2] 79),(1, .blk [nS,nS,DI 0,DI 0,DI 0] 79)],2⟩) (0,w.calls) (i6.of 2 rfl (tA rfl) ⟨hR rfl,hR rfl,trivial⟩) he ?_
 rintro fu28 ⟨to_7,v8⟩ b hm hi29
 apply vb hm<;>intro _ hm
 obtain⟨e31,hx32,hm⟩:=b8 hm
 refine⟨_,u4 (fun _=>rfl) hx32, ?_⟩
 refine cy hm (a6L e31 to_7) ?_
 rintro⟨x33,x34⟩ hm
 apply vb hm<;>intro _ hm
 cases hm
 cases hi29
 have hm:=hk27
 cases hm
 exact j1.le (leD.refl _)
 refine⟨([]:List b9).flatMap b9.c,([]:List b9).length,⟨rfl,rfl⟩, ?_⟩
 obtain⟨hg,hm⟩:=n8 hm
 refine⟨hg,_,_,O9 (c:=b9.c) (l:=(([]:List b9):List b9)) (r:=(v8:List b9)), ?_⟩
 obtain⟨hg,hm⟩:=n8 hm
 refine⟨hg,_,_,O9 (c:=b9.c) (l:=((([]:List b9)++v8):List b9)) (r:=(x33:List b9)), ?_⟩
 cases hm
 exact⟨(_,((W (to_7+1)),((([]:List b9)++v8)++x33))),i6.fz [2] rfl 2 rfl (tA rfl) ⟨hR rfl,hR rfl,trivial⟩,hi29,Nat.lt_succ_self _⟩
 cases hm
 cases hi29
 have hm:=hk27
 cases hm
 exact j1.le (leD.refl _)
def U0 (e_:Int):Option Bool:=
 if(e_==0)=true then
  some true
 else
  if(e_==2)=true then
   some true
  else
   if(e_==93)=true then
    some true
   else
    if(e_==1)=true then
     some true
    else
     if(e_==94)=true then
      some true
     else
      some (e_==95)
theorem a1N (e_:Int) (r:Bool) (hm:U0 e_=some r):k9 Tryz.prog 102 [DI e_] (fun x=>x=DB r):=by
 refine zn Tryz.func102 rfl ?_
 apply vb hm<;>intro _ hm
 exact hm.rr
 apply vb hm<;>intro _ hm
 exact hm.rr
 apply vb hm<;>intro _ hm
 exact hm.rr
 apply vb hm<;>intro _ hm
 exact hm.rr
 apply vb hm<;>intro _ hm
 exact hm.rr
 exact hm.rr
def a0o (w:i4) (y:a1A):Option (i4×Bool):=
 gd ((([]:List a8).length+w.all.length)*264≤140737488355328∧([]:List a8).length+w.all.length≤9223372036854775807)<|
 Option.bind (J8 y.Depot 6) fun x1=>
 Option.bind (idx (([]:List a8)++w.all) x1) fun e3=>
 Option.bind (idx (([]:List a8)++w.all) x1) fun e5=>
 Option.bind (J8 y.Kind 12) fun x7=>
 if(x7==0)=true then
  Option.bind (J8 y.Night 3) fun x10=>
  Option.bind (J8 y.Value 9) fun x12=>
  Option.bind (R1 e5 x10 (W (1+x12))) fun⟨x14,x15⟩=>
  if(x15 !=0)=true then
   Option.bind (U0 x15) fun x18=>
   if x18=true then
    if(x7 !=4)=true then
     if(x7 !=5)=true then
      some ((⟨(([]:List a8)++w.all),w.calls,w.told⟩:i4),(x7 !=6))
     else
      some ((⟨(([]:List a8)++w.all),w.calls,w.told⟩:i4),false)
    else
     some ((⟨(([]:List a8)++w.all),w.calls,w.told⟩:i4),false)
   else
    some ((⟨(([]:List a8)++w.all),w.calls,w.told⟩:i4),false)
  else
   Option.bind (idx (([]:List a8)++w.all) x1) fun e23=>
   Option.bind (idx (([]:List a8)++w.all) x1) fun e25=>
   if(x7==4)=true then
    Option.bind (z7 (⟨((([]:List a8)++w.all).set x1.toNat x14),w.calls,w.told⟩:i4) x1) fun⟨x28,x29⟩=>
    some (x28,x29)
   else
    if(x7==5)=true then
     Option.bind (z7 (⟨((([]:List a8)++w.all).set x1.toNat x14),w.calls,w.told⟩:i4) x1) fun⟨x32,x33⟩=>
     some (x32,x33)
    else
     some ((⟨((([]:List a8)++w.all).set x1.toNat x14),w.calls,w.told⟩:i4),true)
 else
  if(x7==1)=true then
   Option.bind (J8 y.Night 3) fun x36=>
   Option.bind (J8 y.Value 9) fun x38=>
   Option.bind (R1 e5 x36 (W (1+x38))) fun⟨x40,x41⟩=>
   if(x41 !=0)=true then
    Option.bind (U0 x41) fun x44=>
    if x44=true then
     if(x7 !=4)=true then
      if(x7 !=5)=true then
       some ((⟨(([]:List a8)++w.all),w.calls,w.told⟩:i4),(x7 !=6))
      else
       some ((⟨(([]:List a8)++w.all),w.calls,w.told⟩:i4),false)
     else
      some ((⟨(([]:List a8)++w.all),w.calls,w.told⟩:i4),false)
    else
     some ((⟨(([]:List a8)++w.all),w.calls,w.told⟩:i4),false)
   else
    Option.bind (idx (([]:List a8)++w.all) x1) fun e49=>
    Option.bind (idx (([]:List a8)++w.all) x1) fun e51=>
    if(x7==4)=true then
     Option.bind (z7 (⟨((([]:List a8)++w.all).set x1.toNat x40),w.calls,w.told⟩:i4) x1) fun⟨x54,x55⟩=>
     some (x54,x55)
    else
     if(x7==5)=true then
      Option.bind (z7 (⟨((([]:List a8)++w.all).set x1.toNat x40),w.calls,w.told⟩:i4) x1) fun⟨x58,x59⟩=>
      some (x58,x59)
     else
      some ((⟨((([]:List a8)++w.all).set x1.toNat x40),w.calls,w.told⟩:i4),true)
  else
   if(x7==2)=true then
    Option.bind (a2g y) fun x62=>
    Option.bind (M3 e5 x62.Thing x62.To x62.From x62.Until) fun⟨x64,x65⟩=>
    if(x65 !=0)=true then
     Option.bind (U0 x65) fun x68=>
     if x68=true then
      if(x7 !=4)=true then
       if(x7 !=5)=true then
        some ((⟨(([]:List a8)++w.all),w.calls,w.told⟩:i4),(x7 !=6))
       else
        some ((⟨(([]:List a8)++w.all),w.calls,w.told⟩:i4),false)
      else
       some ((⟨(([]:List a8)++w.all),w.calls,w.told⟩:i4),false)
     else
      some ((⟨(([]:List a8)++w.all),w.calls,w.told⟩:i4),false)
    else
     Option.bind (idx (([]:List a8)++w.all) x1) fun e73=>
     Option.bind (idx (([]:List a8)++w.all) x1) fun e75=>
     if(x7==4)=true then
      Option.bind (z7 (⟨((([]:List a8)++w.all).set x1.toNat x64),w.calls,w.told⟩:i4) x1) fun⟨x78,x79⟩=>
      some (x78,x79)
     else
      if(x7==5)=true then
       Option.bind (z7 (⟨((([]:List a8)++w.all).set x1.toNat x64),w.calls,w.told⟩:i4) x1) fun⟨x82,x83⟩=>
       some (x82,x83)
      else
       some ((⟨((([]:List a8)++w.all).set x1.toNat x64),w.calls,w.told⟩:i4),true)
   else
    if(x7==3)=true then
     if((e5.Now.Loans.length:Int)==0)=true then
      some ((⟨(([]:List a8)++w.all),w.calls,w.told⟩:i4),true)
     else
      Option.bind (J8 y.Pick (e5.Now.Loans.length:Int)) fun x87=>
      Option.bind (idx e5.Now.Loans x87) fun e89=>
      Option.bind (J8 y.Long 130) fun x91=>
      Option.bind (a1t e5 e89.Owner e89.No (W (e89.From+x91))) fun⟨x93,x94⟩=>
      if(x94 !=0)=true then
       Option.bind (U0 x94) fun x97=>
       if x97=true then
        if(x7 !=4)=true then
         if(x7 !=5)=true then
          some ((⟨(([]:List a8)++w.all),w.calls,w.told⟩:i4),(x7 !=6))
         else
          some ((⟨(([]:List a8)++w.all),w.calls,w.told⟩:i4),false)
        else
         some ((⟨(([]:List a8)++w.all),w.calls,w.told⟩:i4),false)
       else
        some ((⟨(([]:List a8)++w.all),w.calls,w.told⟩:i4),false)
      else
       Option.bind (idx (([]:List a8)++w.all) x1) fun e102=>
       Option.bind (idx (([]:List a8)++w.all) x1) fun e104=>
       if(x7==4)=true then
        Option.bind (z7 (⟨((([]:List a8)++w.all).set x1.toNat x93),w.calls,w.told⟩:i4) x1) fun⟨x107,x108⟩=>
        some (x107,x108)
       else
        if(x7==5)=true then
         Option.bind (z7 (⟨((([]:List a8)++w.all).set x1.toNat x93),w.calls,w.told⟩:i4) x1) fun⟨x111,x112⟩=>
         some (x111,x112)
        else
         some ((⟨((([]:List a8)++w.all).set x1.toNat x93),w.calls,w.told⟩:i4),true)
    else
     if(x7==4)=true then
      Option.bind (S1 e5) fun⟨x115,x116⟩=>
      if(x116 !=0)=true then
       Option.bind (U0 x116) fun x119=>
       if x119=true then
        if(x7 !=4)=true then
         if(x7 !=5)=true then
          some ((⟨(([]:List a8)++w.all),w.calls,w.told⟩:i4),(x7 !=6))
         else
          some ((⟨(([]:List a8)++w.all),w.calls,w.told⟩:i4),false)
        else
         some ((⟨(([]:List a8)++w.all),w.calls,w.told⟩:i4),false)
       else
        some ((⟨(([]:List a8)++w.all),w.calls,w.told⟩:i4),false)
      else
       Option.bind (idx (([]:List a8)++w.all) x1) fun e124=>
       Option.bind (idx (([]:List a8)++w.all) x1) fun e126=>
       Option.bind (z7 (⟨((([]:List a8)++w.all).set x1.toNat x115),w.calls,w.told⟩:i4) x1) fun⟨x128,x129⟩=>
       some (x128,x129)
     else
      if(x7==5)=true then
       Option.bind (S1 e5) fun⟨x132,x133⟩=>
       if(x133 !=0)=true then
        Option.bind (U0 x133) fun x136=>
        if x136=true then
         if(x7 !=4)=true then
          if(x7 !=5)=true then
           some ((⟨(([]:List a8)++w.all),w.calls,w.told⟩:i4),(x7 !=6))
          else
           some ((⟨(([]:List a8)++w.all),w.calls,w.told⟩:i4),false)
         else
          some ((⟨(([]:List a8)++w.all),w.calls,w.told⟩:i4),false)
        else
         some ((⟨(([]:List a8)++w.all),w.calls,w.told⟩:i4),false)
       else
        Option.bind (idx (([]:List a8)++w.all) x1) fun e141=>
        Option.bind (idx (([]:List a8)++w.all) x1) fun e143=>
        Option.bind (z7 (⟨((([]:List a8)++w.all).set x1.toNat x132),w.calls,w.told⟩:i4) x1) fun⟨x145,x146⟩=>
        some (x145,x146)
      else
       if(x7==6)=true then
        Option.bind (a2V e5) fun⟨x149,x150⟩=>
        if(x150 !=0)=true then
         Option.bind (U0 x150) fun x153=>
         if x153=true then
          if(x7 !=4)=true then
           if(x7 !=5)=true then
            some ((⟨(([]:List a8)++w.all),w.calls,w.told⟩:i4),(x7 !=6))
           else
            some ((⟨(([]:List a8)++w.all),w.calls,w.told⟩:i4),false)
          else
           some ((⟨(([]:List a8)++w.all),w.calls,w.told⟩:i4),false)
         else
          some ((⟨(([]:List a8)++w.all),w.calls,w.told⟩:i4),false)
        else
         Option.bind (idx (([]:List a8)++w.all) x1) fun e158=>
         Option.bind (idx (([]:List a8)++w.all) x1) fun e160=>
         some ((⟨((([]:List a8)++w.all).set x1.toNat x149),w.calls,w.told⟩:i4),true)
       else
        if((w.calls.length:Int)==0)=true then
         some ((⟨(([]:List a8)++w.all),w.calls,w.told⟩:i4),true)
        else
         Option.bind (J8 y.Pick (w.calls.length:Int)) fun x163=>
         Option.bind (idx w.calls x163) fun e165=>
         if(decide (e165.To<0))=true then
          some ((⟨(([]:List a8)++w.all),w.calls,w.told⟩:i4),false)
         else
          if(decide (e165.To≥6))=true then
           some ((⟨(([]:List a8)++w.all),w.calls,w.told⟩:i4),false)
          else
           Option.bind (idx (([]:List a8)++w.all) e165.To) fun e169=>
           Option.bind (idx (([]:List a8)++w.all) e165.To) fun e171=>
           Option.bind (Q9 e171 e165) fun⟨x173,x174⟩=>
           if(x174 !=0)=true then
            Option.bind (U0 x174) fun x177=>
            if x177=true then
             if(x7 !=4)=true then
              if(x7 !=5)=true then
               some ((⟨(([]:List a8)++w.all),w.calls,w.told⟩:i4),(x7 !=6))
              else
               some ((⟨(([]:List a8)++w.all),w.calls,w.told⟩:i4),false)
             else
              some ((⟨(([]:List a8)++w.all),w.calls,w.told⟩:i4),false)
            else
             some ((⟨(([]:List a8)++w.all),w.calls,w.told⟩:i4),false)
           else
            Option.bind (idx (([]:List a8)++w.all) e165.To) fun e182=>
            Option.bind (idx (([]:List a8)++w.all) e165.To) fun e184=>
            some ((⟨((([]:List a8)++w.all).set e165.To.toNat x173),w.calls,w.told⟩:i4),true)
theorem b0r (w:i4) (y:a1A) (r:(i4×Bool)) (hm:a0o w y=some r):k9 Tryz.prog 47 [.agg (i4.c w), .agg (a1A.c y)] (fun x=>x= .tup [.agg (i4.c r.1),DB r.2]):=by
 refine zy c6r [] [] [] Tryz.func47 rfl ?_
 refine⟨([]:List a8).flatMap a8.c,([]:List a8).length,⟨rfl,rfl⟩, ?_⟩
 obtain⟨hg,hm⟩:=n8 hm
 refine⟨hg,_,_,O9 (c:=a8.c) (l:=(([]:List a8):List a8)) (r:=(w.all:List a8)), ?_⟩
 refine cy hm (P3 y.Depot 6) fun x1 hm=> ?_
 obtain⟨e3,hx4,hm⟩:=b8 hm
 refine⟨S7 hx4, ?_⟩
 obtain⟨e5,hx6,hm⟩:=b8 hm
 refine⟨_,K0 (fun _=>rfl) hx6, ?_⟩
 refine cy hm (P3 y.Kind 12) fun x7 hm=> ?_
 apply vb hm<;>intro h9 hm
 refine VIf.t h9 ?_
 refine⟨rfl, ?_⟩
 refine cy hm (P3 y.Night 3) fun x10 hm=> ?_
 refine cy hm (P3 y.Value 9) fun x12 hm=> ?_
 refine cy hm (a2P e5 x10 (W (1+x12))) ?_
 rintro⟨x14,x15⟩ hm
 apply vb hm<;>intro _ hm
 refine⟨rfl, ?_⟩
 refine cy hm (a1N x15) fun x18 hm=> ?_
 apply vb hm<;>intro _ hm
 apply vb hm<;>intro _ hm
 apply vb hm<;>intro _ hm
 cases hm
 exact j1.le (leD.refl _)
 cases hm
 exact j1.le (leD.refl _)
 cases hm
 exact j1.le (leD.refl _)
 cases hm
 exact j1.le (leD.refl _)
 obtain⟨e23,hx24,hm⟩:=b8 hm
 refine⟨S7 hx24, ?_⟩
 obtain⟨e25,hx26,hm⟩:=b8 hm
 refine⟨_,K0 (fun _=>rfl) hx26,_,O4 (y:=x14) (fun _=>rfl) hx26, ?_⟩
 apply vb hm<;>intro _ hm
 rw [show(([]:List a8)++w.all).length=((([]:List a8)++w.all).set x1.toNat x14).length from by simp only [List.length_set]]
 refine co hm (C6 ((⟨((([]:List a8)++w.all).set x1.toNat x14),w.calls,w.told⟩:i4)) x1) ?_
 rintro⟨x28,x29⟩ hm
 cases hm
 exact j1.le (leD.refl _)
 apply vb hm<;>intro _ hm
 rw [show(([]:List a8)++w.all).length=((([]:List a8)++w.all).set x1.toNat x14).length from by simp only [List.length_set]]
 refine co hm (C6 ((⟨((([]:List a8)++w.all).set x1.toNat x14),w.calls,w.told⟩:i4)) x1) ?_
 rintro⟨x32,x33⟩ hm
 cases hm
 exact j1.le (leD.refl _)
 cases hm
 exact j1.le (by first|exact leD.refl _|(simp only [i4.c,lD,List.length_set];exact leD.refl _))
 apply vb hm<;>intro _ hm
 refine⟨rfl, ?_⟩
 refine cy hm (P3 y.Night 3) fun x36 hm=> ?_
 refine cy hm (P3 y.Value 9) fun x38 hm=> ?_
 refine cy hm (a2P e5 x36 (W (1+x38))) ?_
 rintro⟨x40,x41⟩ hm
 apply vb hm<;>intro _ hm
 refine⟨rfl, ?_⟩
 refine cy hm (a1N x41) fun x44 hm=> ?_
 apply vb hm<;>intro _ hm
 apply vb hm<;>intro _ hm
 apply vb hm<;>intro _ hm
 cases hm
 exact j1.le (leD.refl _)
 cases hm
 exact j1.le (leD.refl _)
 cases hm
 exact j1.le (leD.refl _)
 cases hm
 exact j1.le (leD.refl _)
 obtain⟨e49,hx50,hm⟩:=b8 hm
 refine⟨S7 hx50, ?_⟩
 obtain⟨e51,hx52,hm⟩:=b8 hm
 refine⟨_,K0 (fun _=>rfl) hx52,_,O4 (y:=x40) (fun _=>rfl) hx52, ?_⟩
 apply vb hm<;>intro _ hm
 rw [show(([]:List a8)++w.all).length=((([]:List a8)++w.all).set x1.toNat x40).length from by simp only [List.length_set]]
 refine co hm (C6 ((⟨((([]:List a8)++w.all).set x1.toNat x40),w.calls,w.told⟩:i4)) x1) ?_
 rintro⟨x54,x55⟩ hm
 cases hm
 exact j1.le (leD.refl _)
 apply vb hm<;>intro _ hm
 rw [show(([]:List a8)++w.all).length=((([]:List a8)++w.all).set x1.toNat x40).length from by simp only [List.length_set]]
 refine co hm (C6 ((⟨((([]:List a8)++w.all).set x1.toNat x40),w.calls,w.told⟩:i4)) x1) ?_
 rintro⟨x58,x59⟩ hm
 cases hm
 exact j1.le (leD.refl _)
 cases hm
 exact j1.le (by first|exact leD.refl _|(simp only [i4.c,lD,List.length_set];exact leD.refl _))
 apply vb hm<;>intro _ hm
 refine cy hm (b2i y) fun x62 hm=> ?_
 refine cy hm (a1g e5 x62.Thing x62.To x62.From x62.Until) ?_
 rintro⟨x64,x65⟩ hm
 apply vb hm<;>intro _ hm
 refine⟨rfl, ?_⟩
 refine cy hm (a1N x65) fun x68 hm=> ?_
 apply vb hm<;>intro _ hm
 apply vb hm<;>intro _ hm
 apply vb hm<;>intro _ hm
 cases hm
 exact j1.le (leD.refl _)
 cases hm
 exact j1.le (leD.refl _)
 cases hm
 exact j1.le (leD.refl _)
 cases hm
 exact j1.le (leD.refl _)
 obtain⟨e73,hx74,hm⟩:=b8 hm
 refine⟨S7 hx74, ?_⟩
 obtain⟨e75,hx76,hm⟩:=b8 hm
 refine⟨_,K0 (fun _=>rfl) hx76,_,O4 (y:=x64) (fun _=>rfl) hx76, ?_⟩
 apply vb hm<;>intro _ hm
 rw [show(([]:List a8)++w.all).length=((([]:List a8)++w.all).set x1.toNat x64).length from by simp only [List.length_set]]
 refine co hm (C6 ((⟨((([]:List a8)++w.all).set x1.toNat x64),w.calls,w.told⟩:i4)) x1) ?_
 rintro⟨x78,x79⟩ hm
 cases hm
 exact j1.le (leD.refl _)
 apply vb hm<;>intro _ hm
 rw [show(([]:List a8)++w.all).length=((([]:List a8)++w.all).set x1.toNat x64).length from by simp only [List.length_set]]
 refine co hm (C6 ((⟨((([]:List a8)++w.all).set x1.toNat x64),w.calls,w.told⟩:i4)) x1) ?_
 rintro⟨x82,x83⟩ hm
 cases hm
 exact j1.le (leD.refl _)
 cases hm
 exact j1.le (by first|exact leD.refl _|(simp only [i4.c,lD,List.length_set];exact leD.refl _))
 apply vb hm<;>intro _ hm
 apply vb hm<;>intro _ hm
 cases hm
 exact j1.le (leD.refl _)
 refine⟨rfl, ?_⟩
 refine cy hm (P3 y.Pick ((e5.Now.Loans.length:Int))) fun x87 hm=> ?_
 obtain⟨e89,hx90,hm⟩:=b8 hm
 refine⟨_,u4 (fun _=>rfl) hx90, ?_⟩
 refine⟨rfl, ?_⟩
 refine cy hm (P3 y.Long 130) fun x91 hm=> ?_
 refine cy hm (b0u e5 e89.Owner e89.No (W (e89.From+x91))) ?_
 rintro⟨x93,x94⟩ hm
 apply vb hm<;>intro _ hm
 refine⟨rfl, ?_⟩
 refine cy hm (a1N x94) fun x97 hm=> ?_
 apply vb hm<;>intro _ hm
 apply vb hm<;>intro _ hm
 apply vb hm<;>intro _ hm
 cases hm
 exact j1.le (leD.refl _)
 cases hm
 exact j1.le (leD.refl _)
 cases hm
 exact j1.le (leD.refl _)
 cases hm
 exact j1.le (leD.refl _)
 obtain⟨e102,hx103,hm⟩:=b8 hm
 refine⟨S7 hx103, ?_⟩
 obtain⟨e104,hx105,hm⟩:=b8 hm
 refine⟨_,K0 (fun _=>rfl) hx105,_,O4 (y:=x93) (fun _=>rfl) hx105, ?_⟩
 apply vb hm<;>intro _ hm
 rw [show(([]:List a8)++w.all).length=((([]:List a8)++w.all).set x1.toNat x93).length from by simp only [List.length_set]]
 refine co hm (C6 ((⟨((([]:List a8)++w.all).set x1.toNat x93),w.calls,w.told⟩:i4)) x1) ?_
 rintro⟨x107,x108⟩ hm
 cases hm
 exact j1.le (leD.refl _)
 apply vb hm<;>intro _ hm
 rw [show(([]:List a8)++w.all).length=((([]:List a8)++w.all).set x1.toNat x93).length from by simp only [List.length_set]]
 refine co hm (C6 ((⟨((([]:List a8)++w.all).set x1.toNat x93),w.calls,w.told⟩:i4)) x1) ?_
 rintro⟨x111,x112⟩ hm
 cases hm
 exact j1.le (leD.refl _)
 cases hm
 exact j1.le (by first|exact leD.refl _|(simp only [i4.c,lD,List.length_set];exact leD.refl _))
 apply vb hm<;>intro h114 hm
 refine VIf.t h114 ?_
 refine cy hm (a3W e5) ?_
 rintro⟨x115,x116⟩ hm
 apply vb hm<;>intro _ hm
 refine⟨rfl, ?_⟩
 refine cy hm (a1N x116) fun x119 hm=> ?_
 apply vb hm<;>intro _ hm
 apply vb hm<;>intro _ hm
 apply vb hm<;>intro _ hm
 cases hm
 exact j1.le (leD.refl _)
 cases hm
 exact j1.le (leD.refl _)
 cases hm
 exact j1.le (leD.refl _)
 cases hm
 exact j1.le (leD.refl _)
 obtain⟨e124,hx125,hm⟩:=b8 hm
 refine⟨S7 hx125, ?_⟩
 obtain⟨e126,hx127,hm⟩:=b8 hm
 refine⟨_,K0 (fun _=>rfl) hx127,_,O4 (y:=x115) (fun _=>rfl) hx127, ?_⟩
 refine VIf.t h114 ?_
 rw [show(([]:List a8)++w.all).length=((([]:List a8)++w.all).set x1.toNat x115).length from by simp only [List.length_set]]
 refine co hm (C6 ((⟨((([]:List a8)++w.all).set x1.toNat x115),w.calls,w.told⟩:i4)) x1) ?_
 rintro⟨x128,x129⟩ hm
 cases hm
 exact j1.le (leD.refl _)
 apply vb hm<;>intro h131 hm
 refine cy hm (a3W e5) ?_
 rintro⟨x132,x133⟩ hm
 apply vb hm<;>intro _ hm
 refine⟨rfl, ?_⟩
 refine cy hm (a1N x133) fun x136 hm=> ?_
 apply vb hm<;>intro _ hm
 apply vb hm<;>intro _ hm
 apply vb hm<;>intro _ hm
 cases hm
 exact j1.le (leD.refl _)
 cases hm
 exact j1.le (leD.refl _)
 cases hm
 exact j1.le (leD.refl _)
 cases hm
 exact j1.le (leD.refl _)
 obtain⟨e141,hx142,hm⟩:=b8 hm
 refine⟨S7 hx142, ?_⟩
 obtain⟨e143,hx144,hm⟩:=b8 hm
 refine⟨_,K0 (fun _=>rfl) hx144,_,O4 (y:=x132) (fun _=>rfl) hx144, ?_⟩
 refine VIf.f h114 ?_
 refine VIf.t h131 ?_
 rw [show(([]:List a8)++w.all).length=((([]:List a8)++w.all).set x1.toNat x132).length from by simp only [List.length_set]]
 refine co hm (C6 ((⟨((([]:List a8)++w.all).set x1.toNat x132),w.calls,w.told⟩:i4)) x1) ?_
 rintro⟨x145,x146⟩ hm
 cases hm
 exact j1.le (leD.refl _)
 apply vb hm<;>intro _ hm
 refine cy hm (b2K e5) ?_
 rintro⟨x149,x150⟩ hm
 apply vb hm<;>intro _ hm
 refine⟨rfl, ?_⟩
 refine cy hm (a1N x150) fun x153 hm=> ?_
 apply vb hm<;>intro _ hm
 apply vb hm<;>intro _ hm
 apply vb hm<;>intro _ hm
 cases hm
 exact j1.le (leD.refl _)
 cases hm
 exact j1.le (leD.refl _)
 cases hm
 exact j1.le (leD.refl _)
 cases hm
 exact j1.le (leD.refl _)
 obtain⟨e158,hx159,hm⟩:=b8 hm
 refine⟨S7 hx159, ?_⟩
 obtain⟨e160,hx161,hm⟩:=b8 hm
 refine⟨_,K0 (fun _=>rfl) hx161,_,O4 (y:=x149) (fun _=>rfl) hx161, ?_⟩
 refine VIf.f h114 ?_
 refine VIf.f h131 ?_
 cases hm
 exact j1.le (by first|exact leD.refl _|(simp only [i4.c,lD,List.length_set];exact leD.refl _))
 apply vb hm<;>intro _ hm
 cases hm
 exact j1.le (leD.refl _)
 refine⟨rfl, ?_⟩
 refine cy hm (P3 y.Pick ((w.calls.length:Int))) fun x163 hm=> ?_
 obtain⟨e165,hx166,hm⟩:=b8 hm
 refine⟨_,u4 (fun _=>rfl) hx166, ?_⟩
 apply vb hm<;>intro _ hm
 cases hm
 exact j1.le (leD.refl _)
 apply vb hm<;>intro _ hm
 cases hm
 exact j1.le (leD.refl _)
 refine⟨rfl, ?_⟩
 obtain⟨e169,hx170,hm⟩:=b8 hm
 refine⟨S7 hx170, ?_⟩
 obtain⟨e171,hx172,hm⟩:=b8 hm
 refine⟨_,K0 (fun _=>rfl) hx172, ?_⟩
 refine cy hm (a2W e171 e165) ?_
 rintro⟨x173,x174⟩ hm
 apply vb hm<;>intro _ hm
 refine⟨rfl, ?_⟩
 refine cy hm (a1N x174) fun x177 hm=> ?_
 apply vb hm<;>intro _ hm
 apply vb hm<;>intro _ hm
 apply vb hm<;>intro _ hm
 cases hm
 exact j1.le (leD.refl _)
 cases hm
 exact j1.le (leD.refl _)
 cases hm
 exact j1.le (leD.refl _)
 cases hm
 exact j1.le (leD.refl _)
 obtain⟨e182,hx183,hm⟩:=b8 hm
 refine⟨S7 hx183, ?_⟩
 obtain⟨e184,hx185,hm⟩:=b8 hm
 refine⟨_,K0 (fun _=>rfl) hx185,_,O4 (y:=x173) (fun _=>rfl) hx185, ?_⟩
 refine VIf.f h114 ?_
 refine VIf.f h131 ?_
 cases hm
 exact j1.le (by first|exact leD.refl _|(simp only [i4.c,lD,List.length_set];exact leD.refl _))
def P4 (p:l8) (night:Int):Int→Option (Sum Int (Sum Int (Int×Bool))):=fun v8=>
 if(decide (v8<(p.Station.Now.Heard.length:Int)))=true then
  Option.bind (idx p.Station.Now.Heard v8) fun e17=>
  if(e17.Night==night)=true then
   Option.bind (L3 e17.Mask) fun x20=>
   if x20=true then
    some (.inr (.inr (e17.Value,true)))
   else
    some (.inl (W (v8+1)))
  else
   some (.inl (W (v8+1)))
 else
  some (.inr (.inl v8))
def U5 (p:l8) (night:Int):Option (Int×Bool):=
 Option.bind (A5 (P4 p night) 0) fun e=>
 match e with
 | .inl v23=>
  some (0,false)
 | .inr rr24=>
  some rr24
theorem a6q (p:l8) (night:Int) (r:(Int×Bool)) (hm:U5 p night=some r):k9 Tryz.prog 103 [.ptr (l8.c p) 0,DI night] (fun x=>x= .tup [DI r.1,DB r.2]):=by
 refine zn Tryz.func103 rfl ?_
 obtain⟨ev25,he,hk26⟩:=b8 hm
 refine D5.ofL (P4 p night) (fun v8=>⟨[(0, .ptr (l8.c p) 0),(1,DI night),(4,DI 0),(5,DB false),(13,lD 4 p.Station.Now.Heard c9.c),(14,DI (p.Station.Now.Heard.length:Int)),(15,DI v8)], [],0⟩) 0 (i6.of 0 rfl (tA rfl) trivial) he ?_
 rintro fu27 v8 b hm hi28
 apply vb hm<;>intro _ hm
 obtain⟨e30,hx31,hm⟩:=b8 hm
 refine⟨_,u4 (fun _=>rfl) hx31, ?_⟩
 apply vb hm<;>intro _ hm
 refine cy hm (a0B e30.Mask) fun x33 hm=> ?_
 apply vb hm<;>intro _ hm
 cases hm
 cases hi28
 have hm:=hk26
 cases hm
 exact j1.le (leD.refl _)
 cases hm
 exact⟨(_,(W (v8+1))),i6.of 0 rfl (tA rfl) trivial,hi28,Nat.lt_succ_self _⟩
 cases hm
 exact⟨(_,(W (v8+1))),i6.of 0 rfl (tA rfl) trivial,hi28,Nat.lt_succ_self _⟩
 cases hm
 cases hi28
 have hm:=hk26
 cases hm
 exact j1.le (leD.refl _)
def V5 (x:List Int):Option (List Int):=some (a5b x)
theorem a4u (x r:List Int) (hm:V5 x=some r):a8z Tryz.prog 106 1 x.length (x.flatMap cI) 3 [] 1 r.length (r.flatMap cI):=by
 cases hm
 exact c0c c0m x 3
def L0 (l:(List a8)):((List (Option l8))×Int×(List (Option l8)))→Option (Sum ((List (Option l8))×Int×(List (Option l8))) (Sum ((List (Option l8))×Int×(List (Option l8))) ((List (Option l8))×Int))):=fun(out10,v11,out12)=>
 if(decide (v11<(l.length:Int)))=true then
  Option.bind (idx l v11) fun e31=>
  Option.bind (Q7 e31) fun⟨x33,x34⟩=>
  b2c x33 (
   if(x34 !=0)=true then
    some (.inr (.inr ([],97)))
   else
    if(decide (v11>0))=true then
     Option.bind (idx l (W (v11-1))) fun e39=>
     if(decide (e39.Me≥e31.Me))=true then
      some (.inr (.inr ([],97)))
     else
      gd ((out12.length+([none]:List (Option l8)).length)*8≤140737488355328∧out12.length+([none]:List (Option l8)).length≤9223372036854775807)<|
      some (.inl (out10,(W (v11+1)),(out12++([none]:List (Option l8)))))
    else
     gd ((out12.length+([none]:List (Option l8)).length)*8≤140737488355328∧out12.length+([none]:List (Option l8)).length≤9223372036854775807)<|
     some (.inl (out10,(W (v11+1)),(out12++([none]:List (Option l8)))))) fun p36=>
  if(x34 !=0)=true then
   some (.inr (.inr ([],97)))
  else
   if(decide (v11>0))=true then
    Option.bind (idx l (W (v11-1))) fun e44=>
    if(decide (e44.Me≥e31.Me))=true then
     some (.inr (.inr ([],97)))
    else
     gd ((out12.length+([(some p36)]:List (Option l8)).length)*8≤140737488355328∧out12.length+([(some p36)]:List (Option l8)).length≤9223372036854775807)<|
     some (.inl (out10,(W (v11+1)),(out12++([(some p36)]:List (Option l8)))))
   else
    gd ((out12.length+([(some p36)]:List (Option l8)).length)*8≤140737488355328∧out12.length+([(some p36)]:List (Option l8)).length≤9223372036854775807)<|
    some (.inl (out10,(W (v11+1)),(out12++([(some p36)]:List (Option l8)))))
 else
  some (.inr (.inl (out10,v11,out12)))
def a0p (l:(List a8)):Option ((List (Option l8))×Int):=
 Option.bind (A5 (L0 l) ([],0, [])) fun e=>
 match e with
 | .inl (out47,v48,out49)=>
  some (out49,0)
 | .inr rr50=>
  some rr50
theorem a5K (l:(List a8)) (r:((List (Option l8))×Int)) (hm:a0p l=some r):k9 Tryz.prog 110 [lD 13 l a8.c] (fun x=>x= .tup [lD 1 r.1 cf1,DI r.2]):=by
 refine zy c5J [] [] [] Tryz.func110 rfl ?_
 obtain⟨ev51,he,hk52⟩:=b8 hm
 refine D5.ofL (L0 l) (fun(out10,v11,out12)=>⟨[(0,lD 13 l a8.c),(2,nS),(3,DI 0),(4, .row 1 1),(9,lD 13 l a8.c),(10,DI (l.length:Int)),(11,DI v11)], [(0,rE 1 out10 cf1 97),(1,rE 1 out12 cf1 97)],2⟩) ([],0, []) (i6.of 0 rfl (tA rfl) ⟨⟨rfl,rfl⟩,⟨rfl,rfl⟩,trivial⟩) he ?_
 rintro fu53 ⟨out10,v11,out12⟩ b hm hi54
 apply vb hm<;>intro _ hm
 obtain⟨e56,hx57,hm⟩:=b8 hm
 refine⟨_,u4 (fun _=>rfl) hx57, ?_⟩
 refine cy hm (a2X e56) ?_
 rintro⟨x58,x59⟩ hm
 rcases x58 with _|p61
 replace hm:=a8t hm
 refine⟨rfl, ?_⟩
 apply vb hm<;>intro _ hm
 cases hm
 cases hi54
 have hm:=hk52
 cases hm
 exact j1.le (⟨_,rfl,⟨leD.nil,leD.refl _,trivial⟩⟩)
 apply vb hm<;>intro _ hm
 obtain⟨e64,hx65,hm⟩:=b8 hm
 refine⟨_,u4 (fun _=>rfl) hx65, ?_⟩
 apply vb hm<;>intro _ hm
 cases hm
 cases hi54
 have hm:=hk52
 cases hm
 exact j1.le (⟨_,rfl,⟨leD.nil,leD.refl _,trivial⟩⟩)
 refine⟨([none]:List (Option l8)).flatMap cf1,([none]:List (Option l8)).length,⟨rfl,rfl⟩, ?_⟩
 obtain⟨hg,hm⟩:=n8 hm
 refine⟨hg,_,_,O9 (c:=cf1) (l:=(out12:List (Option l8))) (r:=(([none]:List (Option l8)):List (Option l8))), ?_⟩
 cases hm
 exact⟨(_,(out10,(W (v11+1)),(out12++([none]:List (Option l8))))),i6.of 2 rfl (tA rfl) ⟨hW rfl,hW rfl,trivial⟩,hi54,Nat.lt_succ_self _⟩
 refine⟨([none]:List (Option l8)).flatMap cf1,([none]:List (Option l8)).length,⟨rfl,rfl⟩, ?_⟩
 obtain⟨hg,hm⟩:=n8 hm
 refine⟨hg,_,_,O9 (c:=cf1) (l:=(out12:List (Option l8))) (r:=(([none]:List (Option l8)):List (Option l8))), ?_⟩
 cases hm
 exact⟨(_,(out10,(W (v11+1)),(out12++([none]:List (Option l8))))),i6.of 2 rfl (tA rfl) ⟨hW rfl,hW rfl,trivial⟩,hi54,Nat.lt_succ_self _⟩
 replace hm:=a8o hm
 refine⟨rfl, ?_⟩
 apply vb hm<;>intro _ hm
 cases hm
 cases hi54
 have hm:=hk52
 cases hm
 exact j1.le (⟨_,rfl,⟨leD.nil,leD.refl _,trivial⟩⟩)
 apply vb hm<;>intro _ hm
 obtain⟨e69,hx70,hm⟩:=b8 hm
 refine⟨_,u4 (fun _=>rfl) hx70, ?_⟩
 apply vb hm<;>intro _ hm
 cases hm
 cases hi54
 have hm:=hk52
 cases hm
 exact j1.le (⟨_,rfl,⟨leD.nil,leD.refl _,trivial⟩⟩)
 refine⟨([(some p61)]:List (Option l8)).flatMap cf1,([(some p61)]:List (Option l8)).length,⟨rfl,rfl⟩, ?_⟩
 obtain⟨hg,hm⟩:=n8 hm
 refine⟨hg,_,_,O9 (c:=cf1) (l:=(out12:List (Option l8))) (r:=(([(some p61)]:List (Option l8)):List (Option l8))), ?_⟩
 cases hm
 exact⟨(_,(out10,(W (v11+1)),(out12++([(some p61)]:List (Option l8))))),i6.of 2 rfl (tA rfl) ⟨hW rfl,hW rfl,trivial⟩,hi54,Nat.lt_succ_self _⟩
 refine⟨([(some p61)]:List (Option l8)).flatMap cf1,([(some p61)]:List (Option l8)).length,⟨rfl,rfl⟩, ?_⟩
 obtain⟨hg,hm⟩:=n8 hm
 refine⟨hg,_,_,O9 (c:=cf1) (l:=(out12:List (Option l8))) (r:=(([(some p61)]:List (Option l8)):List (Option l8))), ?_⟩
 cases hm
 exact⟨(_,(out10,(W (v11+1)),(out12++([(some p61)]:List (Option l8))))),i6.of 2 rfl (tA rfl) ⟨hW rfl,hW rfl,trivial⟩,hi54,Nat.lt_succ_self _⟩
 cases hm
 cases hi54
 have hm:=hk52
 cases hm
 exact j1.le (leD.refl _)
def U9 (thing:Int) (moment:Int) (x1:(List (Option l8))):((List Int)×Int)→Option (Sum ((List Int)×Int) ((List Int)×Int)):=fun(out18,v19)=>
 if(decide (v19<(x1.length:Int)))=true then
  Option.bind (idx x1 v19) fun e28=>
  Option.bind e28 fun p30=>
  Option.bind (U4 p30 thing moment) fun x31=>
  if x31=true then
   gd ((out18.length+([p30.Station.Me]:List Int).length)*8≤140737488355328∧out18.length+([p30.Station.Me]:List Int).length≤9223372036854775807)<|
   some (.inl ((out18++([p30.Station.Me]:List Int)),(W (v19+1))))
  else
   some (.inl (out18,(W (v19+1))))
 else
  some (.inr (out18,v19))
def a0J (l:(List a8)) (thing:Int) (moment:Int):Option ((List Int)×Int):=
 Option.bind (a0p l) fun⟨x1,x2⟩=>
 if(x2 !=0)=true then
  some ([],x2)
 else
  Option.bind (B2 thing) fun x5=>
  if(!x5)=true then
   some ([],1)
  else
   Option.bind (j5 moment) fun x8=>
   if(!x8)=true then
    some ([],95)
   else
    Option.bind (A5 (U9 thing moment x1) ([],0)) fun(out34,v35)=>
    some (out34,0)
theorem b2h (l:(List a8)) (thing:Int) (moment:Int) (r:((List Int)×Int)) (hm:a0J l thing moment=some r):k9 Tryz.prog 56 [lD 13 l a8.c,DI thing,DI moment] (fun x=>x= .tup [lD 1 r.1 cI,DI r.2]):=by
 refine zn Tryz.func56 rfl ?_
 refine cy hm (a5K l) ?_
 rintro⟨x1,x2⟩ hm
 apply vb hm<;>intro _ hm
 cases hm
 exact j1.le (⟨_,rfl,⟨leD.nil,leD.refl _,trivial⟩⟩)
 refine cy hm (G9 thing) fun x5 hm=> ?_
 apply vb hm<;>intro _ hm
 cases hm
 exact j1.le (⟨_,rfl,⟨leD.nil,leD.refl _,trivial⟩⟩)
 refine cy hm (n7 moment) fun x8 hm=> ?_
 apply vb hm<;>intro _ hm
 cases hm
 exact j1.le (⟨_,rfl,⟨leD.nil,leD.refl _,trivial⟩⟩)
 obtain⟨ev36,he,hk37⟩:=b8 hm
 refine D5.ofL (U9 thing moment x1) (fun(out18,v19)=>⟨[(0,lD 13 l a8.c),(1,DI thing),(2,DI moment),(6,nS),(7,DI 0),(8,lD 1 x1 cf1),(9,DI x2),(10, .row 0 1),(18,DB (x2 !=0)),(22,DB (!x5)),(26,DB (!x8)),(30,lD 1 x1 cf1),(31,DI (x1.length:Int)),(32,DI v19)], [(0,rE 1 out18 cI 3)],1⟩) ([],0) (i6.of 0 rfl (tA rfl) ⟨⟨rfl,rfl⟩,trivial⟩) he ?_
 rintro fu38 ⟨out18,v19⟩ b hm hi39
 apply vb hm<;>intro _ hm
 obtain⟨e41,hx42,hm⟩:=b8 hm
 refine⟨_,u4 (fun _=>rfl) hx42, ?_⟩
 obtain⟨p43,hx,hm2⟩:=b8 hm
 subst hx
 have hm:=hm2
 refine cy hm (a4o p43 thing moment) fun x44 hm=> ?_
 apply vb hm<;>intro _ hm
 refine⟨([p43.Station.Me]:List Int).flatMap cI,([p43.Station.Me]:List Int).length,⟨rfl,rfl⟩, ?_⟩
 obtain⟨hg,hm⟩:=n8 hm
 refine⟨hg,_,_,O9 (c:=cI) (l:=(out18:List Int)) (r:=(([p43.Station.Me]:List Int):List Int)), ?_⟩
 cases hm
 exact⟨(_,((out18++([p43.Station.Me]:List Int)),(W (v19+1)))),i6.of 1 rfl (tA rfl) ⟨hW rfl,trivial⟩,hi39,Nat.lt_succ_self _⟩
 cases hm
 exact⟨(_,(out18,(W (v19+1)))),i6.of 1 rfl (tA rfl) ⟨hW rfl,trivial⟩,hi39,Nat.lt_succ_self _⟩
 cases hm
 cases hi39
 have hm:=hk37
 cases hm
 exact j1.le (leD.refl _)
def Q1 (night:Int) (x1:(List (Option l8))):((List Int)×Int)→Option (Sum ((List Int)×Int) ((List Int)×Int)):=fun(out16,v17)=>
 if(decide (v17<(x1.length:Int)))=true then
  Option.bind (idx x1 v17) fun e27=>
  Option.bind e27 fun p29=>
  Option.bind (U5 p29 night) fun⟨x30,x31⟩=>
  if x31=true then
   gd ((out16.length+([x30]:List Int).length)*8≤140737488355328∧out16.length+([x30]:List Int).length≤9223372036854775807)<|
   some (.inl ((out16++([x30]:List Int)),(W (v17+1))))
  else
   some (.inl (out16,(W (v17+1))))
 else
  some (.inr (out16,v17))
def Y4 (l:(List a8)) (night:Int):Option ((List Int)×Int):=
 Option.bind (a0p l) fun⟨x1,x2⟩=>
 if(x2 !=0)=true then
  some ([],x2)
 else
  Option.bind (z6 night) fun x5=>
  if(!x5)=true then
   some ([],6)
  else
   Option.bind (A5 (Q1 night x1) ([],0)) fun(out34,v35)=>
   Option.bind (K6 out34) fun x37=>
   Option.bind (V5 x37) fun x38=>
   some (x38,0)
theorem a9f (l:(List a8)) (night:Int) (r:((List Int)×Int)) (hm:Y4 l night=some r):k9 Tryz.prog 58 [lD 13 l a8.c,DI night] (fun x=>x= .tup [lD 1 r.1 cI,DI r.2]):=by
 refine zy [] [99,106,149,210,211,220] [] [] Tryz.func58 rfl ?_
 refine cy hm (a5K l) ?_
 rintro⟨x1,x2⟩ hm
 apply vb hm<;>intro _ hm
 cases hm
 exact j1.le (⟨_,rfl,⟨leD.nil,leD.refl _,trivial⟩⟩)
 refine cy hm (B3 night) fun x5 hm=> ?_
 apply vb hm<;>intro _ hm
 cases hm
 exact j1.le (⟨_,rfl,⟨leD.nil,leD.refl _,trivial⟩⟩)
 obtain⟨ev40,he,hk41⟩:=b8 hm
 refine D5.ofL (Q1 night x1) (fun(out16,v17)=>⟨[(0,lD 13 l a8.c),(1,DI night),(4,nS),(5,DI 0),(6,lD 1 x1 cf1),(7,DI x2),(8, .row 0 1),(18,DB (x2 !=0)),(22,DB (!x5)),(26,lD 1 x1 cf1),(27,DI (x1.length:Int)),(28,DI v17)], [(0,rE 1 out16 cI 3)],1⟩) ([],0) (i6.of 0 rfl (tA rfl) ⟨⟨rfl,rfl⟩,trivial⟩) he ?_
 rintro fu42 ⟨out16,v17⟩ b hm hi43
 apply vb hm<;>intro _ hm
 obtain⟨e45,hx46,hm⟩:=b8 hm
 refine⟨_,u4 (fun _=>rfl) hx46, ?_⟩
 obtain⟨p47,hx,hm2⟩:=b8 hm
 subst hx
 have hm:=hm2
 refine cy hm (a6q p47 night) ?_
 rintro⟨x48,x49⟩ hm
 apply vb hm<;>intro _ hm
 refine⟨([x48]:List Int).flatMap cI,([x48]:List Int).length,⟨rfl,rfl⟩, ?_⟩
 obtain⟨hg,hm⟩:=n8 hm
 refine⟨hg,_,_,O9 (c:=cI) (l:=(out16:List Int)) (r:=(([x48]:List Int):List Int)), ?_⟩
 cases hm
 exact⟨(_,((out16++([x48]:List Int)),(W (v17+1)))),i6.of 1 rfl (tA rfl) ⟨hW rfl,trivial⟩,hi43,Nat.lt_succ_self _⟩
 cases hm
 exact⟨(_,(out16,(W (v17+1)))),i6.of 1 rfl (tA rfl) ⟨hW rfl,trivial⟩,hi43,Nat.lt_succ_self _⟩
 cases hm
 cases hi43
 have hm:=hk41
 obtain⟨x53,hx52,hm⟩:=b8 hm
 refine .inr (b8d.mk ⟨_,_,_,_,_,_,rfl,a2B out16 _ hx52, ?_⟩)
 obtain⟨x54,hx55,hm⟩:=b8 hm
 refine .inl (a9O.mk ⟨_,_,_,_,_,_,_,rfl,a4u x53 _ hx55, ?_⟩)
 cases hm
 exact j1.le (leD.refl _)
def Z1 (w:i4):(Int×Int×Int×Int)→Option (Sum (Int×Int×Int×Int) (Sum (Int×Int×Int×Int) (i4×Bool))):=fun(night31,v32,v33,v34)=>
 if(decide (night31<3))=true then
  Option.bind (Y4 w.all night31) fun⟨x67,x68⟩=>
  if(x68 !=0)=true then
   some (.inr (.inr ((⟨w.all,w.calls,(v32,v33,v34)⟩:i4),false)))
  else
   if(decide ((x67.length:Int)>1))=true then
    some (.inr (.inr ((⟨w.all,w.calls,(v32,v33,v34)⟩:i4),false)))
   else
    if((x67.length:Int)==1)=true then
     gd (0≤night31∧night31<3)<|
     Option.bind (idx [v32,v33,v34] night31) fun e73=>
     if(e73 !=0)=true then
      gd (0≤night31∧night31<3)<|
      Option.bind (idx [v32,v33,v34] night31) fun e76=>
      Option.bind (idx x67 0) fun e78=>
      if(e76 !=e78)=true then
       some (.inr (.inr ((⟨w.all,w.calls,(v32,v33,v34)⟩:i4),false)))
      else
       Option.bind (idx x67 0) fun e81=>
       gd (0≤night31∧night31<3)<|
       Option.bind (idx [v32,v33,v34] night31) fun e83=>
       Option.bind (some e81) fun y85=>
       Option.bind (some (if(night31==0)=true then y85 else v32)) fun q86=>
       Option.bind (some (if(night31==1)=true then y85 else v33)) fun q87=>
       Option.bind (some (if(night31==2)=true then y85 else v34)) fun q88=>
       some (.inl ((W (night31+1)),q86,q87,q88))
     else
      Option.bind (idx x67 0) fun e89=>
      gd (0≤night31∧night31<3)<|
      Option.bind (idx [v32,v33,v34] night31) fun e91=>
      Option.bind (some e89) fun y93=>
      Option.bind (some (if(night31==0)=true then y93 else v32)) fun q94=>
      Option.bind (some (if(night31==1)=true then y93 else v33)) fun q95=>
      Option.bind (some (if(night31==2)=true then y93 else v34)) fun q96=>
      some (.inl ((W (night31+1)),q94,q95,q96))
    else
     some (.inl ((W (night31+1)),v32,v33,v34))
 else
  some (.inr (.inl (night31,v32,v33,v34)))
def N8 (w:i4) (v98:Int) (v99:Int) (v100:Int) (thing121:Int):Int→Option (Sum Int (Sum Int (i4×Bool))):=fun k149=>
 if(decide (k149<4))=true then
  Option.bind (a0J w.all thing121 (W (137*k149))) fun⟨x157,x158⟩=>
  if(x158 !=0)=true then
   some (.inr (.inr ((⟨w.all,w.calls,(v98,v99,v100)⟩:i4),false)))
  else
   if(decide ((x157.length:Int)>1))=true then
    some (.inr (.inr ((⟨w.all,w.calls,(v98,v99,v100)⟩:i4),false)))
   else
    some (.inl (W (k149+1)))
 else
  some (.inr (.inl k149))
def O1 (w:i4) (v98:Int) (v99:Int) (v100:Int):Int→Option (Sum Int (Sum Int (i4×Bool))):=fun thing121=>
 if(decide (thing121<24))=true then
  Option.bind (A5 (N8 w v98 v99 v100 thing121) 0) fun e=>
  match e with
  | .inl k162=>
   some (.inl (W (thing121+1)))
  | .inr rr163=>
   some (.inr (.inr rr163))
 else
  some (.inr (.inl thing121))
def P8 (w:i4):Option (i4×Bool):=
 Option.bind (A5 (Z1 w) (0,w.told.1,w.told.2.1,w.told.2.2)) fun e=>
 match e with
 | .inl (night97,v98,v99,v100)=>
  Option.bind (A5 (O1 w v98 v99 v100) 6) fun e=>
  match e with
  | .inl thing174=>
   some ((⟨w.all,w.calls,(v98,v99,v100)⟩:i4),true)
  | .inr rr175=>
   some rr175
 | .inr rr211=>
  some rr211
theorem a0h (w:i4) (r:(i4×Bool)) (hm:P8 w=some r):k9 Tryz.prog 60 [.agg (i4.c w)] (fun x=>x= .tup [.agg (i4.c r.1),DB r.2]):=by
 refine zy c6K [] [] [] Tryz.func60 rfl ?_
 obtain⟨ev212,he,hk213⟩:=b8 hm
 refine D5.ofL (Z1 w) (fun(night31,v32,v33,v34)=>⟨[(0, .agg (i4.c w)),(1, .own 0 0),(2, .own 1 0),(3,DB false),(4,DI night31)], [(0, .blk [lD 13 w.all a8.c,lD 11 w.calls b9.c,DI v32,DI v33,DI v34] 79),(1, .blk [nS,nS,DI 0,DI 0,DI 0] 79)],2⟩) (0,w.told.1,w.told.2.1,w.told.2.2) (i6.of 2 rfl (tA rfl) ⟨hR rfl,hR rfl,trivial⟩) he ?_
 rintro fu214 ⟨night31,v32,v33,v34⟩ b hm hi215
 apply vb hm<;>intro _ hm
 refine cy hm (a9f w.all night31) ?_
 rintro⟨x217,x218⟩ hm
 apply vb hm<;>intro _ hm
 cases hm
 cases hi215
 have hm:=hk213
 cases hm
 exact j1.le (leD.refl _)
 apply vb hm<;>intro _ hm
 cases hm
 cases hi215
 have hm:=hk213
 cases hm
 exact j1.le (leD.refl _)
 apply vb hm<;>intro _ hm
 refine⟨rfl, ?_⟩
 obtain⟨hg,hm⟩:=n8 hm
 refine⟨hg, ?_⟩
 obtain⟨e223,hx224,hm⟩:=b8 hm
 refine⟨_,ldx (r:= [DI e223]) (c:=cI) (z:=1) (pre:= [lD 13 w.all a8.c,lD 11 w.calls b9.c]) (post:= []) (b:=2) (off:=0) (fun _=>rfl) hx224 rfl rfl (by omega) rfl, ?_⟩
 apply vb hm<;>intro _ hm
 obtain⟨hg,hm⟩:=n8 hm
 refine⟨hg, ?_⟩
 obtain⟨e226,hx227,hm⟩:=b8 hm
 refine⟨_,ldx (r:= [DI e226]) (c:=cI) (z:=1) (pre:= [lD 13 w.all a8.c,lD 11 w.calls b9.c]) (post:= []) (b:=2) (off:=0) (fun _=>rfl) hx227 rfl rfl (by omega) rfl, ?_⟩
 obtain⟨e228,hx229,hm⟩:=b8 hm
 refine⟨_,u4 (fun _=>rfl) hx229, ?_⟩
 apply vb hm<;>intro _ hm
 cases hm
 cases hi215
 have hm:=hk213
 cases hm
 exact j1.le (leD.refl _)
 obtain⟨e231,hx232,hm⟩:=b8 hm
 refine⟨_,u4 (fun _=>rfl) hx232, ?_⟩
 obtain⟨hg,hm⟩:=n8 hm
 refine⟨hg, ?_⟩
 obtain⟨e233,hx234,hm⟩:=b8 hm
 obtain⟨y235,hy,hm⟩:=b8 hm
 obtain⟨q236,hq0,hm⟩:=b8 hm
 obtain⟨q237,hq1,hm⟩:=b8 hm
 obtain⟨q238,hq2,hm⟩:=b8 hm
 refine⟨[lD 13 w.all a8.c,lD 11 w.calls b9.c,DI q236,DI q237,DI q238],stx (y:=y235) (ys:= [q236,q237,q238]) (c:=cI) (z:=1) (pre:= [lD 13 w.all a8.c,lD 11 w.calls b9.c]) (post:= []) (b:=2) (off:=0) (fun _=>rfl) hx234 rfl rfl (by omega) (by cases hy;rfl) rfl (by cases hq0;cases hq1;cases hq2;exact b5Z hx234), ?_⟩
 clear hy hq0 hq1 hq2
 cases hm
 exact⟨(_,((W (night31+1)),q236,q237,q238)),i6.of 2 rfl (tA rfl) ⟨hR rfl,hR rfl,trivial⟩,hi215,Nat.lt_succ_self _⟩
 obtain⟨e239,hx240,hm⟩:=b8 hm
 refine⟨_,u4 (fun _=>rfl) hx240, ?_⟩
 obtain⟨hg,hm⟩:=n8 hm
 refine⟨hg, ?_⟩
 obtain⟨e241,hx242,hm⟩:=b8 hm
 obtain⟨y243,hy,hm⟩:=b8 hm
 obtain⟨q244,hq0,hm⟩:=b8 hm
 obtain⟨q245,hq1,hm⟩:=b8 hm
 obtain⟨q246,hq2,hm⟩:=b8 hm
 refine⟨[lD 13 w.all a8.c,lD 11 w.calls b9.c,DI q244,DI q245,DI q246],stx (y:=y243) (ys:= [q244,q245,q246]) (c:=cI) (z:=1) (pre:= [lD 13 w.all a8.c,lD 11 w.calls b9.c]) (post:= []) (b:=2) (off:=0) (fun _=>rfl) hx242 rfl rfl (by omega) (by cases hy;rfl) rfl (by cases hq0;cases hq1;cases hq2;exact b5Z hx242), ?_⟩
 clear hy hq0 hq1 hq2
 cases hm
 exact⟨(_,((W (night31+1)),q244,q245,q246)),i6.of 2 rfl (tA rfl) ⟨hR rfl,hR rfl,trivial⟩,hi215,Nat.lt_succ_self _⟩
 cases hm
 exact⟨(_,((W (night31+1)),v32,v33,v34)),i6.of 2 rfl (tA rfl) ⟨hR rfl,hR rfl,trivial⟩,hi215,Nat.lt_succ_self _⟩
 cases hm
 cases hi215
 have hm:=hk213
 obtain⟨ev322,he,hk323⟩:=b8 hm
 refine D5.ofL (O1 w v32 v33 v34) (fun thing267=>⟨[(0, .agg (i4.c w)),(1, .own 0 0),(2, .own 1 0),(3,DB false),(4,DI night31),(7,DI thing267),(13,DB (decide (night31<3)))], [(0, .blk [lD 13 w.all a8.c,lD 11 w.calls b9.c,DI v32,DI v33,DI v34] 79),(1, .blk [nS,nS,DI 0,DI 0,DI 0] 79)],2⟩) 6 (i6.of 2 rfl (tA rfl) ⟨hR rfl,hR rfl,trivial⟩) he ?_
 rintro fu324 thing267 b hm hi325
 apply vb hm<;>intro _ hm
 obtain⟨ev347,he,hk348⟩:=b8 hm
 refine D5.ofL (N8 w v32 v33 v34 thing267) (fun k332=>⟨[(0, .agg (i4.c w)),(1, .own 0 0),(2, .own 1 0),(3,DB false),(4,DI night31),(7,DI thing267),(8,DI k332),(13,DB (decide (night31<3))),(57,DB (decide (thing267<24)))], [(0, .blk [lD 13 w.all a8.c,lD 11 w.calls b9.c,DI v32,DI v33,DI v34] 79),(1, .blk [nS,nS,DI 0,DI 0,DI 0] 79)],2⟩) 0 (i6.of 2 rfl (tA rfl) ⟨hR rfl,hR rfl,trivial⟩) he ?_
 rintro fu349 k332 b hm hi350
 apply vb hm<;>intro _ hm
 refine cy hm (b2h w.all thing267 (W (137*k332))) ?_
 rintro⟨x352,x353⟩ hm
 apply vb hm<;>intro _ hm
 cases hm
 cases hi350
 have hm:=hk348
 cases hm
 cases hi325
 have hm:=hk323
 cases hm
 exact j1.le (leD.refl _)
 apply vb hm<;>intro _ hm
 cases hm
 cases hi350
 have hm:=hk348
 cases hm
 cases hi325
 have hm:=hk323
 cases hm
 exact j1.le (leD.refl _)
 cases hm
 exact⟨(_,(W (k332+1))),i6.of 2 rfl (tA rfl) ⟨hR rfl,hR rfl,trivial⟩,hi350,Nat.lt_succ_self _⟩
 cases hm
 cases hi350
 have hm:=hk348
 cases hm
 exact⟨(_,(W (thing267+1))),i6.of 2 rfl (tA rfl) ⟨hR rfl,hR rfl,trivial⟩,hi325,Nat.lt_succ_self _⟩
 cases hm
 cases hi325
 have hm:=hk323
 cases hm
 exact j1.le (leD.refl _)
def W9 (l:(List a1A)):(Bool×Int×(List a8)×(List b9)×Int×Int×Int)→Option (Sum (Bool×Int×(List a8)×(List b9)×Int×Int×Int) (Bool×Int×(List a8)×(List b9)×Int×Int×Int)):=fun(is20,i21,v22,v23,v24,v25,v26)=>
 if(decide (i21<(l.length:Int)))=true then
  if(decide (i21<50))=true then
   if is20=true then
    Option.bind (idx l i21) fun e47=>
    Option.bind (a0o (⟨v22,v23,(v24,v25,v26)⟩:i4) e47) fun⟨x49,x50⟩=>
    if x50=true then
     if((i21.tmod 5)==4)=true then
      Option.bind (P8 x49) fun⟨x54,x55⟩=>
      some (.inl (x55,(W (i21+1)),x54.all,x54.calls,x54.told.1,x54.told.2.1,x54.told.2.2))
     else
      if(i21==(W ((l.length:Int)-1)))=true then
       Option.bind (P8 x49) fun⟨x58,x59⟩=>
       some (.inl (x59,(W (i21+1)),x58.all,x58.calls,x58.told.1,x58.told.2.1,x58.told.2.2))
      else
       some (.inl (x50,(W (i21+1)),x49.all,x49.calls,x49.told.1,x49.told.2.1,x49.told.2.2))
    else
     some (.inl (x50,(W (i21+1)),x49.all,x49.calls,x49.told.1,x49.told.2.1,x49.told.2.2))
   else
    some (.inr (is20,i21,v22,v23,v24,v25,v26))
  else
   some (.inr (is20,i21,v22,v23,v24,v25,v26))
 else
  some (.inr (is20,i21,v22,v23,v24,v25,v26))
def a2N (l:(List a1A)):Option Bool:=
 Option.bind (a6w) fun⟨x1,x2⟩=>
 Option.bind (A5 (W9 l) (x2,0,x1.all,x1.calls,x1.told.1,x1.told.2.1,x1.told.2.2)) fun(is61,i62,v63,v64,v65,v66,v67)=>
 if is61=true then
  Option.bind (P8 (⟨v63,v64,(v65,v66,v67)⟩:i4)) fun⟨x69,x70⟩=>
  if x70=true then
   Option.bind (a5u) fun x73=>
   some x73
  else
   some false
 else
  some false
theorem a9v (l:(List a1A)) (r:Bool) (hm:a2N l=some r):k9 Tryz.prog 11 [lD 9 l a1A.c] (fun x=>x=DB r):=by
 refine zy c6R [] [] [] Tryz.func11 rfl ?_
 refine cy hm (b5S) ?_
 rintro⟨x1,x2⟩ hm
 obtain⟨ev75,he,hk76⟩:=b8 hm
 refine D5.ofL (W9 l) (fun(is20,i21,v22,v23,v24,v25,v26)=>⟨[(0,lD 9 l a1A.c),(2,DB false),(3, .own 0 0),(4,DB is20),(5,DI i21)], [(0, .blk [lD 13 v22 a8.c,lD 11 v23 b9.c,DI v24,DI v25,DI v26] 79)],1⟩) (x2,0,x1.all,x1.calls,x1.told.1,x1.told.2.1,x1.told.2.2) (i6.of 1 rfl (tA rfl) ⟨hR rfl,trivial⟩) he ?_
 rintro fu77 ⟨is20,i21,v22,v23,v24,v25,v26⟩ b hm hi78
 apply vb hm<;>intro _ hm
 apply vb hm<;>intro _ hm
 apply vb hm<;>intro _ hm
 refine⟨rfl, ?_⟩
 obtain⟨e82,hx83,hm⟩:=b8 hm
 refine⟨_,u4 (fun _=>rfl) hx83, ?_⟩
 refine cy hm (b0r ((⟨v22,v23,(v24,v25,v26)⟩:i4)) e82) ?_
 rintro⟨x84,x85⟩ hm
 apply vb hm<;>intro _ hm
 refine⟨by decide, ?_⟩
 apply vb hm<;>intro _ hm
 refine cy hm (a0h x84) ?_
 rintro⟨x89,x90⟩ hm
 cases hm
 exact⟨(_,(x90,(W (i21+1)),x89.all,x89.calls,x89.told.1,x89.told.2.1,x89.told.2.2)),i6.of 1 rfl (tA rfl) ⟨hR rfl,trivial⟩,hi78,Nat.lt_succ_self _⟩
 apply vb hm<;>intro _ hm
 refine cy hm (a0h x84) ?_
 rintro⟨x93,x94⟩ hm
 cases hm
 exact⟨(_,(x94,(W (i21+1)),x93.all,x93.calls,x93.told.1,x93.told.2.1,x93.told.2.2)),i6.of 1 rfl (tA rfl) ⟨hR rfl,trivial⟩,hi78,Nat.lt_succ_self _⟩
 cases hm
 exact⟨(_,(x85,(W (i21+1)),x84.all,x84.calls,x84.told.1,x84.told.2.1,x84.told.2.2)),i6.of 1 rfl (tA rfl) ⟨hR rfl,trivial⟩,hi78,Nat.lt_succ_self _⟩
 cases hm
 exact⟨(_,(x85,(W (i21+1)),x84.all,x84.calls,x84.told.1,x84.told.2.1,x84.told.2.2)),i6.of 1 rfl (tA rfl) ⟨hR rfl,trivial⟩,hi78,Nat.lt_succ_self _⟩
 cases hm
 cases hi78
 have hm:=hk76
 apply vb hm<;>intro h96 hm
 refine cy hm (a0h ((⟨v22,v23,(v24,v25,v26)⟩:i4))) ?_
 rintro⟨x97,x98⟩ hm
 apply vb hm<;>intro _ hm
 refine cy hm (a7X) fun x101 hm=> ?_
 exact hm.rr
 exact hm.rr
 refine VIf.f h96 ?_
 exact hm.rr
 cases hm
 cases hi78
 have hm:=hk76
 apply vb hm<;>intro h103 hm
 refine cy hm (a0h ((⟨v22,v23,(v24,v25,v26)⟩:i4))) ?_
 rintro⟨x104,x105⟩ hm
 apply vb hm<;>intro _ hm
 refine cy hm (a7X) fun x108 hm=> ?_
 exact hm.rr
 exact hm.rr
 refine VIf.f h103 ?_
 exact hm.rr
 cases hm
 cases hi78
 have hm:=hk76
 apply vb hm<;>intro h110 hm
 refine cy hm (a0h ((⟨v22,v23,(v24,v25,v26)⟩:i4))) ?_
 rintro⟨x111,x112⟩ hm
 apply vb hm<;>intro _ hm
 refine cy hm (a7X) fun x115 hm=> ?_
 exact hm.rr
 exact hm.rr
 refine VIf.f h110 ?_
 exact hm.rr
end Go.Proofs.YtcedmbakcchkiaaGreatDoor
