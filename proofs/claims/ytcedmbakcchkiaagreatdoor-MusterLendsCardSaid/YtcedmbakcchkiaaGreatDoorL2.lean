/- Functions of the program as pure Lean functions, and that calls do what these say. Printed by a program out of the given form. -/
import Derived.Test.YtcedmbakcchkiaaGreatDoorL1
set_option linter.unusedVariables false
set_option linter.unusedSimpArgs false
namespace Go.Proofs.YtcedmbakcchkiaaGreatDoor
open Go Go.RowKit Go.Sx
set_option maxRecDepth 100000
set_option maxHeartbeats 20000000
def a3t (x:a6) (night:Int) (value:Int):Option (a6×Int):=
 Option.bind (M7 x) fun e=>
 match e with
 | .inl x8=>
  if(x8 !=0)=true then
   some ((⟨0,(⟨0, [], [], [], [], []⟩:b6),(⟨0, [], [], [], [], []⟩:b6)⟩:a6),x8)
  else
   Option.bind (s8 night) fun x32=>
   if(!x32)=true then
    some ((⟨0,(⟨0, [], [], [], [], []⟩:b6),(⟨0, [], [], [], [], []⟩:b6)⟩:a6),6)
   else
    Option.bind (d8 value) fun x35=>
    if(!x35)=true then
     some ((⟨0,(⟨0, [], [], [], [], []⟩:b6),(⟨0, [], [], [], [], []⟩:b6)⟩:a6),1)
    else
     none
 | .inr (v9,v10,v11,v12,v13,v14,v15,v16,v17,v18,x19,x20,x21)=>
  Option.bind (s8 night) fun x38=>
  if(!x38)=true then
   some ((⟨0,(⟨0, [], [], [], [], []⟩:b6),(⟨0, [], [], [], [], []⟩:b6)⟩:a6),6)
  else
   Option.bind (d8 value) fun x41=>
   if(!x41)=true then
    some ((⟨0,(⟨0, [], [], [], [], []⟩:b6),(⟨0, [], [], [], [], []⟩:b6)⟩:a6),1)
   else
    if(x20==9999)=true then
     some ((⟨0,(⟨0, [], [], [], [], []⟩:b6),(⟨0, [], [], [], [], []⟩:b6)⟩:a6),2)
    else
     Option.bind (a3z night value v10 x19 x20) fun e=>
     match e with
     | .inl (v52,x53)=>
      Option.bind (idx v52 x53) fun e63=>
      Option.bind (idx v52 x53) fun e65=>
      some ((⟨x19,(⟨(W (x20+1)),v9,(v52.set x53.toNat (⟨night,(W ((W (6*(W (x20+1))))+x19)),value,0,0,false⟩:c3)),v11,v12,v13⟩:b6),(⟨x21,v14,v15,v16,v17,v18⟩:b6)⟩:a6),0)
     | .inr _=>
      some ((⟨0,(⟨0, [], [], [], [], []⟩:b6),(⟨0, [], [], [], [], []⟩:b6)⟩:a6),2)
theorem a7k (x:a6) (night:Int) (value:Int) (r:(a6×Int)) (hm:a3t x night value=some r):i4 Tryz.prog 31 [.agg (a6.c x),DI night,DI value] (fun x=>x= .tup [.agg (a6.c r.1),DI r.2]):=by
 refine zy c3p [99,106,149,210,211,220] [62] [61,88] Tryz.func31 rfl ?_
 obtain⟨ev29,he30,hm⟩:=b4 hm
 refine L2.ofZ pok ⟨[(0, .agg (a6.c x)),(1000000, .agg (a6.c x)),(1000001,DI night),(1000002,DI value),(1000003, .own 0 0),(1000006, .own 1 0),(1000007,DI 0)], [(0, .blk (a6.c x) 30),(1, .blk [DI 0,DI 0,nS,nS,nS,nS,nS,DI 0,nS,nS,nS,nS,nS] 30)],2⟩ (match ev29 with| .inl x8=>(⟨[(0, .agg (a6.c x)),(1,DI night),(2,DI value),(3, .own 0 0),(6, .own 1 0),(7,DI 0),(16, .tup [.v (.pointer none),DI x8])], [(0, .blk (a6.c x) 30),(1, .blk [DI 0,DI 0,nS,nS,nS,nS,nS,DI 0,nS,nS,nS,nS,nS] 30)],2⟩:Sy)| .inr (v9,v10,v11,v12,v13,v14,v15,v16,v17,v18,x19,x20,x21)=>(⟨[(0, .agg (a6.c x)),(1,DI night),(2,DI value),(3, .own 0 0),(6, .own 1 0),(7,DI 0),(16, .tup [.own 13 0,DI 0])], [(0, .blk (a6.c x) 30),(1, .blk [DI 0,DI 0,nS,nS,nS,nS,nS,DI 0,nS,nS,nS,nS,nS] 30),(3,rE 4 v9 b7.c 110),(4,rE 6 v10 c3.c 108),(5,rE 4 v11 a8.c 149),(6,rE 5 v12 a7.c 112),(7,rE 6 v13 b8.c 114),(8,rE 4 v14 b7.c 110),(9,rE 6 v15 c3.c 108),(10,rE 4 v16 a8.c 149),(11,rE 5 v17 a7.c 112),(12,rE 6 v18 b8.c 114),(13, .blk [DI x19,DI x20, .row 3 4, .row 4 6, .row 5 4, .row 6 5, .row 7 6,DI x21, .row 8 4, .row 9 6, .row 10 4, .row 11 5, .row 12 6] 102)],14⟩:Sy):Sy) b6n [99,106,149,210,211,220] [62] [61,88] Tryz.func61 rfl rfl rfl (c6.of 2 rfl (tA rfl) ⟨hR rfl,hR rfl,trivial⟩) (fun sv=> ?_) ?_
 have hm:=he30
 refine cy hm (R4 x) fun x74 hm=> ?_
 apply vb hm<;>intro _ hm
 cases hm
 exact c6.of 2 rfl (tA rfl) ⟨hR rfl,hR rfl,trivial⟩
 refine⟨rfl, ?_⟩
 obtain⟨x77,hx78,hm⟩:=b4 hm
 refine .inr (a5s.mk ⟨_,_,H9 x.Now _ hx78, ?_⟩)
 obtain⟨x79,hx80,hm⟩:=b4 hm
 refine .inr (a5s.mk ⟨_,_,H9 x.Safe _ hx80, ?_⟩)
 cases hm
 exact c6.of 14 rfl (tA rfl) ⟨hR rfl,hR rfl,hW rfl,hW rfl,hW rfl,hW rfl,hW rfl,hW rfl,hW rfl,hW rfl,hW rfl,hW rfl,hR rfl,trivial⟩
 rcases ev29 with x8|⟨v9,v10,v11,v12,v13,v14,v15,v16,v17,v18,x19,x20,x21⟩
 apply vb hm<;>intro _ hm
 cases hm
 exact i5.le (⟨_,rfl,⟨⟨_,rfl,⟨leD.refl _,leD.refl _,leD.nil,leD.nil,leD.nil,leD.nil,leD.nil,leD.refl _,leD.nil,leD.nil,leD.nil,leD.nil,leD.nil,trivial⟩⟩,leD.refl _,trivial⟩⟩)
 refine cy hm (u5 night) fun x32 hm=> ?_
 apply vb hm<;>intro _ hm
 cases hm
 exact i5.le (⟨_,rfl,⟨⟨_,rfl,⟨leD.refl _,leD.refl _,leD.nil,leD.nil,leD.nil,leD.nil,leD.nil,leD.refl _,leD.nil,leD.nil,leD.nil,leD.nil,leD.nil,trivial⟩⟩,leD.refl _,trivial⟩⟩)
 refine cy hm (j5 value) fun x35 hm=> ?_
 apply vb hm<;>intro _ hm
 cases hm
 exact i5.le (⟨_,rfl,⟨⟨_,rfl,⟨leD.refl _,leD.refl _,leD.nil,leD.nil,leD.nil,leD.nil,leD.nil,leD.refl _,leD.nil,leD.nil,leD.nil,leD.nil,leD.nil,trivial⟩⟩,leD.refl _,trivial⟩⟩)
 cases hm
 refine cy hm (u5 night) fun x38 hm=> ?_
 apply vb hm<;>intro _ hm
 cases hm
 exact i5.le (⟨_,rfl,⟨⟨_,rfl,⟨leD.refl _,leD.refl _,leD.nil,leD.nil,leD.nil,leD.nil,leD.nil,leD.refl _,leD.nil,leD.nil,leD.nil,leD.nil,leD.nil,trivial⟩⟩,leD.refl _,trivial⟩⟩)
 refine cy hm (j5 value) fun x41 hm=> ?_
 apply vb hm<;>intro _ hm
 cases hm
 exact i5.le (⟨_,rfl,⟨⟨_,rfl,⟨leD.refl _,leD.refl _,leD.nil,leD.nil,leD.nil,leD.nil,leD.nil,leD.refl _,leD.nil,leD.nil,leD.nil,leD.nil,leD.nil,trivial⟩⟩,leD.refl _,trivial⟩⟩)
 apply vb hm<;>intro _ hm
 cases hm
 exact i5.le (⟨_,rfl,⟨⟨_,rfl,⟨leD.refl _,leD.refl _,leD.nil,leD.nil,leD.nil,leD.nil,leD.nil,leD.refl _,leD.nil,leD.nil,leD.nil,leD.nil,leD.nil,trivial⟩⟩,leD.refl _,trivial⟩⟩)
 refine⟨rfl, ?_⟩
 refine⟨rfl, ?_⟩
 obtain⟨ev61,he62,hm⟩:=b4 hm
 refine L2.ofZ pok ⟨[(0, .row 4 6),(1, .agg [DI night,DI (W ((W (6*(W (x20+1))))+x19)),DI value,DI 0,DI 0,DB false]),(2,DI 12),(3, .fn 89 [] []),(1000000, .agg (a6.c x)),(1000001,DI night),(1000002,DI value),(1000003, .own 0 0),(1000006, .own 1 0),(1000007,DI 0),(1000008, .own 13 0),(1000009,DI 0),(1000010, .own 14 0),(1000019,DB false),(1000024,DB (!x38)),(1000029,DB (!x41)),(1000034,DB (x20==9999))], [(0, .blk (a6.c x) 30),(1, .blk [DI 0,DI 0,nS,nS,nS,nS,nS,DI 0,nS,nS,nS,nS,nS] 30),(3,rE 4 v9 b7.c 110),(4,rE 6 v10 c3.c 108),(5,rE 4 v11 a8.c 149),(6,rE 5 v12 a7.c 112),(7,rE 6 v13 b8.c 114),(8,rE 4 v14 b7.c 110),(9,rE 6 v15 c3.c 108),(10,rE 4 v16 a8.c 149),(11,rE 5 v17 a7.c 112),(12,rE 6 v18 b8.c 114),(13, .blk [DI x19,DI (W (x20+1)), .row 3 4, .row 4 6, .row 5 4, .row 6 5, .row 7 6,DI x21, .row 8 4, .row 9 6, .row 10 4, .row 11 5, .row 12 6] 102),(14, .blk [DI night,DI (W ((W (6*(W (x20+1))))+x19)),DI value,DI 0,DI 0,DB false] 108)],15⟩ (match ev61 with| .inl (v52,x53)=>(⟨[(0, .agg (a6.c x)),(1,DI night),(2,DI value),(3, .own 0 0),(6, .own 1 0),(7,DI 0),(8, .own 13 0),(9,DI 0),(10, .own 14 0),(19,DB false),(24,DB (!x38)),(29,DB (!x41)),(34,DB (x20==9999)),(78, .tup [.row 4 6,DI x53,DB true])], [(0, .blk (a6.c x) 30),(1, .blk [DI 0,DI 0,nS,nS,nS,nS,nS,DI 0,nS,nS,nS,nS,nS] 30),(3,rE 4 v9 b7.c 110),(4,rE 6 v52 c3.c 108),(5,rE 4 v11 a8.c 149),(6,rE 5 v12 a7.c 112),(7,rE 6 v13 b8.c 114),(8,rE 4 v14 b7.c 110),(9,rE 6 v15 c3.c 108),(10,rE 4 v16 a8.c 149),(11,rE 5 v17 a7.c 112),(12,rE 6 v18 b8.c 114),(13, .blk [DI x19,DI (W (x20+1)), .row 3 4, .bad, .row 5 4, .row 6 5, .row 7 6,DI x21, .row 8 4, .row 9 6, .row 10 4, .row 11 5, .row 12 6] 102),(14, .blk [DI night,DI (W ((W (6*(W (x20+1))))+x19)),DI value,DI 0,DI 0,DB false] 108)],15⟩:Sy)| .inr _=>(⟨[(0, .agg (a6.c x)),(1,DI night),(2,DI value),(3, .own 0 0),(6, .own 1 0),(7,DI 0),(8, .own 13 0),(9,DI 0),(10, .own 14 0),(19,DB false),(24,DB (!x38)),(29,DB (!x41)),(34,DB (x20==9999)),(78, .tup [nS,DI 0,DB false])], [(0, .blk (a6.c x) 30),(1, .blk [DI 0,DI 0,nS,nS,nS,nS,nS,DI 0,nS,nS,nS,nS,nS] 30),(3,rE 4 v9 b7.c 110),(4,rE 6 v10 c3.c 108),(5,rE 4 v11 a8.c 149),(6,rE 5 v12 a7.c 112),(7,rE 6 v13 b8.c 114),(8,rE 4 v14 b7.c 110),(9,rE 6 v15 c3.c 108),(10,rE 4 v16 a8.c 149),(11,rE 5 v17 a7.c 112),(12,rE 6 v18 b8.c 114),(13, .blk [DI x19,DI (W (x20+1)), .row 3 4, .row 4 6, .row 5 4, .row 6 5, .row 7 6,DI x21, .row 8 4, .row 9 6, .row 10 4, .row 11 5, .row 12 6] 102),(14, .blk [DI night,DI (W ((W (6*(W (x20+1))))+x19)),DI value,DI 0,DI 0,DB false] 108)],15⟩:Sy):Sy) [] [99,106,149,210,211,220] [62] [61,88] Tryz.func88 rfl rfl rfl (c6.of 15 rfl (tA rfl) ⟨hR rfl,hR rfl,hW rfl,hW rfl,hW rfl,hW rfl,hW rfl,hW rfl,hW rfl,hW rfl,hW rfl,hW rfl,hR rfl,hR rfl,trivial⟩) (fun sv=> ?_) ?_
 have hm:=he62
 refine co hm (S9 v10 ((⟨night,(W ((W (6*(W (x20+1))))+x19)),value,0,0,false⟩:c3))) ?_
 rintro⟨x67,x68⟩ hm
 apply vb hm<;>intro _ hm
 cases hm
 exact c6.of 15 rfl (tA rfl) ⟨hR rfl,hR rfl,hW rfl,hW rfl,hW rfl,hW rfl,hW rfl,hW rfl,hW rfl,hW rfl,hW rfl,hW rfl,⟨_,rfl,⟨leD.refl _,leD.refl _,leD.refl _,leD.refl _,leD.refl _,leD.refl _,leD.refl _,leD.refl _,leD.refl _,leD.refl _,leD.refl _,leD.refl _,trivial⟩⟩,hR rfl,trivial⟩
 apply vb hm<;>intro _ hm
 cases hm
 exact c6.of 15 rfl (tA rfl) ⟨hR rfl,hR rfl,hW rfl,hW rfl,hW rfl,hW rfl,hW rfl,hW rfl,hW rfl,hW rfl,hW rfl,hW rfl,hR rfl,hR rfl,trivial⟩
 refine⟨([(⟨night,(W ((W (6*(W (x20+1))))+x19)),value,0,0,false⟩:c3)]:List c3).flatMap c3.c,([(⟨night,(W ((W (6*(W (x20+1))))+x19)),value,0,0,false⟩:c3)]:List c3).length,⟨rfl,rfl⟩, ?_⟩
 obtain⟨x72,hx73,hm⟩:=b4 hm
 refine .inl (a9o.mk ⟨_,_,_,_,_,_,_,rfl,a1e v10 x67 (([(⟨night,(W ((W (6*(W (x20+1))))+x19)),value,0,0,false⟩:c3)]:List c3)) _ hx73, ?_⟩)
 cases hm
 exact c6.of 15 rfl (tA rfl) ⟨hR rfl,hR rfl,hW rfl,hW rfl,hW rfl,hW rfl,hW rfl,hW rfl,hW rfl,hW rfl,hW rfl,hW rfl,hR rfl,hR rfl,trivial⟩
 rcases ev61 with⟨v52,x53⟩|⟨⟩
 obtain⟨e63,hx64,hm⟩:=b4 hm
 refine⟨a2h hx64, ?_⟩
 obtain⟨e65,hx66,hm⟩:=b4 hm
 refine⟨_,L8 (fun _=>rfl) hx66,_,Y1 (y:=(⟨night,(W ((W (6*(W (x20+1))))+x19)),value,0,0,false⟩:c3)) (fun _=>rfl) hx66, ?_⟩
 cases hm
 exact i5.le (by first|exact leD.refl _|(simp only [a6.c,lD,List.length_set];exact leD.refl _))
 cases hm
 exact i5.le (⟨_,rfl,⟨⟨_,rfl,⟨leD.refl _,leD.refl _,leD.nil,leD.nil,leD.nil,leD.nil,leD.nil,leD.refl _,leD.nil,leD.nil,leD.nil,leD.nil,leD.nil,trivial⟩⟩,leD.refl _,trivial⟩⟩)
def a6F:(Bool×Int×Int×Int×(List b7)×(List c3)×(List a8)×(List a7)×(List b8)×Int×(List b7)×(List c3)×(List a8)×(List a7)×(List b8))→Option (Sum (Bool×Int×Int×Int×(List b7)×(List c3)×(List a8)×(List a7)×(List b8)×Int×(List b7)×(List c3)×(List a8)×(List a7)×(List b8)) (Bool×Int×Int×Int×(List b7)×(List c3)×(List a8)×(List a7)×(List b8)×Int×(List b7)×(List c3)×(List a8)×(List a7)×(List b8))):=fun(ok12,d13,v14,v15,v16,v17,v18,v19,v20,v21,v22,v23,v24,v25,v26)=>
 if(decide (d13≤3))=true then
  Option.bind (K1 (⟨v14,(⟨v15,v16,v17,v18,v19,v20⟩:b6),(⟨v21,v22,v23,v24,v25,v26⟩:b6)⟩:a6) (⟨2,d13,1,4,7,0,0,0,0,0,0⟩:b5)) fun⟨x33,x34⟩=>
  if ok12=true then
   some (.inl ((x34==0),(W (d13+1)),x33.Me,x33.Now.Round,x33.Now.Slots,x33.Now.Bids,x33.Now.Heard,x33.Now.Leases,x33.Now.Loans,x33.Safe.Round,x33.Safe.Slots,x33.Safe.Bids,x33.Safe.Heard,x33.Safe.Leases,x33.Safe.Loans))
  else
   some (.inl (false,(W (d13+1)),x33.Me,x33.Now.Round,x33.Now.Slots,x33.Now.Bids,x33.Now.Heard,x33.Now.Leases,x33.Now.Loans,x33.Safe.Round,x33.Safe.Slots,x33.Safe.Bids,x33.Safe.Heard,x33.Safe.Leases,x33.Safe.Loans))
 else
  some (.inr (ok12,d13,v14,v15,v16,v17,v18,v19,v20,v21,v22,v23,v24,v25,v26))
def a6L:(Int×Int×Int×(List b7)×(List c3)×(List a8)×(List a7)×(List b8)×Int×(List b7)×(List c3)×(List a8)×(List a7)×(List b8))→Option (Sum (Int×Int×Int×(List b7)×(List c3)×(List a8)×(List a7)×(List b8)×Int×(List b7)×(List c3)×(List a8)×(List a7)×(List b8)) (Int×Int×Int×(List b7)×(List c3)×(List a8)×(List a7)×(List b8)×Int×(List b7)×(List c3)×(List a8)×(List a7)×(List b8))):=fun(d64,v65,v66,v67,v68,v69,v70,v71,v72,v73,v74,v75,v76,v77)=>
 if(decide (d64≤3))=true then
  Option.bind (K1 (⟨v65,(⟨v66,v67,v68,v69,v70,v71⟩:b6),(⟨v72,v73,v74,v75,v76,v77⟩:b6)⟩:a6) (⟨2,d64,1,4,7,0,0,0,0,0,0⟩:b5)) fun⟨x83,x84⟩=>
  some (.inl ((W (d64+1)),x83.Me,x83.Now.Round,x83.Now.Slots,x83.Now.Bids,x83.Now.Heard,x83.Now.Leases,x83.Now.Loans,x83.Safe.Round,x83.Safe.Slots,x83.Safe.Bids,x83.Safe.Heard,x83.Safe.Leases,x83.Safe.Loans))
 else
  some (.inr (d64,v65,v66,v67,v68,v69,v70,v71,v72,v73,v74,v75,v76,v77))
def a7B:Option (a6×Bool):=
 Option.bind (L7 1) fun⟨x1,x2⟩=>
 Option.bind (a3t x1 4 77) fun⟨x4,x5⟩=>
 if(x2==0)=true then
  Option.bind (u3 a6F ((x5==0),1,x4.Me,x4.Now.Round,x4.Now.Slots,x4.Now.Bids,x4.Now.Heard,x4.Now.Leases,x4.Now.Loans,x4.Safe.Round,x4.Safe.Slots,x4.Safe.Bids,x4.Safe.Heard,x4.Safe.Leases,x4.Safe.Loans)) fun(ok37,d38,v39,v40,v41,v42,v43,v44,v45,v46,v47,v48,v49,v50,v51)=>
  some ((⟨v39,(⟨v40,v41,v42,v43,v44,v45⟩:b6),(⟨v46,v47,v48,v49,v50,v51⟩:b6)⟩:a6),ok37)
 else
  Option.bind (u3 a6L (1,x4.Me,x4.Now.Round,x4.Now.Slots,x4.Now.Bids,x4.Now.Heard,x4.Now.Leases,x4.Now.Loans,x4.Safe.Round,x4.Safe.Slots,x4.Safe.Bids,x4.Safe.Heard,x4.Safe.Leases,x4.Safe.Loans)) fun(d86,v87,v88,v89,v90,v91,v92,v93,v94,v95,v96,v97,v98,v99)=>
  some ((⟨v87,(⟨v88,v89,v90,v91,v92,v93⟩:b6),(⟨v94,v95,v96,v97,v98,v99⟩:b6)⟩:a6),false)
theorem b6y (r:(a6×Bool)) (hm:a7B=some r):i4 Tryz.prog 68 [] (fun x=>x= .tup [.agg (a6.c r.1),DB r.2]):=by
 refine zn Tryz.func68 rfl ?_
 refine cy hm (a0M 1) ?_
 rintro⟨x1,x2⟩ hm
 refine cy hm (a7k x1 4 77) ?_
 rintro⟨x4,x5⟩ hm
 apply vb hm<;>intro _ hm
 obtain⟨ev52,he,hk53⟩:=b4 hm
 refine E8.ofL a6F (fun(ok12,d13,v14,v15,v16,v17,v18,v19,v20,v21,v22,v23,v24,v25,v26)=>⟨[(0, .own 0 0),(1,DB false),(2, .own 1 0),(3,DI x2),(4, .own 2 0),(5,DI x5),(6,DB ok12),(7,DI d13)], [(0, .blk [DI 0,DI 0,nS,nS,nS,nS,nS,DI 0,nS,nS,nS,nS,nS] 30),(1, .blk (a6.c x1) 30),(2, .blk [DI v14,DI v15,lD 4 v16 b7.c,lD 6 v17 c3.c,lD 4 v18 a8.c,lD 5 v19 a7.c,lD 6 v20 b8.c,DI v21,lD 4 v22 b7.c,lD 6 v23 c3.c,lD 4 v24 a8.c,lD 5 v25 a7.c,lD 6 v26 b8.c] 30)],3⟩) ((x5==0),1,x4.Me,x4.Now.Round,x4.Now.Slots,x4.Now.Bids,x4.Now.Heard,x4.Now.Leases,x4.Now.Loans,x4.Safe.Round,x4.Safe.Slots,x4.Safe.Bids,x4.Safe.Heard,x4.Safe.Leases,x4.Safe.Loans) (c6.of 3 rfl (tA rfl) ⟨hR rfl,hR rfl,hR rfl,trivial⟩) he ?_
 rintro fu54 ⟨ok12,d13,v14,v15,v16,v17,v18,v19,v20,v21,v22,v23,v24,v25,v26⟩ b hm hi55
 apply vb hm<;>intro _ hm
 refine cy hm (a0c ((⟨v14,(⟨v15,v16,v17,v18,v19,v20⟩:b6),(⟨v21,v22,v23,v24,v25,v26⟩:b6)⟩:a6)) ((⟨2,d13,1,4,7,0,0,0,0,0,0⟩:b5))) ?_
 rintro⟨x57,x58⟩ hm
 apply vb hm<;>intro _ hm
 cases hm
 exact⟨(_,((x58==0),(W (d13+1)),x57.Me,x57.Now.Round,x57.Now.Slots,x57.Now.Bids,x57.Now.Heard,x57.Now.Leases,x57.Now.Loans,x57.Safe.Round,x57.Safe.Slots,x57.Safe.Bids,x57.Safe.Heard,x57.Safe.Leases,x57.Safe.Loans)),c6.of 3 rfl (tA rfl) ⟨hR rfl,hR rfl,hR rfl,trivial⟩,hi55,Nat.lt_succ_self _⟩
 cases hm
 exact⟨(_,(false,(W (d13+1)),x57.Me,x57.Now.Round,x57.Now.Slots,x57.Now.Bids,x57.Now.Heard,x57.Now.Leases,x57.Now.Loans,x57.Safe.Round,x57.Safe.Slots,x57.Safe.Bids,x57.Safe.Heard,x57.Safe.Leases,x57.Safe.Loans)),c6.of 3 rfl (tA rfl) ⟨hR rfl,hR rfl,hR rfl,trivial⟩,hi55,Nat.lt_succ_self _⟩
 cases hm
 cases hi55
 have hm:=hk53
 cases hm
 exact i5.le (leD.refl _)
 obtain⟨ev100,he,hk101⟩:=b4 hm
 refine E8.ofL a6L (fun(d64,v65,v66,v67,v68,v69,v70,v71,v72,v73,v74,v75,v76,v77)=>⟨[(0, .own 0 0),(1,DB false),(2, .own 1 0),(3,DI x2),(4, .own 2 0),(5,DI x5),(6,DB false),(7,DI d64)], [(0, .blk [DI 0,DI 0,nS,nS,nS,nS,nS,DI 0,nS,nS,nS,nS,nS] 30),(1, .blk (a6.c x1) 30),(2, .blk [DI v65,DI v66,lD 4 v67 b7.c,lD 6 v68 c3.c,lD 4 v69 a8.c,lD 5 v70 a7.c,lD 6 v71 b8.c,DI v72,lD 4 v73 b7.c,lD 6 v74 c3.c,lD 4 v75 a8.c,lD 5 v76 a7.c,lD 6 v77 b8.c] 30)],3⟩) (1,x4.Me,x4.Now.Round,x4.Now.Slots,x4.Now.Bids,x4.Now.Heard,x4.Now.Leases,x4.Now.Loans,x4.Safe.Round,x4.Safe.Slots,x4.Safe.Bids,x4.Safe.Heard,x4.Safe.Leases,x4.Safe.Loans) (c6.of 3 rfl (tA rfl) ⟨hR rfl,hR rfl,hR rfl,trivial⟩) he ?_
 rintro fu102 ⟨d64,v65,v66,v67,v68,v69,v70,v71,v72,v73,v74,v75,v76,v77⟩ b hm hi103
 apply vb hm<;>intro _ hm
 refine cy hm (a0c ((⟨v65,(⟨v66,v67,v68,v69,v70,v71⟩:b6),(⟨v72,v73,v74,v75,v76,v77⟩:b6)⟩:a6)) ((⟨2,d64,1,4,7,0,0,0,0,0,0⟩:b5))) ?_
 rintro⟨x105,x106⟩ hm
 cases hm
 exact⟨(_,((W (d64+1)),x105.Me,x105.Now.Round,x105.Now.Slots,x105.Now.Bids,x105.Now.Heard,x105.Now.Leases,x105.Now.Loans,x105.Safe.Round,x105.Safe.Slots,x105.Safe.Bids,x105.Safe.Heard,x105.Safe.Leases,x105.Safe.Loans)),c6.of 3 rfl (tA rfl) ⟨hR rfl,hR rfl,hR rfl,trivial⟩,hi103,Nat.lt_succ_self _⟩
 cases hm
 cases hi103
 have hm:=hk101
 cases hm
 exact i5.le (leD.refl _)
def a4K (n:Int):Option ByteArray:=gd (0≤n∧n<100) (some (c0M n))
theorem b0t (n:Int) (r:ByteArray) (hm:a4K n=some r):i4 Tryz.prog 170 [DI n] (fun x=>x= .v (.string r)):=by
 obtain⟨hg,hm⟩:=r6 hm
 cases hm
 exact b6r b8l n hg
def a4a (l:(List Int)):(ByteArray×Int)→Option (Sum (ByteArray×Int) (ByteArray×Int)):=fun(word6,v7)=>
 if(decide (v7<(l.length:Int)))=true then
  Option.bind (idx l v7) fun e14=>
  Option.bind (a4K e14) fun x16=>
  gd ((((⟨#[32]⟩:ByteArray).size+x16.size:Nat):Int)≤9223372036854775807)<|
  gd (((word6.size+((⟨#[32]⟩:ByteArray)++x16).size:Nat):Int)≤9223372036854775807)<|
  some (.inl ((word6++((⟨#[32]⟩:ByteArray)++x16)),(W (v7+1))))
 else
  some (.inr (word6,v7))
def U0 (word:ByteArray) (l:(List Int)):Option ByteArray:=
 Option.bind (u3 (a4a l) (word,0)) fun(word18,v19)=>
 gd (((word18.size+(⟨#[10]⟩:ByteArray).size:Nat):Int)≤9223372036854775807)<|
 some (word18++(⟨#[10]⟩:ByteArray))
theorem X9 (word:ByteArray) (l:(List Int)) (r:ByteArray) (hm:U0 word l=some r):i4 Tryz.prog 120 [.v (.string word),lD 1 l cI] (fun x=>x= .v (.string r)):=by
 refine zn Tryz.func120 rfl ?_
 obtain⟨ev20,he,hk21⟩:=b4 hm
 refine E8.ofL (a4a l) (fun(word6,v7)=>⟨[(0, .v (.string word6)),(1,lD 1 l cI),(4, .v (.string (⟨#[]⟩:ByteArray))),(7,lD 1 l cI),(8,DI (l.length:Int)),(9,DI v7)], [],0⟩) (word,0) (c6.of 0 rfl (tA rfl) trivial) he ?_
 rintro fu22 ⟨word6,v7⟩ b hm hi23
 apply vb hm<;>intro _ hm
 obtain⟨e25,hx26,hm⟩:=b4 hm
 refine⟨_,u0 (fun _=>rfl) hx26, ?_⟩
 refine cy hm (b0t e25) fun x27 hm=> ?_
 obtain⟨hg,hm⟩:=r6 hm
 refine⟨hg, ?_⟩
 obtain⟨hg,hm⟩:=r6 hm
 refine⟨hg, ?_⟩
 cases hm
 exact⟨(_,((word6++((⟨#[32]⟩:ByteArray)++x27)),(W (v7+1)))),c6.of 0 rfl (tA rfl) trivial,hi23,Nat.lt_succ_self _⟩
 cases hm
 cases hi23
 have hm:=hk21
 obtain⟨hg,hm⟩:=r6 hm
 refine⟨hg, ?_⟩
 cases hm
 exact i5.le (leD.refl _)
def a3L (is:Bool):Option Int:=
 if is=true then
  some 1
 else
  some 0
theorem a6V (is:Bool) (r:Int) (hm:a3L is=some r):i4 Tryz.prog 121 [DB is] (fun x=>x=DI r):=by
 refine zn Tryz.func121 rfl ?_
 apply vb hm<;>intro _ hm
 exact hm.rr
 exact hm.rr
def a2L (s:b6):(Bool×Int)→Option (Sum (Bool×Int) (Bool×Int)):=fun(some_3,v4)=>
 if(decide (v4<6))=true then
  if some_3=true then
   some (.inl (true,(W (v4+1))))
  else
   Option.bind (M4 v4 s) fun x11=>
   some (.inl (x11,(W (v4+1))))
 else
  some (.inr (some_3,v4))
def a2F (s:b6):(ByteArray×Int)→Option (Sum (ByteArray×Int) (ByteArray×Int)):=fun(out23,v24)=>
 if(decide (v24<(s.Slots.length:Int)))=true then
  Option.bind (idx s.Slots v24) fun e31=>
  Option.bind (U0 (⟨#[115,108,111,116]⟩:ByteArray) ([e31.Night,e31.Promised,e31.Ballot,e31.Value]:List Int)) fun x33=>
  gd (((out23.size+x33.size:Nat):Int)≤9223372036854775807)<|
  some (.inl ((out23++x33),(W (v24+1))))
 else
  some (.inr (out23,v24))
def a2I (s:b6):(ByteArray×Int)→Option (Sum (ByteArray×Int) (ByteArray×Int)):=fun(out44,v45)=>
 if(decide (v45<(s.Bids.length:Int)))=true then
  Option.bind (idx s.Bids v45) fun e54=>
  Option.bind (a3L e54.Asked) fun x56=>
  Option.bind (U0 (⟨#[98,105,100]⟩:ByteArray) ([e54.Night,e54.Ballot,e54.Value,e54.Best,e54.Mask,x56]:List Int)) fun x58=>
  gd (((out44.size+x58.size:Nat):Int)≤9223372036854775807)<|
  some (.inl ((out44++x58),(W (v45+1))))
 else
  some (.inr (out44,v45))
def a2K (s:b6):(ByteArray×Int)→Option (Sum (ByteArray×Int) (ByteArray×Int)):=fun(out67,v68)=>
 if(decide (v68<(s.Heard.length:Int)))=true then
  Option.bind (idx s.Heard v68) fun e75=>
  Option.bind (U0 (⟨#[104,101,97,114,100]⟩:ByteArray) ([e75.Night,e75.Ballot,e75.Value,e75.Mask]:List Int)) fun x77=>
  gd (((out67.size+x77.size:Nat):Int)≤9223372036854775807)<|
  some (.inl ((out67++x77),(W (v68+1))))
 else
  some (.inr (out67,v68))
def a2P (s:b6):(ByteArray×Int)→Option (Sum (ByteArray×Int) (ByteArray×Int)):=fun(out86,v87)=>
 if(decide (v87<(s.Leases.length:Int)))=true then
  Option.bind (idx s.Leases v87) fun e94=>
  Option.bind (U0 (⟨#[108,101,97,115,101]⟩:ByteArray) ([e94.No,e94.Thing,e94.To,e94.From,e94.Until]:List Int)) fun x96=>
  gd (((out86.size+x96.size:Nat):Int)≤9223372036854775807)<|
  some (.inl ((out86++x96),(W (v87+1))))
 else
  some (.inr (out86,v87))
def a2O (s:b6):(ByteArray×Int)→Option (Sum (ByteArray×Int) (ByteArray×Int)):=fun(out107,v108)=>
 if(decide (v108<(s.Loans.length:Int)))=true then
  Option.bind (idx s.Loans v108) fun e117=>
  Option.bind (a3L e117.Back) fun x119=>
  Option.bind (U0 (⟨#[108,111,97,110]⟩:ByteArray) ([e117.Owner,e117.No,e117.Thing,e117.From,e117.Until,x119]:List Int)) fun x121=>
  gd (((out107.size+x121.size:Nat):Int)≤9223372036854775807)<|
  some (.inl ((out107++x121),(W (v108+1))))
 else
  some (.inr (out107,v108))
def a0Z (s:b6):Option (ByteArray×Int):=
 Option.bind (u3 (a2L s) (false,0)) fun(some_13,v14)=>
 if(!some_13)=true then
  some ((⟨#[]⟩:ByteArray),90)
 else
  Option.bind (U0 (⟨#[114,111,117,110,100]⟩:ByteArray) ([s.Round]:List Int)) fun x16=>
  Option.bind (u3 (a2F s) (x16,0)) fun(out35,v36)=>
  Option.bind (u3 (a2I s) (out35,0)) fun(out60,v61)=>
  Option.bind (u3 (a2K s) (out60,0)) fun(out79,v80)=>
  Option.bind (u3 (a2P s) (out79,0)) fun(out98,v99)=>
  Option.bind (u3 (a2O s) (out98,0)) fun(out123,v124)=>
  some (out123,0)
theorem a4B (s:b6) (r:(ByteArray×Int)) (hm:a0Z s=some r):i4 Tryz.prog 69 [.agg (b6.c s)] (fun x=>x= .tup [.v (.string r.1),DI r.2]):=by
 refine zy c3U [] [] [] Tryz.func69 rfl ?_
 obtain⟨ev1030,he,hk1031⟩:=b4 hm
 refine E8.ofL (a2L s) (fun(some_3,v4)=>⟨[(0, .agg (b6.c s)),(1, .own 0 0),(2, .v (.string (⟨#[]⟩:ByteArray))),(3,DI 0),(4,DB some_3),(17,DI v4)], [(0, .blk (b6.c s) 28)],1⟩) (false,0) (c6.of 1 rfl (tA rfl) ⟨hR rfl,trivial⟩) he ?_
 rintro fu1032 ⟨some_3,v4⟩ b hm hi1033
 apply vb hm<;>intro _ hm
 apply vb hm<;>intro _ hm
 cases hm
 exact⟨(_,(true,(W (v4+1)))),c6.of 1 rfl (tA rfl) ⟨hR rfl,trivial⟩,hi1033,Nat.lt_succ_self _⟩
 refine cy hm (a1j v4 s) fun x1036 hm=> ?_
 cases hm
 exact⟨(_,(x1036,(W (v4+1)))),c6.of 1 rfl (tA rfl) ⟨hR rfl,trivial⟩,hi1033,Nat.lt_succ_self _⟩
 cases hm
 cases hi1033
 have hm:=hk1031
 apply vb hm<;>intro _ hm
 cases hm
 exact i5.le (leD.refl _)
 refine⟨([s.Round]:List Int).flatMap cI,([s.Round]:List Int).length,⟨rfl,rfl⟩, ?_⟩
 refine co hm (X9 ((⟨#[114,111,117,110,100]⟩:ByteArray)) (([s.Round]:List Int))) fun x1039 hm=> ?_
 obtain⟨ev1552,he,hk1553⟩:=b4 hm
 refine E8.ofL (a2F s) (fun(out1046,v1047)=>⟨[(0, .agg (b6.c s)),(1, .own 0 0),(2, .v (.string (⟨#[]⟩:ByteArray))),(3,DI 0),(4,DB some_3),(6, .v (.string out1046)),(17,DI v4),(18,DB (decide (v4<6))),(28,DB (!some_3)),(34,lD 4 s.Slots b7.c),(35,DI (s.Slots.length:Int)),(36,DI v1047)], [(0, .blk (b6.c s) 28),(1,rE 1 ([s.Round]:List Int) cI 3)],2⟩) (x1039,0) (c6.of 2 rfl (tA rfl) ⟨hR rfl,hW rfl,trivial⟩) he ?_
 rintro fu1554 ⟨out1046,v1047⟩ b hm hi1555
 apply vb hm<;>intro _ hm
 obtain⟨e1557,hx1558,hm⟩:=b4 hm
 refine⟨_,u0 (fun _=>rfl) hx1558, ?_⟩
 refine⟨([e1557.Night,e1557.Promised,e1557.Ballot,e1557.Value]:List Int).flatMap cI,([e1557.Night,e1557.Promised,e1557.Ballot,e1557.Value]:List Int).length,⟨rfl,rfl⟩, ?_⟩
 refine co hm (X9 ((⟨#[115,108,111,116]⟩:ByteArray)) (([e1557.Night,e1557.Promised,e1557.Ballot,e1557.Value]:List Int))) fun x1559 hm=> ?_
 obtain⟨hg,hm⟩:=r6 hm
 refine⟨hg, ?_⟩
 cases hm
 exact⟨(_,((out1046++x1559),(W (v1047+1)))),c6.of 2 rfl (tA rfl) ⟨hR rfl,hW rfl,trivial⟩,hi1555,Nat.lt_succ_self _⟩
 cases hm
 cases hi1555
 have hm:=hk1553
 obtain⟨ev1814,he,hk1815⟩:=b4 hm
 refine E8.ofL (a2I s) (fun(out1568,v1569)=>⟨[(0, .agg (b6.c s)),(1, .own 0 0),(2, .v (.string (⟨#[]⟩:ByteArray))),(3,DI 0),(4,DB some_3),(6, .v (.string out1568)),(17,DI v4),(18,DB (decide (v4<6))),(28,DB (!some_3)),(34,lD 4 s.Slots b7.c),(35,DI (s.Slots.length:Int)),(36,DI v1047),(37,DB (decide (v1047<(s.Slots.length:Int)))),(54,lD 6 s.Bids c3.c),(55,DI (s.Bids.length:Int)),(56,DI v1569)], [(0, .blk (b6.c s) 28),(1,rE 1 ([s.Round]:List Int) cI 3)],2⟩) (out1046,0) (c6.of 2 rfl (tA rfl) ⟨hR rfl,hW rfl,trivial⟩) he ?_
 rintro fu1816 ⟨out1568,v1569⟩ b hm hi1817
 apply vb hm<;>intro _ hm
 obtain⟨e1819,hx1820,hm⟩:=b4 hm
 refine⟨_,u0 (fun _=>rfl) hx1820, ?_⟩
 refine⟨rfl, ?_⟩
 refine cy hm (a6V e1819.Asked) fun x1821 hm=> ?_
 refine⟨([e1819.Night,e1819.Ballot,e1819.Value,e1819.Best,e1819.Mask,x1821]:List Int).flatMap cI,([e1819.Night,e1819.Ballot,e1819.Value,e1819.Best,e1819.Mask,x1821]:List Int).length,⟨rfl,rfl⟩, ?_⟩
 refine co hm (X9 ((⟨#[98,105,100]⟩:ByteArray)) (([e1819.Night,e1819.Ballot,e1819.Value,e1819.Best,e1819.Mask,x1821]:List Int))) fun x1823 hm=> ?_
 obtain⟨hg,hm⟩:=r6 hm
 refine⟨hg, ?_⟩
 cases hm
 exact⟨(_,((out1568++x1823),(W (v1569+1)))),c6.of 2 rfl (tA rfl) ⟨hR rfl,hW rfl,trivial⟩,hi1817,Nat.lt_succ_self _⟩
 cases hm
 cases hi1817
 have hm:=hk1815
 obtain⟨ev1944,he,hk1945⟩:=b4 hm
 refine E8.ofL (a2K s) (fun(out1830,v1831)=>⟨[(0, .agg (b6.c s)),(1, .own 0 0),(2, .v (.string (⟨#[]⟩:ByteArray))),(3,DI 0),(4,DB some_3),(6, .v (.string out1830)),(17,DI v4),(18,DB (decide (v4<6))),(28,DB (!some_3)),(34,lD 4 s.Slots b7.c),(35,DI (s.Slots.length:Int)),(36,DI v1047),(37,DB (decide (v1047<(s.Slots.length:Int)))),(54,lD 6 s.Bids c3.c),(55,DI (s.Bids.length:Int)),(56,DI v1569),(57,DB (decide (v1569<(s.Bids.length:Int)))),(79,lD 4 s.Heard a8.c),(80,DI (s.Heard.length:Int)),(81,DI v1831)], [(0, .blk (b6.c s) 28),(1,rE 1 ([s.Round]:List Int) cI 3)],2⟩) (out1568,0) (c6.of 2 rfl (tA rfl) ⟨hR rfl,hW rfl,trivial⟩) he ?_
 rintro fu1946 ⟨out1830,v1831⟩ b hm hi1947
 apply vb hm<;>intro _ hm
 obtain⟨e1949,hx1950,hm⟩:=b4 hm
 refine⟨_,u0 (fun _=>rfl) hx1950, ?_⟩
 refine⟨([e1949.Night,e1949.Ballot,e1949.Value,e1949.Mask]:List Int).flatMap cI,([e1949.Night,e1949.Ballot,e1949.Value,e1949.Mask]:List Int).length,⟨rfl,rfl⟩, ?_⟩
 refine co hm (X9 ((⟨#[104,101,97,114,100]⟩:ByteArray)) (([e1949.Night,e1949.Ballot,e1949.Value,e1949.Mask]:List Int))) fun x1951 hm=> ?_
 obtain⟨hg,hm⟩:=r6 hm
 refine⟨hg, ?_⟩
 cases hm
 exact⟨(_,((out1830++x1951),(W (v1831+1)))),c6.of 2 rfl (tA rfl) ⟨hR rfl,hW rfl,trivial⟩,hi1947,Nat.lt_succ_self _⟩
 cases hm
 cases hi1947
 have hm:=hk1945
 obtain⟨ev2008,he,hk2009⟩:=b4 hm
 refine E8.ofL (a2P s) (fun(out1958,v1959)=>⟨[(0, .agg (b6.c s)),(1, .own 0 0),(2, .v (.string (⟨#[]⟩:ByteArray))),(3,DI 0),(4,DB some_3),(6, .v (.string out1958)),(17,DI v4),(18,DB (decide (v4<6))),(28,DB (!some_3)),(34,lD 4 s.Slots b7.c),(35,DI (s.Slots.length:Int)),(36,DI v1047),(37,DB (decide (v1047<(s.Slots.length:Int)))),(54,lD 6 s.Bids c3.c),(55,DI (s.Bids.length:Int)),(56,DI v1569),(57,DB (decide (v1569<(s.Bids.length:Int)))),(79,lD 4 s.Heard a8.c),(80,DI (s.Heard.length:Int)),(81,DI v1831),(82,DB (decide (v1831<(s.Heard.length:Int)))),(99,lD 5 s.Leases a7.c),(100,DI (s.Leases.length:Int)),(101,DI v1959)], [(0, .blk (b6.c s) 28),(1,rE 1 ([s.Round]:List Int) cI 3)],2⟩) (out1830,0) (c6.of 2 rfl (tA rfl) ⟨hR rfl,hW rfl,trivial⟩) he ?_
 rintro fu2010 ⟨out1958,v1959⟩ b hm hi2011
 apply vb hm<;>intro _ hm
 obtain⟨e2013,hx2014,hm⟩:=b4 hm
 refine⟨_,u0 (fun _=>rfl) hx2014, ?_⟩
 refine⟨([e2013.No,e2013.Thing,e2013.To,e2013.From,e2013.Until]:List Int).flatMap cI,([e2013.No,e2013.Thing,e2013.To,e2013.From,e2013.Until]:List Int).length,⟨rfl,rfl⟩, ?_⟩
 refine co hm (X9 ((⟨#[108,101,97,115,101]⟩:ByteArray)) (([e2013.No,e2013.Thing,e2013.To,e2013.From,e2013.Until]:List Int))) fun x2015 hm=> ?_
 obtain⟨hg,hm⟩:=r6 hm
 refine⟨hg, ?_⟩
 cases hm
 exact⟨(_,((out1958++x2015),(W (v1959+1)))),c6.of 2 rfl (tA rfl) ⟨hR rfl,hW rfl,trivial⟩,hi2011,Nat.lt_succ_self _⟩
 cases hm
 cases hi2011
 have hm:=hk2009
 obtain⟨ev2042,he,hk2043⟩:=b4 hm
 refine E8.ofL (a2O s) (fun(out2024,v2025)=>⟨[(0, .agg (b6.c s)),(1, .own 0 0),(2, .v (.string (⟨#[]⟩:ByteArray))),(3,DI 0),(4,DB some_3),(6, .v (.string out2024)),(17,DI v4),(18,DB (decide (v4<6))),(28,DB (!some_3)),(34,lD 4 s.Slots b7.c),(35,DI (s.Slots.length:Int)),(36,DI v1047),(37,DB (decide (v1047<(s.Slots.length:Int)))),(54,lD 6 s.Bids c3.c),(55,DI (s.Bids.length:Int)),(56,DI v1569),(57,DB (decide (v1569<(s.Bids.length:Int)))),(79,lD 4 s.Heard a8.c),(80,DI (s.Heard.length:Int)),(81,DI v1831),(82,DB (decide (v1831<(s.Heard.length:Int)))),(99,lD 5 s.Leases a7.c),(100,DI (s.Leases.length:Int)),(101,DI v1959),(102,DB (decide (v1959<(s.Leases.length:Int)))),(121,lD 6 s.Loans b8.c),(122,DI (s.Loans.length:Int)),(123,DI v2025)], [(0, .blk (b6.c s) 28),(1,rE 1 ([s.Round]:List Int) cI 3)],2⟩) (out1958,0) (c6.of 2 rfl (tA rfl) ⟨hR rfl,hW rfl,trivial⟩) he ?_
 rintro fu2044 ⟨out2024,v2025⟩ b hm hi2045
 apply vb hm<;>intro _ hm
 obtain⟨e2047,hx2048,hm⟩:=b4 hm
 refine⟨_,u0 (fun _=>rfl) hx2048, ?_⟩
 refine⟨rfl, ?_⟩
 refine cy hm (a6V e2047.Back) fun x2049 hm=> ?_
 refine⟨([e2047.Owner,e2047.No,e2047.Thing,e2047.From,e2047.Until,x2049]:List Int).flatMap cI,([e2047.Owner,e2047.No,e2047.Thing,e2047.From,e2047.Until,x2049]:List Int).length,⟨rfl,rfl⟩, ?_⟩
 refine co hm (X9 ((⟨#[108,111,97,110]⟩:ByteArray)) (([e2047.Owner,e2047.No,e2047.Thing,e2047.From,e2047.Until,x2049]:List Int))) fun x2051 hm=> ?_
 obtain⟨hg,hm⟩:=r6 hm
 refine⟨hg, ?_⟩
 cases hm
 exact⟨(_,((out2024++x2051),(W (v2025+1)))),c6.of 2 rfl (tA rfl) ⟨hR rfl,hW rfl,trivial⟩,hi2045,Nat.lt_succ_self _⟩
 cases hm
 cases hi2045
 have hm:=hk2043
 cases hm
 exact i5.le (leD.refl _)
def a1z:Option Bool:=
 Option.bind (a7B) fun⟨x1,x2⟩=>
 Option.bind (K1 x1 (⟨2,5,1,4,7,0,0,0,0,0,0⟩:b5)) fun⟨x4,x5⟩=>
 Option.bind (N5 x4) fun⟨x7,x8⟩=>
 Option.bind (N4 x7 2) fun⟨x10,x11⟩=>
 if(!x2)=true then
  some false
 else
  if(x5 !=0)=true then
   some false
  else
   if(x8 !=0)=true then
    some false
   else
    if(x11 !=0)=true then
     some false
    else
     if((x1.Now.Bids.length:Int) !=1)=true then
      some false
     else
      if((x4.Now.Bids.length:Int) !=1)=true then
       some false
      else
       Option.bind (idx x1.Now.Bids 0) fun e19=>
       if((e19.Night==4)&&((e19.Ballot==7)&&((e19.Value==77)&&((e19.Best==0)&&((e19.Mask==14)&&(e19.Asked==false))))))=true then
        Option.bind (idx x4.Now.Bids 0) fun e22=>
        Option.bind (a0f x10 ([(⟨3,1,2,4,7,0,77,0,0,0,0⟩:b5)]:List b5)) fun x24=>
        Option.bind (L7 2) fun⟨x26,x27⟩=>
        Option.bind (D0 x26 8 0 100 200) fun⟨x29,x30⟩=>
        Option.bind (v6 x29 8 150) fun⟨x32,x33⟩=>
        Option.bind (v6 x29 8 200) fun⟨x35,x36⟩=>
        Option.bind (D0 x29 8 1 150 250) fun⟨x38,x39⟩=>
        Option.bind (M2 x29 8 150 250) fun⟨x41,x42⟩=>
        Option.bind (a0Z x1.Now) fun⟨x44,x45⟩=>
        if(x27==0)=true then
         if(x30==0)=true then
          if(x33==0)=true then
           if(x36==0)=true then
            if(x39==93)=true then
             if(x42==0)=true then
              if((e22.Night==4)&&((e22.Ballot==7)&&((e22.Value==77)&&((e22.Best==0)&&((e22.Mask==46)&&(e22.Asked==true))))))=true then
               if x24=true then
                if(x45==0)=true then
                 if(!x32)=true then
                  if x35=true then
                   if(x41==200)=true then
                    some (x44.toList==(⟨#[114,111,117,110,100,32,49,10,98,105,100,32,52,32,55,32,55,55,32,48,32,49,52,32,48,10]⟩:ByteArray).toList)
                   else
                    some false
                  else
                   some false
                 else
                  some false
                else
                 some false
               else
                some false
              else
               some false
             else
              if((e22.Night==4)&&((e22.Ballot==7)&&((e22.Value==77)&&((e22.Best==0)&&((e22.Mask==46)&&(e22.Asked==true))))))=true then
               if x24=true then
                some false
               else
                some false
              else
               some false
            else
             if((e22.Night==4)&&((e22.Ballot==7)&&((e22.Value==77)&&((e22.Best==0)&&((e22.Mask==46)&&(e22.Asked==true))))))=true then
              if x24=true then
               some false
              else
               some false
             else
              some false
           else
            if((e22.Night==4)&&((e22.Ballot==7)&&((e22.Value==77)&&((e22.Best==0)&&((e22.Mask==46)&&(e22.Asked==true))))))=true then
             if x24=true then
              some false
             else
              some false
            else
             some false
          else
           if((e22.Night==4)&&((e22.Ballot==7)&&((e22.Value==77)&&((e22.Best==0)&&((e22.Mask==46)&&(e22.Asked==true))))))=true then
            if x24=true then
             some false
            else
             some false
           else
            some false
         else
          if((e22.Night==4)&&((e22.Ballot==7)&&((e22.Value==77)&&((e22.Best==0)&&((e22.Mask==46)&&(e22.Asked==true))))))=true then
           if x24=true then
            some false
           else
            some false
          else
           some false
        else
         if((e22.Night==4)&&((e22.Ballot==7)&&((e22.Value==77)&&((e22.Best==0)&&((e22.Mask==46)&&(e22.Asked==true))))))=true then
          if x24=true then
           some false
          else
           some false
         else
          some false
       else
        Option.bind (a0f x10 ([(⟨3,1,2,4,7,0,77,0,0,0,0⟩:b5)]:List b5)) fun x71=>
        Option.bind (L7 2) fun⟨x73,x74⟩=>
        Option.bind (D0 x73 8 0 100 200) fun⟨x76,x77⟩=>
        Option.bind (v6 x76 8 150) fun⟨x79,x80⟩=>
        Option.bind (v6 x76 8 200) fun⟨x82,x83⟩=>
        Option.bind (D0 x76 8 1 150 250) fun⟨x85,x86⟩=>
        Option.bind (M2 x76 8 150 250) fun⟨x88,x89⟩=>
        Option.bind (a0Z x1.Now) fun⟨x91,x92⟩=>
        if(x74==0)=true then
         if(x77==0)=true then
          if(x80==0)=true then
           if(x83==0)=true then
            if(x86==93)=true then
             if(x89==0)=true then
              some false
             else
              some false
            else
             some false
           else
            some false
          else
           some false
         else
          some false
        else
         some false
theorem a5Z (r:Bool) (hm:a1z=some r):i4 Tryz.prog 20 [] (fun x=>x=DB r):=by
 refine zn Tryz.func20 rfl ?_
 refine cy hm (b6y) ?_
 rintro⟨x1,x2⟩ hm
 refine cy hm (a0c x1 ((⟨2,5,1,4,7,0,0,0,0,0,0⟩:b5))) ?_
 rintro⟨x4,x5⟩ hm
 refine cy hm (a2f x4) ?_
 rintro⟨x7,x8⟩ hm
 refine cy hm (a2t x7 2) ?_
 rintro⟨x10,x11⟩ hm
 apply vb hm<;>intro _ hm
 exact hm.rr
 apply vb hm<;>intro _ hm
 exact hm.rr
 apply vb hm<;>intro _ hm
 exact hm.rr
 apply vb hm<;>intro _ hm
 exact hm.rr
 apply vb hm<;>intro _ hm
 exact hm.rr
 apply vb hm<;>intro _ hm
 exact hm.rr
 obtain⟨e19,hx20,hm⟩:=b4 hm
 refine⟨_,u0 (fun _=>rfl) hx20, ?_⟩
 apply vb hm<;>intro _ hm
 obtain⟨e22,hx23,hm⟩:=b4 hm
 refine⟨_,u0 (fun _=>rfl) hx23, ?_⟩
 refine⟨([(⟨3,1,2,4,7,0,77,0,0,0,0⟩:b5)]:List b5).flatMap b5.c,([(⟨3,1,2,4,7,0,77,0,0,0,0⟩:b5)]:List b5).length,⟨rfl,rfl⟩, ?_⟩
 refine co hm (a4h x10 (([(⟨3,1,2,4,7,0,77,0,0,0,0⟩:b5)]:List b5))) fun x24 hm=> ?_
 refine cy hm (a0M 2) ?_
 rintro⟨x26,x27⟩ hm
 refine cy hm (M3 x26 8 0 100 200) ?_
 rintro⟨x29,x30⟩ hm
 refine cy hm (G7 x29 8 150) ?_
 rintro⟨x32,x33⟩ hm
 refine cy hm (G7 x29 8 200) ?_
 rintro⟨x35,x36⟩ hm
 refine cy hm (M3 x29 8 1 150 250) ?_
 rintro⟨x38,x39⟩ hm
 refine cy hm (a2R x29 8 150 250) ?_
 rintro⟨x41,x42⟩ hm
 refine cy hm (a4B x1.Now) ?_
 rintro⟨x44,x45⟩ hm
 apply vb hm<;>intro _ hm
 apply vb hm<;>intro _ hm
 apply vb hm<;>intro _ hm
 apply vb hm<;>intro _ hm
 apply vb hm<;>intro _ hm
 apply vb hm<;>intro _ hm
 apply vb hm<;>intro _ hm
 apply vb hm<;>intro _ hm
 apply vb hm<;>intro _ hm
 apply vb hm<;>intro _ hm
 apply vb hm<;>intro _ hm
 apply vb hm<;>intro _ hm
 exact hm.rr
 exact hm.rr
 exact hm.rr
 exact hm.rr
 exact hm.rr
 exact hm.rr
 exact hm.rr
 apply vb hm<;>intro _ hm
 apply vb hm<;>intro _ hm
 exact hm.rr
 exact hm.rr
 exact hm.rr
 apply vb hm<;>intro _ hm
 apply vb hm<;>intro _ hm
 exact hm.rr
 exact hm.rr
 exact hm.rr
 apply vb hm<;>intro _ hm
 apply vb hm<;>intro _ hm
 exact hm.rr
 exact hm.rr
 exact hm.rr
 apply vb hm<;>intro _ hm
 apply vb hm<;>intro _ hm
 exact hm.rr
 exact hm.rr
 exact hm.rr
 apply vb hm<;>intro _ hm
 apply vb hm<;>intro _ hm
 exact hm.rr
 exact hm.rr
 exact hm.rr
 apply vb hm<;>intro _ hm
 apply vb hm<;>intro _ hm
 exact hm.rr
 exact hm.rr
 exact hm.rr
 refine⟨([(⟨3,1,2,4,7,0,77,0,0,0,0⟩:b5)]:List b5).flatMap b5.c,([(⟨3,1,2,4,7,0,77,0,0,0,0⟩:b5)]:List b5).length,⟨rfl,rfl⟩, ?_⟩
 refine co hm (a4h x10 (([(⟨3,1,2,4,7,0,77,0,0,0,0⟩:b5)]:List b5))) fun x71 hm=> ?_
 refine cy hm (a0M 2) ?_
 rintro⟨x73,x74⟩ hm
 refine cy hm (M3 x73 8 0 100 200) ?_
 rintro⟨x76,x77⟩ hm
 refine cy hm (G7 x76 8 150) ?_
 rintro⟨x79,x80⟩ hm
 refine cy hm (G7 x76 8 200) ?_
 rintro⟨x82,x83⟩ hm
 refine cy hm (M3 x76 8 1 150 250) ?_
 rintro⟨x85,x86⟩ hm
 refine cy hm (a2R x76 8 150 250) ?_
 rintro⟨x88,x89⟩ hm
 refine cy hm (a4B x1.Now) ?_
 rintro⟨x91,x92⟩ hm
 apply vb hm<;>intro _ hm
 apply vb hm<;>intro _ hm
 apply vb hm<;>intro _ hm
 apply vb hm<;>intro _ hm
 apply vb hm<;>intro _ hm
 apply vb hm<;>intro _ hm
 exact hm.rr
 exact hm.rr
 exact hm.rr
 exact hm.rr
 exact hm.rr
 exact hm.rr
 exact hm.rr
def a0i (x:a6) (owner:Int) (no:Int) (moment:Int):Option (a6×Int):=
 Option.bind (M7 x) fun e=>
 match e with
 | .inl x8=>
  if(x8 !=0)=true then
   some ((⟨0,(⟨0, [], [], [], [], []⟩:b6),(⟨0, [], [], [], [], []⟩:b6)⟩:a6),x8)
  else
   Option.bind (r7 owner) fun x32=>
   if(!x32)=true then
    some ((⟨0,(⟨0, [], [], [], [], []⟩:b6),(⟨0, [], [], [], [], []⟩:b6)⟩:a6),1)
   else
    Option.bind (c9 moment) fun x35=>
    if(!x35)=true then
     some ((⟨0,(⟨0, [], [], [], [], []⟩:b6),(⟨0, [], [], [], [], []⟩:b6)⟩:a6),95)
    else
     none
 | .inr (v9,v10,v11,v12,v13,v14,v15,v16,v17,v18,x19,x20,x21)=>
  Option.bind (r7 owner) fun x38=>
  if(!x38)=true then
   some ((⟨0,(⟨0, [], [], [], [], []⟩:b6),(⟨0, [], [], [], [], []⟩:b6)⟩:a6),1)
  else
   Option.bind (c9 moment) fun x41=>
   if(!x41)=true then
    some ((⟨0,(⟨0, [], [], [], [], []⟩:b6),(⟨0, [], [], [], [], []⟩:b6)⟩:a6),95)
   else
    Option.bind (l8 v13 (⟨owner,no,0,0,0,false⟩:b8)) fun⟨x44,x45⟩=>
    if(!x45)=true then
     some ((⟨0,(⟨0, [], [], [], [], []⟩:b6),(⟨0, [], [], [], [], []⟩:b6)⟩:a6),94)
    else
     Option.bind (idx v13 x44) fun e48=>
     Option.bind (idx v13 x44) fun e50=>
     if e50.Back=true then
      some ((⟨0,(⟨0, [], [], [], [], []⟩:b6),(⟨0, [], [], [], [], []⟩:b6)⟩:a6),94)
     else
      Option.bind (idx v13 x44) fun e53=>
      Option.bind (idx v13 x44) fun e55=>
      Option.bind (idx v13 x44) fun e57=>
      Option.bind (idx v13 x44) fun e59=>
      Option.bind (idx (v13.set x44.toNat (⟨e59.Owner,e59.No,e59.Thing,e59.From,(if(if e57.From>moment then e57.From else moment)<e55.Until then(if e57.From>moment then e57.From else moment)else e55.Until),e59.Back⟩:b8)) x44) fun e61=>
      some ((⟨x19,(⟨x20,v9,v10,v11,v12,((v13.set x44.toNat (⟨e59.Owner,e59.No,e59.Thing,e59.From,(if(if e57.From>moment then e57.From else moment)<e55.Until then(if e57.From>moment then e57.From else moment)else e55.Until),e59.Back⟩:b8)).set x44.toNat (⟨e61.Owner,e61.No,e61.Thing,e61.From,e61.Until,true⟩:b8))⟩:b6),(⟨x21,v14,v15,v16,v17,v18⟩:b6)⟩:a6),0)
theorem a8k (x:a6) (owner:Int) (no:Int) (moment:Int) (r:(a6×Int)) (hm:a0i x owner no moment=some r):i4 Tryz.prog 35 [.agg (a6.c x),DI owner,DI no,DI moment] (fun x=>x= .tup [.agg (a6.c r.1),DI r.2]):=by
 refine zy c3R [99,106,149,210,211,220] [62] [61] Tryz.func35 rfl ?_
 obtain⟨ev29,he30,hm⟩:=b4 hm
 refine L2.ofZ pok ⟨[(0, .agg (a6.c x)),(1000000, .agg (a6.c x)),(1000001,DI owner),(1000002,DI no),(1000003,DI moment),(1000004, .own 0 0),(1000008, .own 1 0),(1000009,DI 0)], [(0, .blk (a6.c x) 30),(1, .blk [DI 0,DI 0,nS,nS,nS,nS,nS,DI 0,nS,nS,nS,nS,nS] 30)],2⟩ (match ev29 with| .inl x8=>(⟨[(0, .agg (a6.c x)),(1,DI owner),(2,DI no),(3,DI moment),(4, .own 0 0),(8, .own 1 0),(9,DI 0),(17, .tup [.v (.pointer none),DI x8])], [(0, .blk (a6.c x) 30),(1, .blk [DI 0,DI 0,nS,nS,nS,nS,nS,DI 0,nS,nS,nS,nS,nS] 30)],2⟩:Sy)| .inr (v9,v10,v11,v12,v13,v14,v15,v16,v17,v18,x19,x20,x21)=>(⟨[(0, .agg (a6.c x)),(1,DI owner),(2,DI no),(3,DI moment),(4, .own 0 0),(8, .own 1 0),(9,DI 0),(17, .tup [.own 13 0,DI 0])], [(0, .blk (a6.c x) 30),(1, .blk [DI 0,DI 0,nS,nS,nS,nS,nS,DI 0,nS,nS,nS,nS,nS] 30),(3,rE 4 v9 b7.c 110),(4,rE 6 v10 c3.c 108),(5,rE 4 v11 a8.c 149),(6,rE 5 v12 a7.c 112),(7,rE 6 v13 b8.c 114),(8,rE 4 v14 b7.c 110),(9,rE 6 v15 c3.c 108),(10,rE 4 v16 a8.c 149),(11,rE 5 v17 a7.c 112),(12,rE 6 v18 b8.c 114),(13, .blk [DI x19,DI x20, .row 3 4, .row 4 6, .row 5 4, .row 6 5, .row 7 6,DI x21, .row 8 4, .row 9 6, .row 10 4, .row 11 5, .row 12 6] 102)],14⟩:Sy):Sy) b6n [99,106,149,210,211,220] [62] [61] Tryz.func61 rfl rfl rfl (c6.of 2 rfl (tA rfl) ⟨hR rfl,hR rfl,trivial⟩) (fun sv=> ?_) ?_
 have hm:=he30
 refine cy hm (R4 x) fun x63 hm=> ?_
 apply vb hm<;>intro _ hm
 cases hm
 exact c6.of 2 rfl (tA rfl) ⟨hR rfl,hR rfl,trivial⟩
 refine⟨rfl, ?_⟩
 obtain⟨x66,hx67,hm⟩:=b4 hm
 refine .inr (a5s.mk ⟨_,_,H9 x.Now _ hx67, ?_⟩)
 obtain⟨x68,hx69,hm⟩:=b4 hm
 refine .inr (a5s.mk ⟨_,_,H9 x.Safe _ hx69, ?_⟩)
 cases hm
 exact c6.of 14 rfl (tA rfl) ⟨hR rfl,hR rfl,hW rfl,hW rfl,hW rfl,hW rfl,hW rfl,hW rfl,hW rfl,hW rfl,hW rfl,hW rfl,hR rfl,trivial⟩
 rcases ev29 with x8|⟨v9,v10,v11,v12,v13,v14,v15,v16,v17,v18,x19,x20,x21⟩
 apply vb hm<;>intro _ hm
 cases hm
 exact i5.le (⟨_,rfl,⟨⟨_,rfl,⟨leD.refl _,leD.refl _,leD.nil,leD.nil,leD.nil,leD.nil,leD.nil,leD.refl _,leD.nil,leD.nil,leD.nil,leD.nil,leD.nil,trivial⟩⟩,leD.refl _,trivial⟩⟩)
 refine cy hm (u4 owner) fun x32 hm=> ?_
 apply vb hm<;>intro _ hm
 cases hm
 exact i5.le (⟨_,rfl,⟨⟨_,rfl,⟨leD.refl _,leD.refl _,leD.nil,leD.nil,leD.nil,leD.nil,leD.nil,leD.refl _,leD.nil,leD.nil,leD.nil,leD.nil,leD.nil,trivial⟩⟩,leD.refl _,trivial⟩⟩)
 refine cy hm (j3 moment) fun x35 hm=> ?_
 apply vb hm<;>intro _ hm
 cases hm
 exact i5.le (⟨_,rfl,⟨⟨_,rfl,⟨leD.refl _,leD.refl _,leD.nil,leD.nil,leD.nil,leD.nil,leD.nil,leD.refl _,leD.nil,leD.nil,leD.nil,leD.nil,leD.nil,trivial⟩⟩,leD.refl _,trivial⟩⟩)
 cases hm
 refine cy hm (u4 owner) fun x38 hm=> ?_
 apply vb hm<;>intro _ hm
 cases hm
 exact i5.le (⟨_,rfl,⟨⟨_,rfl,⟨leD.refl _,leD.refl _,leD.nil,leD.nil,leD.nil,leD.nil,leD.nil,leD.refl _,leD.nil,leD.nil,leD.nil,leD.nil,leD.nil,trivial⟩⟩,leD.refl _,trivial⟩⟩)
 refine cy hm (j3 moment) fun x41 hm=> ?_
 apply vb hm<;>intro _ hm
 cases hm
 exact i5.le (⟨_,rfl,⟨⟨_,rfl,⟨leD.refl _,leD.refl _,leD.nil,leD.nil,leD.nil,leD.nil,leD.nil,leD.refl _,leD.nil,leD.nil,leD.nil,leD.nil,leD.nil,trivial⟩⟩,leD.refl _,trivial⟩⟩)
 refine co hm (I1 v13 ((⟨owner,no,0,0,0,false⟩:b8))) ?_
 rintro⟨x44,x45⟩ hm
 apply vb hm<;>intro _ hm
 cases hm
 exact i5.le (⟨_,rfl,⟨⟨_,rfl,⟨leD.refl _,leD.refl _,leD.nil,leD.nil,leD.nil,leD.nil,leD.nil,leD.refl _,leD.nil,leD.nil,leD.nil,leD.nil,leD.nil,trivial⟩⟩,leD.refl _,trivial⟩⟩)
 obtain⟨e48,hx49,hm⟩:=b4 hm
 refine⟨a2h hx49, ?_⟩
 obtain⟨e50,hx51,hm⟩:=b4 hm
 refine⟨_,L8 (fun _=>rfl) hx51, ?_⟩
 apply vb hm<;>intro _ hm
 cases hm
 exact i5.le (⟨_,rfl,⟨⟨_,rfl,⟨leD.refl _,leD.refl _,leD.nil,leD.nil,leD.nil,leD.nil,leD.nil,leD.refl _,leD.nil,leD.nil,leD.nil,leD.nil,leD.nil,trivial⟩⟩,leD.refl _,trivial⟩⟩)
 obtain⟨e53,hx54,hm⟩:=b4 hm
 refine⟨a2h hx54, ?_⟩
 refine⟨rfl, ?_⟩
 obtain⟨e55,hx56,hm⟩:=b4 hm
 refine⟨_,L8 (fun _=>rfl) hx56, ?_⟩
 obtain⟨e57,hx58,hm⟩:=b4 hm
 refine⟨_,L8 (fun _=>rfl) hx58, ?_⟩
 obtain⟨e59,hx60,hm⟩:=b4 hm
 refine⟨_,L8 (fun _=>rfl) hx60,_,Y1 (y:=(⟨e59.Owner,e59.No,e59.Thing,e59.From,(if(if e57.From>moment then e57.From else moment)<e55.Until then(if e57.From>moment then e57.From else moment)else e55.Until),e59.Back⟩:b8)) (fun _=>rfl) hx60, ?_⟩
 obtain⟨e61,hx62,hm⟩:=b4 hm
 refine⟨_,a3S (fun _=>rfl) hx62 (by first|rfl|simp only [List.length_set]),_,Y1 (y:=(⟨e61.Owner,e61.No,e61.Thing,e61.From,e61.Until,true⟩:b8)) (fun _=>rfl) hx62, ?_⟩
 cases hm
 exact i5.le (by first|exact leD.refl _|(simp only [a6.c,lD,List.length_set];exact leD.refl _))
def W9 (y:a0j):Option a6o:=
 Option.bind (M6 y.Depot 6) fun x1=>
 Option.bind (M6 y.From 40) fun x3=>
 Option.bind (M6 y.Thing 3) fun x5=>
 Option.bind (M6 y.To 6) fun x7=>
 Option.bind (M6 y.Long 12) fun x9=>
 some (⟨(W (x1+(W (6*(W (1+x5)))))),x7,(W (x3*10)),(W ((W (x3*10))+(W (x9*10))))⟩:a6o)
theorem a4G (y:a0j) (r:a6o) (hm:W9 y=some r):i4 Tryz.prog 39 [.agg (a0j.c y)] (fun x=>x= .agg (a6o.c r)):=by
 refine zy c3J [] [] [] Tryz.func39 rfl ?_
 refine cy hm (a0D y.Depot 6) fun x1 hm=> ?_
 refine cy hm (a0D y.From 40) fun x3 hm=> ?_
 refine⟨rfl, ?_⟩
 refine cy hm (a0D y.Thing 3) fun x5 hm=> ?_
 refine cy hm (a0D y.To 6) fun x7 hm=> ?_
 refine cy hm (a0D y.Long 12) fun x9 hm=> ?_
 cases hm
 exact i5.le (leD.refl _)
def H5 (x1:a6o) (x22:a6) (x36:a6) (x39:Int) (x44:a6) (x57:a6):Int→Option (Sum Int (Sum Int Bool)):=fun t103=>
 if(decide (t103<(W (x1.Until+3))))=true then
  if(decide (x1.From≤t103))=true then
   Option.bind (v6 x22 x1.Thing t103) fun⟨x148,x149⟩=>
   Option.bind (v6 x36 x1.Thing t103) fun⟨x151,x152⟩=>
   Option.bind (v6 x44 x1.Thing t103) fun⟨x154,x155⟩=>
   Option.bind (v6 x57 x1.Thing t103) fun⟨x157,x158⟩=>
   if(x149 !=0)=true then
    some (.inr (.inr false))
   else
    if(x152 !=0)=true then
     some (.inr (.inr false))
    else
     if(x155 !=0)=true then
      some (.inr (.inr false))
     else
      if(x158 !=0)=true then
       some (.inr (.inr false))
      else
       if(x148==(decide (t103<x1.Until)))=true then
        some (.inr (.inr false))
       else
        if(!(x151==(decide (t103<x1.Until))))=true then
         some (.inr (.inr false))
        else
         if(!(x154==(decide (t103<(if(W (x1.From+x39))<x1.Until then(W (x1.From+x39))else x1.Until)))))=true then
          some (.inr (.inr false))
         else
          if(x157==(decide (t103<(if(W (x1.From+x39))<x1.Until then(W (x1.From+x39))else x1.Until))))=true then
           some (.inr (.inr false))
          else
           some (.inl (W (t103+1)))
  else
   Option.bind (v6 x22 x1.Thing t103) fun⟨x168,x169⟩=>
   Option.bind (v6 x36 x1.Thing t103) fun⟨x171,x172⟩=>
   Option.bind (v6 x44 x1.Thing t103) fun⟨x174,x175⟩=>
   Option.bind (v6 x57 x1.Thing t103) fun⟨x177,x178⟩=>
   if(x169 !=0)=true then
    some (.inr (.inr false))
   else
    if(x172 !=0)=true then
     some (.inr (.inr false))
    else
     if(x175 !=0)=true then
      some (.inr (.inr false))
     else
      if(x178 !=0)=true then
       some (.inr (.inr false))
      else
       if(x168==false)=true then
        some (.inr (.inr false))
       else
        if(!(x171==false))=true then
         some (.inr (.inr false))
        else
         if(!(x174==false))=true then
          some (.inr (.inr false))
         else
          if(x177==false)=true then
           some (.inr (.inr false))
          else
           some (.inl (W (t103+1)))
 else
  some (.inr (.inl t103))
def a0O (a:a0j) (b_:a0j) (at_:Int):Option Bool:=
 Option.bind (W9 a) fun x1=>
 Option.bind (M6 a.Depot 6) fun x3=>
 Option.bind (L7 x3) fun⟨x5,x6⟩=>
 if(x1.To==x3)=true then
  Option.bind (D0 x5 x1.Thing x1.To x1.From x1.Until) fun⟨x9,x10⟩=>
  if(x6==0)=true then
   if(x10==1)=true then
    Option.bind (a1z) fun x14=>
    some x14
   else
    some false
  else
   some false
 else
  Option.bind (L7 x1.To) fun⟨x16,x17⟩=>
  Option.bind (D0 x5 x1.Thing x1.To x1.From x1.Until) fun⟨x19,x20⟩=>
  Option.bind (N5 x19) fun⟨x22,x23⟩=>
  Option.bind (N4 x22 x1.To) fun⟨x25,x26⟩=>
  if(x6 !=0)=true then
   some false
  else
   if(x17 !=0)=true then
    some false
   else
    if(x20 !=0)=true then
     some false
    else
     if(x23 !=0)=true then
      some false
     else
      if(x26 !=0)=true then
       some false
      else
       if((x25.length:Int) !=1)=true then
        some false
       else
        Option.bind (idx x25 0) fun e34=>
        Option.bind (K1 x16 e34) fun⟨x36,x37⟩=>
        Option.bind (M6 at_ 130) fun x39=>
        Option.bind (a0i x36 x3 1 (W (x1.From+x39))) fun⟨x41,x42⟩=>
        Option.bind (N5 x41) fun⟨x44,x45⟩=>
        Option.bind (N4 x44 x3) fun⟨x47,x48⟩=>
        if(x37 !=0)=true then
         some false
        else
         if(x42 !=0)=true then
          some false
         else
          if(x45 !=0)=true then
           some false
          else
           if(x48 !=0)=true then
            some false
           else
            if((x47.length:Int) !=1)=true then
             some false
            else
             Option.bind (idx x47 0) fun e55=>
             Option.bind (K1 x22 e55) fun⟨x57,x58⟩=>
             if(x58 !=0)=true then
              some false
             else
              Option.bind (u3 (H5 x1 x22 x36 x39 x44 x57) (if(W (x1.From-3))>0 then(W (x1.From-3))else 0)) fun e=>
              match e with
              | .inl t188=>
               Option.bind (W9 b_) fun x189=>
               Option.bind (M2 x57 x1.Thing x189.From x189.Until) fun⟨x191,x192⟩=>
               if(x192 !=0)=true then
                some false
               else
                if(decide (x191<x189.From))=true then
                 some false
                else
                 Option.bind (D0 x57 x1.Thing x1.To x191 (W ((W (x191+x189.Until))-x189.From))) fun⟨x196,x197⟩=>
                 if(x197 !=0)=true then
                  some false
                 else
                  if(decide (x191>x189.From))=true then
                   Option.bind (M6 at_ (W (x191-x189.From))) fun x201=>
                   Option.bind (D0 x57 x1.Thing x1.To (W (x189.From+x201)) (W ((W ((W (x189.From+x201))+x189.Until))-x189.From))) fun⟨x203,x204⟩=>
                   if(x204==93)=true then
                    Option.bind (a1z) fun x207=>
                    some x207
                   else
                    some false
                  else
                   Option.bind (a1z) fun x209=>
                   some x209
              | .inr rr211=>
               some rr211
theorem a6K (a:a0j) (b_:a0j) (at_:Int) (r:Bool) (hm:a0O a b_ at_=some r):i4 Tryz.prog 6 [.agg (a0j.c a), .agg (a0j.c b_),DI at_] (fun x=>x=DB r):=by
 refine zy pl6 [] [] [] Tryz.func6 rfl ?_
 refine cy hm (a4G a) fun x1 hm=> ?_
 refine cy hm (a0D a.Depot 6) fun x3 hm=> ?_
 refine cy hm (a0M x3) ?_
 rintro⟨x5,x6⟩ hm
 apply vb hm<;>intro _ hm
 refine cy hm (M3 x5 x1.Thing x1.To x1.From x1.Until) ?_
 rintro⟨x9,x10⟩ hm
 apply vb hm<;>intro _ hm
 apply vb hm<;>intro _ hm
 refine cy hm (a5Z) fun x14 hm=> ?_
 exact hm.rr
 exact hm.rr
 exact hm.rr
 refine cy hm (a0M x1.To) ?_
 rintro⟨x16,x17⟩ hm
 refine cy hm (M3 x5 x1.Thing x1.To x1.From x1.Until) ?_
 rintro⟨x19,x20⟩ hm
 refine cy hm (a2f x19) ?_
 rintro⟨x22,x23⟩ hm
 refine cy hm (a2t x22 x1.To) ?_
 rintro⟨x25,x26⟩ hm
 apply vb hm<;>intro _ hm
 exact hm.rr
 apply vb hm<;>intro _ hm
 exact hm.rr
 apply vb hm<;>intro _ hm
 exact hm.rr
 apply vb hm<;>intro _ hm
 exact hm.rr
 apply vb hm<;>intro _ hm
 exact hm.rr
 apply vb hm<;>intro _ hm
 exact hm.rr
 refine⟨rfl, ?_⟩
 obtain⟨e34,hx35,hm⟩:=b4 hm
 refine⟨_,u0 (fun _=>rfl) hx35, ?_⟩
 refine cy hm (a0c x16 e34) ?_
 rintro⟨x36,x37⟩ hm
 refine⟨rfl, ?_⟩
 refine cy hm (a0D at_ 130) fun x39 hm=> ?_
 refine cy hm (a8k x36 x3 1 (W (x1.From+x39))) ?_
 rintro⟨x41,x42⟩ hm
 refine cy hm (a2f x41) ?_
 rintro⟨x44,x45⟩ hm
 refine cy hm (a2t x44 x3) ?_
 rintro⟨x47,x48⟩ hm
 apply vb hm<;>intro _ hm
 exact hm.rr
 apply vb hm<;>intro _ hm
 exact hm.rr
 apply vb hm<;>intro _ hm
 exact hm.rr
 apply vb hm<;>intro _ hm
 exact hm.rr
 apply vb hm<;>intro _ hm
 exact hm.rr
 refine⟨rfl, ?_⟩
 obtain⟨e55,hx56,hm⟩:=b4 hm
 refine⟨_,u0 (fun _=>rfl) hx56, ?_⟩
 refine cy hm (a0c x22 e55) ?_
 rintro⟨x57,x58⟩ hm
 apply vb hm<;>intro _ hm
 exact hm.rr
 obtain⟨ev212,he,hk213⟩:=b4 hm
 refine E8.ofL (H5 x1 x22 x36 x39 x44 x57) (fun t103=>⟨[(0, .agg (a0j.c a)),(1, .agg (a0j.c b_)),(2,DI at_),(3, .own 0 0),(4, .own 1 0),(6,DB false),(7, .own 2 0),(8,DI x3),(9, .own 3 0),(10,DI x6),(13, .own 4 0),(14,DI x17),(15,DI x20),(16,DI x23),(17,lD 11 x25 b5.c),(18,DI x26),(19,DI x37),(20,DI (W (x1.From+x39))),(21, .own 5 0),(22,DI x42),(23,DI x45),(24,lD 11 x47 b5.c),(25,DI x48),(26, .own 6 0),(27,DI x58),(28,DI t103),(60,DB (x1.To==x3)),(136,DB ((x25.length:Int) !=1)),(186,DB ((x47.length:Int) !=1)),(196,DB (x58 !=0))], [(0, .blk (a0j.c a) 63),(1, .blk (a0j.c b_) 63),(2, .blk (a6o.c x1) 51),(3, .blk (a6.c x22) 30),(4, .blk (a6.c x36) 30),(5, .blk (a6.c x44) 30),(6, .blk (a6.c x57) 30)],7⟩) (if(W (x1.From-3))>0 then(W (x1.From-3))else 0) (c6.of 7 rfl (tA rfl) ⟨hR rfl,hR rfl,hR rfl,hR rfl,hR rfl,hR rfl,hR rfl,trivial⟩) he ?_
 rintro fu214 t103 b hm hi215
 apply vb hm<;>intro _ hm
 apply vb hm<;>intro h217 hm
 refine VIf.t h217 ?_
 refine cy hm (G7 x22 x1.Thing t103) ?_
 rintro⟨x218,x219⟩ hm
 refine cy hm (G7 x36 x1.Thing t103) ?_
 rintro⟨x221,x222⟩ hm
 refine cy hm (G7 x44 x1.Thing t103) ?_
 rintro⟨x224,x225⟩ hm
 refine cy hm (G7 x57 x1.Thing t103) ?_
 rintro⟨x227,x228⟩ hm
 apply vb hm<;>intro _ hm
 cases hm
 cases hi215
 have hm:=hk213
 exact hm.rr
 apply vb hm<;>intro _ hm
 cases hm
 cases hi215
 have hm:=hk213
 exact hm.rr
 apply vb hm<;>intro _ hm
 cases hm
 cases hi215
 have hm:=hk213
 exact hm.rr
 apply vb hm<;>intro _ hm
 cases hm
 cases hi215
 have hm:=hk213
 exact hm.rr
 apply vb hm<;>intro _ hm
 cases hm
 cases hi215
 have hm:=hk213
 exact hm.rr
 apply vb hm<;>intro _ hm
 cases hm
 cases hi215
 have hm:=hk213
 exact hm.rr
 apply vb hm<;>intro _ hm
 cases hm
 cases hi215
 have hm:=hk213
 exact hm.rr
 apply vb hm<;>intro _ hm
 cases hm
 cases hi215
 have hm:=hk213
 exact hm.rr
 cases hm
 exact⟨(_,(W (t103+1))),c6.of 7 rfl (tA rfl) ⟨hR rfl,hR rfl,hR rfl,hR rfl,hR rfl,hR rfl,hR rfl,trivial⟩,hi215,Nat.lt_succ_self _⟩
 refine VIf.f h217 ?_
 refine cy hm (G7 x22 x1.Thing t103) ?_
 rintro⟨x238,x239⟩ hm
 refine cy hm (G7 x36 x1.Thing t103) ?_
 rintro⟨x241,x242⟩ hm
 refine cy hm (G7 x44 x1.Thing t103) ?_
 rintro⟨x244,x245⟩ hm
 refine cy hm (G7 x57 x1.Thing t103) ?_
 rintro⟨x247,x248⟩ hm
 apply vb hm<;>intro _ hm
 cases hm
 cases hi215
 have hm:=hk213
 exact hm.rr
 apply vb hm<;>intro _ hm
 cases hm
 cases hi215
 have hm:=hk213
 exact hm.rr
 apply vb hm<;>intro _ hm
 cases hm
 cases hi215
 have hm:=hk213
 exact hm.rr
 apply vb hm<;>intro _ hm
 cases hm
 cases hi215
 have hm:=hk213
 exact hm.rr
 apply vb hm<;>intro _ hm
 cases hm
 cases hi215
 have hm:=hk213
 exact hm.rr
 apply vb hm<;>intro _ hm
 cases hm
 cases hi215
 have hm:=hk213
 exact hm.rr
 apply vb hm<;>intro _ hm
 cases hm
 cases hi215
 have hm:=hk213
 exact hm.rr
 apply vb hm<;>intro _ hm
 cases hm
 cases hi215
 have hm:=hk213
 exact hm.rr
 cases hm
 exact⟨(_,(W (t103+1))),c6.of 7 rfl (tA rfl) ⟨hR rfl,hR rfl,hR rfl,hR rfl,hR rfl,hR rfl,hR rfl,trivial⟩,hi215,Nat.lt_succ_self _⟩
 cases hm
 cases hi215
 have hm:=hk213
 refine cy hm (a4G b_) fun x258 hm=> ?_
 refine cy hm (a2R x57 x1.Thing x258.From x258.Until) ?_
 rintro⟨x260,x261⟩ hm
 apply vb hm<;>intro _ hm
 exact hm.rr
 apply vb hm<;>intro _ hm
 exact hm.rr
 refine cy hm (M3 x57 x1.Thing x1.To x260 (W ((W (x260+x258.Until))-x258.From))) ?_
 rintro⟨x265,x266⟩ hm
 apply vb hm<;>intro _ hm
 exact hm.rr
 apply vb hm<;>intro _ hm
 refine⟨rfl, ?_⟩
 refine cy hm (a0D at_ (W (x260-x258.From))) fun x270 hm=> ?_
 refine cy hm (M3 x57 x1.Thing x1.To (W (x258.From+x270)) (W ((W ((W (x258.From+x270))+x258.Until))-x258.From))) ?_
 rintro⟨x272,x273⟩ hm
 apply vb hm<;>intro _ hm
 refine cy hm (a5Z) fun x276 hm=> ?_
 exact hm.rr
 exact hm.rr
 refine cy hm (a5Z) fun x278 hm=> ?_
 exact hm.rr
end Go.Proofs.YtcedmbakcchkiaaGreatDoor
