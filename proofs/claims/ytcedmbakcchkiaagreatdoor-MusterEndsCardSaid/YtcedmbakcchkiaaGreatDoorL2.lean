/- Functions of the program as pure Lean functions, and that calls do what these say. Printed by a program out of the given form. -/
import Derived.Test.YtcedmbakcchkiaaGreatDoorL1
set_option linter.unusedVariables false
set_option linter.unusedSimpArgs false
namespace Go.Proofs.YtcedmbakcchkiaaGreatDoor
open Go Go.RowKit Go.Sx
set_option maxRecDepth 100000
set_option maxHeartbeats 20000000
def Q0 (x:a8) (night:Int) (value:Int):Option (a8×Int):=
 Option.bind (U3 x) fun e=>
 match e with
 | .inl x8=>
  if(x8 !=0)=true then
   some ((⟨0,(⟨0, [], [], [], [], []⟩:c8),(⟨0, [], [], [], [], []⟩:c8)⟩:a8),x8)
  else
   Option.bind (u6 night) fun x32=>
   if(!x32)=true then
    some ((⟨0,(⟨0, [], [], [], [], []⟩:c8),(⟨0, [], [], [], [], []⟩:c8)⟩:a8),6)
   else
    Option.bind (m9 value) fun x35=>
    if(!x35)=true then
     some ((⟨0,(⟨0, [], [], [], [], []⟩:c8),(⟨0, [], [], [], [], []⟩:c8)⟩:a8),1)
    else
     none
 | .inr (v9,v10,v11,v12,v13,v14,v15,v16,v17,v18,x19,x20,x21)=>
  Option.bind (u6 night) fun x38=>
  if(!x38)=true then
   some ((⟨0,(⟨0, [], [], [], [], []⟩:c8),(⟨0, [], [], [], [], []⟩:c8)⟩:a8),6)
  else
   Option.bind (m9 value) fun x41=>
   if(!x41)=true then
    some ((⟨0,(⟨0, [], [], [], [], []⟩:c8),(⟨0, [], [], [], [], []⟩:c8)⟩:a8),1)
   else
    if(x20==9999)=true then
     some ((⟨0,(⟨0, [], [], [], [], []⟩:c8),(⟨0, [], [], [], [], []⟩:c8)⟩:a8),2)
    else
     Option.bind (a0g night value v10 x19 x20) fun e=>
     match e with
     | .inl (v52,x53)=>
      Option.bind (idx v52 x53) fun e63=>
      Option.bind (idx v52 x53) fun e65=>
      some ((⟨x19,(⟨(W (x20+1)),v9,(v52.set x53.toNat (⟨night,(W ((W (6*(W (x20+1))))+x19)),value,0,0,false⟩:d9)),v11,v12,v13⟩:c8),(⟨x21,v14,v15,v16,v17,v18⟩:c8)⟩:a8),0)
     | .inr _=>
      some ((⟨0,(⟨0, [], [], [], [], []⟩:c8),(⟨0, [], [], [], [], []⟩:c8)⟩:a8),2)
theorem U0 (x:a8) (night:Int) (value:Int) (r:(a8×Int)) (hm:Q0 x night value=some r):l8 Tryz.prog 31 [.agg (a8.c x),DI night,DI value] (fun x=>x= .tup [.agg (a8.c r.1),DI r.2]):=by
 refine zy c6X [99,106,149,210,211,220] [62] [61,88] Tryz.func31 rfl ?_
 obtain⟨ev29,he30,hm⟩:=b9 hm
 refine O9.ofZ pok ⟨[(0, .agg (a8.c x)),(1000000, .agg (a8.c x)),(1000001,DI night),(1000002,DI value),(1000003, .own 0 0),(1000006, .own 1 0),(1000007,DI 0)], [(0, .blk (a8.c x) 30),(1, .blk [DI 0,DI 0,nS,nS,nS,nS,nS,DI 0,nS,nS,nS,nS,nS] 30)],2⟩ (match ev29 with| .inl x8=>(⟨[(0, .agg (a8.c x)),(1,DI night),(2,DI value),(3, .own 0 0),(6, .own 1 0),(7,DI 0),(16, .tup [.v (.pointer none),DI x8])], [(0, .blk (a8.c x) 30),(1, .blk [DI 0,DI 0,nS,nS,nS,nS,nS,DI 0,nS,nS,nS,nS,nS] 30)],2⟩:Sy)| .inr (v9,v10,v11,v12,v13,v14,v15,v16,v17,v18,x19,x20,x21)=>(⟨[(0, .agg (a8.c x)),(1,DI night),(2,DI value),(3, .own 0 0),(6, .own 1 0),(7,DI 0),(16, .tup [.own 13 0,DI 0])], [(0, .blk (a8.c x) 30),(1, .blk [DI 0,DI 0,nS,nS,nS,nS,nS,DI 0,nS,nS,nS,nS,nS] 30),(3,rE 4 v9 d0.c 110),(4,rE 6 v10 d9.c 108),(5,rE 4 v11 c9.c 149),(6,rE 5 v12 c0.c 112),(7,rE 6 v13 d7.c 114),(8,rE 4 v14 d0.c 110),(9,rE 6 v15 d9.c 108),(10,rE 4 v16 c9.c 149),(11,rE 5 v17 c0.c 112),(12,rE 6 v18 d7.c 114),(13, .blk [DI x19,DI x20, .row 3 4, .row 4 6, .row 5 4, .row 6 5, .row 7 6,DI x21, .row 8 4, .row 9 6, .row 10 4, .row 11 5, .row 12 6] 102)],14⟩:Sy):Sy) b7J [99,106,149,210,211,220] [62] [61,88] Tryz.func61 rfl rfl rfl (i4.of 2 rfl (tA rfl) ⟨hR rfl,hR rfl,trivial⟩) (fun sv=> ?_) ?_
 have hm:=he30
 refine cy hm (V1 x) fun x74 hm=> ?_
 apply vb hm<;>intro _ hm
 cases hm
 exact i4.of 2 rfl (tA rfl) ⟨hR rfl,hR rfl,trivial⟩
 refine⟨rfl, ?_⟩
 obtain⟨x77,hx78,hm⟩:=b9 hm
 refine .inr (a7N.mk ⟨_,_,N3 x.Now _ hx78, ?_⟩)
 obtain⟨x79,hx80,hm⟩:=b9 hm
 refine .inr (a7N.mk ⟨_,_,N3 x.Safe _ hx80, ?_⟩)
 cases hm
 exact i4.of 14 rfl (tA rfl) ⟨hR rfl,hR rfl,hW rfl,hW rfl,hW rfl,hW rfl,hW rfl,hW rfl,hW rfl,hW rfl,hW rfl,hW rfl,hR rfl,trivial⟩
 rcases ev29 with x8|⟨v9,v10,v11,v12,v13,v14,v15,v16,v17,v18,x19,x20,x21⟩
 apply vb hm<;>intro _ hm
 cases hm
 exact c8a (⟨_,rfl,⟨⟨_,rfl,⟨c7Y _,c7Y _,c7Z,c7Z,c7Z,c7Z,c7Z,c7Y _,c7Z,c7Z,c7Z,c7Z,c7Z,trivial⟩⟩,c7Y _,trivial⟩⟩)
 refine cy hm (B2 night) fun x32 hm=> ?_
 apply vb hm<;>intro _ hm
 cases hm
 exact c8a (⟨_,rfl,⟨⟨_,rfl,⟨c7Y _,c7Y _,c7Z,c7Z,c7Z,c7Z,c7Z,c7Y _,c7Z,c7Z,c7Z,c7Z,c7Z,trivial⟩⟩,c7Y _,trivial⟩⟩)
 refine cy hm (q0 value) fun x35 hm=> ?_
 apply vb hm<;>intro _ hm
 cases hm
 exact c8a (⟨_,rfl,⟨⟨_,rfl,⟨c7Y _,c7Y _,c7Z,c7Z,c7Z,c7Z,c7Z,c7Y _,c7Z,c7Z,c7Z,c7Z,c7Z,trivial⟩⟩,c7Y _,trivial⟩⟩)
 cases hm
 refine cy hm (B2 night) fun x38 hm=> ?_
 apply vb hm<;>intro _ hm
 cases hm
 exact c8a (⟨_,rfl,⟨⟨_,rfl,⟨c7Y _,c7Y _,c7Z,c7Z,c7Z,c7Z,c7Z,c7Y _,c7Z,c7Z,c7Z,c7Z,c7Z,trivial⟩⟩,c7Y _,trivial⟩⟩)
 refine cy hm (q0 value) fun x41 hm=> ?_
 apply vb hm<;>intro _ hm
 cases hm
 exact c8a (⟨_,rfl,⟨⟨_,rfl,⟨c7Y _,c7Y _,c7Z,c7Z,c7Z,c7Z,c7Z,c7Y _,c7Z,c7Z,c7Z,c7Z,c7Z,trivial⟩⟩,c7Y _,trivial⟩⟩)
 apply vb hm<;>intro _ hm
 cases hm
 exact c8a (⟨_,rfl,⟨⟨_,rfl,⟨c7Y _,c7Y _,c7Z,c7Z,c7Z,c7Z,c7Z,c7Y _,c7Z,c7Z,c7Z,c7Z,c7Z,trivial⟩⟩,c7Y _,trivial⟩⟩)
 refine⟨rfl, ?_⟩
 refine⟨rfl, ?_⟩
 obtain⟨ev61,he62,hm⟩:=b9 hm
 refine O9.ofZ pok ⟨[(0, .row 4 6),(1, .agg [DI night,DI (W ((W (6*(W (x20+1))))+x19)),DI value,DI 0,DI 0,DB false]),(2,DI 12),(3, .fn 89 [] []),(1000000, .agg (a8.c x)),(1000001,DI night),(1000002,DI value),(1000003, .own 0 0),(1000006, .own 1 0),(1000007,DI 0),(1000008, .own 13 0),(1000009,DI 0),(1000010, .own 14 0),(1000019,DB false),(1000024,DB (!x38)),(1000029,DB (!x41)),(1000034,DB (x20==9999))], [(0, .blk (a8.c x) 30),(1, .blk [DI 0,DI 0,nS,nS,nS,nS,nS,DI 0,nS,nS,nS,nS,nS] 30),(3,rE 4 v9 d0.c 110),(4,rE 6 v10 d9.c 108),(5,rE 4 v11 c9.c 149),(6,rE 5 v12 c0.c 112),(7,rE 6 v13 d7.c 114),(8,rE 4 v14 d0.c 110),(9,rE 6 v15 d9.c 108),(10,rE 4 v16 c9.c 149),(11,rE 5 v17 c0.c 112),(12,rE 6 v18 d7.c 114),(13, .blk [DI x19,DI (W (x20+1)), .row 3 4, .row 4 6, .row 5 4, .row 6 5, .row 7 6,DI x21, .row 8 4, .row 9 6, .row 10 4, .row 11 5, .row 12 6] 102),(14, .blk [DI night,DI (W ((W (6*(W (x20+1))))+x19)),DI value,DI 0,DI 0,DB false] 108)],15⟩ (match ev61 with| .inl (v52,x53)=>(⟨[(0, .agg (a8.c x)),(1,DI night),(2,DI value),(3, .own 0 0),(6, .own 1 0),(7,DI 0),(8, .own 13 0),(9,DI 0),(10, .own 14 0),(19,DB false),(24,DB (!x38)),(29,DB (!x41)),(34,DB (x20==9999)),(78, .tup [.row 4 6,DI x53,DB true])], [(0, .blk (a8.c x) 30),(1, .blk [DI 0,DI 0,nS,nS,nS,nS,nS,DI 0,nS,nS,nS,nS,nS] 30),(3,rE 4 v9 d0.c 110),(4,rE 6 v52 d9.c 108),(5,rE 4 v11 c9.c 149),(6,rE 5 v12 c0.c 112),(7,rE 6 v13 d7.c 114),(8,rE 4 v14 d0.c 110),(9,rE 6 v15 d9.c 108),(10,rE 4 v16 c9.c 149),(11,rE 5 v17 c0.c 112),(12,rE 6 v18 d7.c 114),(13, .blk [DI x19,DI (W (x20+1)), .row 3 4, .bad, .row 5 4, .row 6 5, .row 7 6,DI x21, .row 8 4, .row 9 6, .row 10 4, .row 11 5, .row 12 6] 102),(14, .blk [DI night,DI (W ((W (6*(W (x20+1))))+x19)),DI value,DI 0,DI 0,DB false] 108)],15⟩:Sy)| .inr _=>(⟨[(0, .agg (a8.c x)),(1,DI night),(2,DI value),(3, .own 0 0),(6, .own 1 0),(7,DI 0),(8, .own 13 0),(9,DI 0),(10, .own 14 0),(19,DB false),(24,DB (!x38)),(29,DB (!x41)),(34,DB (x20==9999)),(78, .tup [nS,DI 0,DB false])], [(0, .blk (a8.c x) 30),(1, .blk [DI 0,DI 0,nS,nS,nS,nS,nS,DI 0,nS,nS,nS,nS,nS] 30),(3,rE 4 v9 d0.c 110),(4,rE 6 v10 d9.c 108),(5,rE 4 v11 c9.c 149),(6,rE 5 v12 c0.c 112),(7,rE 6 v13 d7.c 114),(8,rE 4 v14 d0.c 110),(9,rE 6 v15 d9.c 108),(10,rE 4 v16 c9.c 149),(11,rE 5 v17 c0.c 112),(12,rE 6 v18 d7.c 114),(13, .blk [DI x19,DI (W (x20+1)), .row 3 4, .row 4 6, .row 5 4, .row 6 5, .row 7 6,DI x21, .row 8 4, .row 9 6, .row 10 4, .row 11 5, .row 12 6] 102),(14, .blk [DI night,DI (W ((W (6*(W (x20+1))))+x19)),DI value,DI 0,DI 0,DB false] 108)],15⟩:Sy):Sy) [] [99,106,149,210,211,220] [62] [61,88] Tryz.func88 rfl rfl rfl (i4.of 15 rfl (tA rfl) ⟨hR rfl,hR rfl,hW rfl,hW rfl,hW rfl,hW rfl,hW rfl,hW rfl,hW rfl,hW rfl,hW rfl,hW rfl,hR rfl,hR rfl,trivial⟩) (fun sv=> ?_) ?_
 have hm:=he62
 refine co hm (a0q v10 ((⟨night,(W ((W (6*(W (x20+1))))+x19)),value,0,0,false⟩:d9))) ?_
 rintro⟨x67,x68⟩ hm
 apply vb hm<;>intro _ hm
 cases hm
 exact i4.of 15 rfl (tA rfl) ⟨hR rfl,hR rfl,hW rfl,hW rfl,hW rfl,hW rfl,hW rfl,hW rfl,hW rfl,hW rfl,hW rfl,hW rfl,⟨_,rfl,⟨c7Y _,c7Y _,c7Y _,c7Y _,c7Y _,c7Y _,c7Y _,c7Y _,c7Y _,c7Y _,c7Y _,c7Y _,trivial⟩⟩,hR rfl,trivial⟩
 apply vb hm<;>intro _ hm
 cases hm
 exact i4.of 15 rfl (tA rfl) ⟨hR rfl,hR rfl,hW rfl,hW rfl,hW rfl,hW rfl,hW rfl,hW rfl,hW rfl,hW rfl,hW rfl,hW rfl,hR rfl,hR rfl,trivial⟩
 refine⟨([(⟨night,(W ((W (6*(W (x20+1))))+x19)),value,0,0,false⟩:d9)]:List d9).flatMap d9.c,([(⟨night,(W ((W (6*(W (x20+1))))+x19)),value,0,0,false⟩:d9)]:List d9).length,⟨rfl,rfl⟩, ?_⟩
 obtain⟨x72,hx73,hm⟩:=b9 hm
 refine .inl (b1D.mk ⟨_,_,_,_,_,_,_,rfl,a2F v10 x67 (([(⟨night,(W ((W (6*(W (x20+1))))+x19)),value,0,0,false⟩:d9)]:List d9)) _ hx73, ?_⟩)
 cases hm
 exact i4.of 15 rfl (tA rfl) ⟨hR rfl,hR rfl,hW rfl,hW rfl,hW rfl,hW rfl,hW rfl,hW rfl,hW rfl,hW rfl,hW rfl,hW rfl,hR rfl,hR rfl,trivial⟩
 rcases ev61 with⟨v52,x53⟩|⟨⟩
 obtain⟨e63,hx64,hm⟩:=b9 hm
 refine⟨E1 hx64, ?_⟩
 obtain⟨e65,hx66,hm⟩:=b9 hm
 refine⟨_,A5 (fun _=>rfl) hx66,_,I5 (y:=(⟨night,(W ((W (6*(W (x20+1))))+x19)),value,0,0,false⟩:d9)) (fun _=>rfl) hx66, ?_⟩
 cases hm
 exact c8a (by first|exact c7Y _|(simp only [a8.c,lD,List.length_set];exact c7Y _))
 cases hm
 exact c8a (⟨_,rfl,⟨⟨_,rfl,⟨c7Y _,c7Y _,c7Z,c7Z,c7Z,c7Z,c7Z,c7Y _,c7Z,c7Z,c7Z,c7Z,c7Z,trivial⟩⟩,c7Y _,trivial⟩⟩)
def a9k:(Bool×Int×Int×Int×(List d0)×(List d9)×(List c9)×(List c0)×(List d7)×Int×(List d0)×(List d9)×(List c9)×(List c0)×(List d7))→Option (Sum (Bool×Int×Int×Int×(List d0)×(List d9)×(List c9)×(List c0)×(List d7)×Int×(List d0)×(List d9)×(List c9)×(List c0)×(List d7)) (Bool×Int×Int×Int×(List d0)×(List d9)×(List c9)×(List c0)×(List d7)×Int×(List d0)×(List d9)×(List c9)×(List c0)×(List d7))):=fun(ok12,d13,v14,v15,v16,v17,v18,v19,v20,v21,v22,v23,v24,v25,v26)=>
 if(decide (d13≤3))=true then
  Option.bind (Q6 (⟨v14,(⟨v15,v16,v17,v18,v19,v20⟩:c8),(⟨v21,v22,v23,v24,v25,v26⟩:c8)⟩:a8) (⟨2,d13,1,4,7,0,0,0,0,0,0⟩:b8)) fun⟨x33,x34⟩=>
  if ok12=true then
   some (.inl ((x34==0),(W (d13+1)),x33.Me,x33.Now.Round,x33.Now.Slots,x33.Now.Bids,x33.Now.Heard,x33.Now.Leases,x33.Now.Loans,x33.Safe.Round,x33.Safe.Slots,x33.Safe.Bids,x33.Safe.Heard,x33.Safe.Leases,x33.Safe.Loans))
  else
   some (.inl (false,(W (d13+1)),x33.Me,x33.Now.Round,x33.Now.Slots,x33.Now.Bids,x33.Now.Heard,x33.Now.Leases,x33.Now.Loans,x33.Safe.Round,x33.Safe.Slots,x33.Safe.Bids,x33.Safe.Heard,x33.Safe.Leases,x33.Safe.Loans))
 else
  some (.inr (ok12,d13,v14,v15,v16,v17,v18,v19,v20,v21,v22,v23,v24,v25,v26))
def a9e:(Int×Int×Int×(List d0)×(List d9)×(List c9)×(List c0)×(List d7)×Int×(List d0)×(List d9)×(List c9)×(List c0)×(List d7))→Option (Sum (Int×Int×Int×(List d0)×(List d9)×(List c9)×(List c0)×(List d7)×Int×(List d0)×(List d9)×(List c9)×(List c0)×(List d7)) (Int×Int×Int×(List d0)×(List d9)×(List c9)×(List c0)×(List d7)×Int×(List d0)×(List d9)×(List c9)×(List c0)×(List d7))):=fun(d64,v65,v66,v67,v68,v69,v70,v71,v72,v73,v74,v75,v76,v77)=>
 if(decide (d64≤3))=true then
  Option.bind (Q6 (⟨v65,(⟨v66,v67,v68,v69,v70,v71⟩:c8),(⟨v72,v73,v74,v75,v76,v77⟩:c8)⟩:a8) (⟨2,d64,1,4,7,0,0,0,0,0,0⟩:b8)) fun⟨x83,x84⟩=>
  some (.inl ((W (d64+1)),x83.Me,x83.Now.Round,x83.Now.Slots,x83.Now.Bids,x83.Now.Heard,x83.Now.Leases,x83.Now.Loans,x83.Safe.Round,x83.Safe.Slots,x83.Safe.Bids,x83.Safe.Heard,x83.Safe.Leases,x83.Safe.Loans))
 else
  some (.inr (d64,v65,v66,v67,v68,v69,v70,v71,v72,v73,v74,v75,v76,v77))
def a9V:Option (a8×Bool):=
 Option.bind (a1k 1) fun⟨x1,x2⟩=>
 Option.bind (Q0 x1 4 77) fun⟨x4,x5⟩=>
 if(x2==0)=true then
  Option.bind (s9 a9k ((x5==0),1,x4.Me,x4.Now.Round,x4.Now.Slots,x4.Now.Bids,x4.Now.Heard,x4.Now.Leases,x4.Now.Loans,x4.Safe.Round,x4.Safe.Slots,x4.Safe.Bids,x4.Safe.Heard,x4.Safe.Leases,x4.Safe.Loans)) fun(ok37,d38,v39,v40,v41,v42,v43,v44,v45,v46,v47,v48,v49,v50,v51)=>
  some ((⟨v39,(⟨v40,v41,v42,v43,v44,v45⟩:c8),(⟨v46,v47,v48,v49,v50,v51⟩:c8)⟩:a8),ok37)
 else
  Option.bind (s9 a9e (1,x4.Me,x4.Now.Round,x4.Now.Slots,x4.Now.Bids,x4.Now.Heard,x4.Now.Leases,x4.Now.Loans,x4.Safe.Round,x4.Safe.Slots,x4.Safe.Bids,x4.Safe.Heard,x4.Safe.Leases,x4.Safe.Loans)) fun(d86,v87,v88,v89,v90,v91,v92,v93,v94,v95,v96,v97,v98,v99)=>
  some ((⟨v87,(⟨v88,v89,v90,v91,v92,v93⟩:c8),(⟨v94,v95,v96,v97,v98,v99⟩:c8)⟩:a8),false)
theorem b8I (r:(a8×Bool)) (hm:a9V=some r):l8 Tryz.prog 68 [] (fun x=>x= .tup [.agg (a8.c r.1),DB r.2]):=by
 refine zn Tryz.func68 rfl ?_
 refine cy hm (a3K 1) ?_
 rintro⟨x1,x2⟩ hm
 refine cy hm (U0 x1 4 77) ?_
 rintro⟨x4,x5⟩ hm
 apply vb hm<;>intro _ hm
 obtain⟨ev52,he,hk53⟩:=b9 hm
 refine c8b a9k (fun(ok12,d13,v14,v15,v16,v17,v18,v19,v20,v21,v22,v23,v24,v25,v26)=>⟨[(0, .own 0 0),(1,DB false),(2, .own 1 0),(3,DI x2),(4, .own 2 0),(5,DI x5),(6,DB ok12),(7,DI d13)], [(0, .blk [DI 0,DI 0,nS,nS,nS,nS,nS,DI 0,nS,nS,nS,nS,nS] 30),(1, .blk (a8.c x1) 30),(2, .blk [DI v14,DI v15,lD 4 v16 d0.c,lD 6 v17 d9.c,lD 4 v18 c9.c,lD 5 v19 c0.c,lD 6 v20 d7.c,DI v21,lD 4 v22 d0.c,lD 6 v23 d9.c,lD 4 v24 c9.c,lD 5 v25 c0.c,lD 6 v26 d7.c] 30)],3⟩) ((x5==0),1,x4.Me,x4.Now.Round,x4.Now.Slots,x4.Now.Bids,x4.Now.Heard,x4.Now.Leases,x4.Now.Loans,x4.Safe.Round,x4.Safe.Slots,x4.Safe.Bids,x4.Safe.Heard,x4.Safe.Leases,x4.Safe.Loans) (i4.of 3 rfl (tA rfl) ⟨hR rfl,hR rfl,hR rfl,trivial⟩) he ?_
 rintro fu54 ⟨ok12,d13,v14,v15,v16,v17,v18,v19,v20,v21,v22,v23,v24,v25,v26⟩ b hm hi55
 apply vb hm<;>intro _ hm
 refine cy hm (Y2 ((⟨v14,(⟨v15,v16,v17,v18,v19,v20⟩:c8),(⟨v21,v22,v23,v24,v25,v26⟩:c8)⟩:a8)) ((⟨2,d13,1,4,7,0,0,0,0,0,0⟩:b8))) ?_
 rintro⟨x57,x58⟩ hm
 apply vb hm<;>intro _ hm
 cases hm
 exact⟨(_,((x58==0),(W (d13+1)),x57.Me,x57.Now.Round,x57.Now.Slots,x57.Now.Bids,x57.Now.Heard,x57.Now.Leases,x57.Now.Loans,x57.Safe.Round,x57.Safe.Slots,x57.Safe.Bids,x57.Safe.Heard,x57.Safe.Leases,x57.Safe.Loans)),i4.of 3 rfl (tA rfl) ⟨hR rfl,hR rfl,hR rfl,trivial⟩,hi55,Nat.lt_succ_self _⟩
 cases hm
 exact⟨(_,(false,(W (d13+1)),x57.Me,x57.Now.Round,x57.Now.Slots,x57.Now.Bids,x57.Now.Heard,x57.Now.Leases,x57.Now.Loans,x57.Safe.Round,x57.Safe.Slots,x57.Safe.Bids,x57.Safe.Heard,x57.Safe.Leases,x57.Safe.Loans)),i4.of 3 rfl (tA rfl) ⟨hR rfl,hR rfl,hR rfl,trivial⟩,hi55,Nat.lt_succ_self _⟩
 cases hm
 cases hi55
 have hm:=hk53
 cases hm
 exact c8a (c7Y _)
 obtain⟨ev100,he,hk101⟩:=b9 hm
 refine c8b a9e (fun(d64,v65,v66,v67,v68,v69,v70,v71,v72,v73,v74,v75,v76,v77)=>⟨[(0, .own 0 0),(1,DB false),(2, .own 1 0),(3,DI x2),(4, .own 2 0),(5,DI x5),(6,DB false),(7,DI d64)], [(0, .blk [DI 0,DI 0,nS,nS,nS,nS,nS,DI 0,nS,nS,nS,nS,nS] 30),(1, .blk (a8.c x1) 30),(2, .blk [DI v65,DI v66,lD 4 v67 d0.c,lD 6 v68 d9.c,lD 4 v69 c9.c,lD 5 v70 c0.c,lD 6 v71 d7.c,DI v72,lD 4 v73 d0.c,lD 6 v74 d9.c,lD 4 v75 c9.c,lD 5 v76 c0.c,lD 6 v77 d7.c] 30)],3⟩) (1,x4.Me,x4.Now.Round,x4.Now.Slots,x4.Now.Bids,x4.Now.Heard,x4.Now.Leases,x4.Now.Loans,x4.Safe.Round,x4.Safe.Slots,x4.Safe.Bids,x4.Safe.Heard,x4.Safe.Leases,x4.Safe.Loans) (i4.of 3 rfl (tA rfl) ⟨hR rfl,hR rfl,hR rfl,trivial⟩) he ?_
 rintro fu102 ⟨d64,v65,v66,v67,v68,v69,v70,v71,v72,v73,v74,v75,v76,v77⟩ b hm hi103
 apply vb hm<;>intro _ hm
 refine cy hm (Y2 ((⟨v65,(⟨v66,v67,v68,v69,v70,v71⟩:c8),(⟨v72,v73,v74,v75,v76,v77⟩:c8)⟩:a8)) ((⟨2,d64,1,4,7,0,0,0,0,0,0⟩:b8))) ?_
 rintro⟨x105,x106⟩ hm
 cases hm
 exact⟨(_,((W (d64+1)),x105.Me,x105.Now.Round,x105.Now.Slots,x105.Now.Bids,x105.Now.Heard,x105.Now.Leases,x105.Now.Loans,x105.Safe.Round,x105.Safe.Slots,x105.Safe.Bids,x105.Safe.Heard,x105.Safe.Leases,x105.Safe.Loans)),i4.of 3 rfl (tA rfl) ⟨hR rfl,hR rfl,hR rfl,trivial⟩,hi103,Nat.lt_succ_self _⟩
 cases hm
 cases hi103
 have hm:=hk101
 cases hm
 exact c8a (c7Y _)
def a6u (n:Int):Option ByteArray:=gd (0≤n∧n<100) (some (c3J n))
theorem b1l (n:Int) (r:ByteArray) (hm:a6u n=some r):l8 Tryz.prog 170 [DI n] (fun x=>x= .v (.string r)):=by
 obtain⟨hg,hm⟩:=n9 hm
 cases hm
 exact b9j c1P n hg
def a6c (l:(List Int)):(ByteArray×Int)→Option (Sum (ByteArray×Int) (ByteArray×Int)):=fun(word6,v7)=>
 if(decide (v7<(l.length:Int)))=true then
  Option.bind (idx l v7) fun e14=>
  Option.bind (a6u e14) fun x16=>
  gd ((((⟨#[32]⟩:ByteArray).size+x16.size:Nat):Int)≤9223372036854775807)<|
  gd (((word6.size+((⟨#[32]⟩:ByteArray)++x16).size:Nat):Int)≤9223372036854775807)<|
  some (.inl ((word6++((⟨#[32]⟩:ByteArray)++x16)),(W (v7+1))))
 else
  some (.inr (word6,v7))
def a0A (word:ByteArray) (l:(List Int)):Option ByteArray:=
 Option.bind (s9 (a6c l) (word,0)) fun(word18,v19)=>
 gd (((word18.size+(⟨#[10]⟩:ByteArray).size:Nat):Int)≤9223372036854775807)<|
 some (word18++(⟨#[10]⟩:ByteArray))
theorem a1j (word:ByteArray) (l:(List Int)) (r:ByteArray) (hm:a0A word l=some r):l8 Tryz.prog 120 [.v (.string word),lD 1 l cI] (fun x=>x= .v (.string r)):=by
 refine zn Tryz.func120 rfl ?_
 obtain⟨ev20,he,hk21⟩:=b9 hm
 refine c8b (a6c l) (fun(word6,v7)=>⟨[(0, .v (.string word6)),(1,lD 1 l cI),(4, .v (.string (⟨#[]⟩:ByteArray))),(7,lD 1 l cI),(8,DI (l.length:Int)),(9,DI v7)], [],0⟩) (word,0) (i4.of 0 rfl (tA rfl) trivial) he ?_
 rintro fu22 ⟨word6,v7⟩ b hm hi23
 apply vb hm<;>intro _ hm
 obtain⟨e25,hx26,hm⟩:=b9 hm
 refine⟨_,q8 (fun _=>rfl) hx26, ?_⟩
 refine cy hm (b1l e25) fun x27 hm=> ?_
 obtain⟨hg,hm⟩:=n9 hm
 refine⟨hg, ?_⟩
 obtain⟨hg,hm⟩:=n9 hm
 refine⟨hg, ?_⟩
 cases hm
 exact⟨(_,((word6++((⟨#[32]⟩:ByteArray)++x27)),(W (v7+1)))),i4.of 0 rfl (tA rfl) trivial,hi23,Nat.lt_succ_self _⟩
 cases hm
 cases hi23
 have hm:=hk21
 obtain⟨hg,hm⟩:=n9 hm
 refine⟨hg, ?_⟩
 cases hm
 exact c8a (c7Y _)
def a5V (is:Bool):Option Int:=
 if is=true then
  some 1
 else
  some 0
theorem a8D (is:Bool) (r:Int) (hm:a5V is=some r):l8 Tryz.prog 121 [DB is] (fun x=>x=DI r):=by
 refine zn Tryz.func121 rfl ?_
 apply vb hm<;>intro _ hm
 exact hm.rr
 exact hm.rr
def a4H (s:c8):(Bool×Int)→Option (Sum (Bool×Int) (Bool×Int)):=fun(some_3,v4)=>
 if(decide (v4<6))=true then
  if some_3=true then
   some (.inl (true,(W (v4+1))))
  else
   Option.bind (U2 v4 s) fun x11=>
   some (.inl (x11,(W (v4+1))))
 else
  some (.inr (some_3,v4))
def a4E (s:c8):(ByteArray×Int)→Option (Sum (ByteArray×Int) (ByteArray×Int)):=fun(out23,v24)=>
 if(decide (v24<(s.Slots.length:Int)))=true then
  Option.bind (idx s.Slots v24) fun e31=>
  Option.bind (a0A (⟨#[115,108,111,116]⟩:ByteArray) ([e31.Night,e31.Promised,e31.Ballot,e31.Value]:List Int)) fun x33=>
  gd (((out23.size+x33.size:Nat):Int)≤9223372036854775807)<|
  some (.inl ((out23++x33),(W (v24+1))))
 else
  some (.inr (out23,v24))
def a4N (s:c8):(ByteArray×Int)→Option (Sum (ByteArray×Int) (ByteArray×Int)):=fun(out44,v45)=>
 if(decide (v45<(s.Bids.length:Int)))=true then
  Option.bind (idx s.Bids v45) fun e54=>
  Option.bind (a5V e54.Asked) fun x56=>
  Option.bind (a0A (⟨#[98,105,100]⟩:ByteArray) ([e54.Night,e54.Ballot,e54.Value,e54.Best,e54.Mask,x56]:List Int)) fun x58=>
  gd (((out44.size+x58.size:Nat):Int)≤9223372036854775807)<|
  some (.inl ((out44++x58),(W (v45+1))))
 else
  some (.inr (out44,v45))
def a4O (s:c8):(ByteArray×Int)→Option (Sum (ByteArray×Int) (ByteArray×Int)):=fun(out67,v68)=>
 if(decide (v68<(s.Heard.length:Int)))=true then
  Option.bind (idx s.Heard v68) fun e75=>
  Option.bind (a0A (⟨#[104,101,97,114,100]⟩:ByteArray) ([e75.Night,e75.Ballot,e75.Value,e75.Mask]:List Int)) fun x77=>
  gd (((out67.size+x77.size:Nat):Int)≤9223372036854775807)<|
  some (.inl ((out67++x77),(W (v68+1))))
 else
  some (.inr (out67,v68))
def a4M (s:c8):(ByteArray×Int)→Option (Sum (ByteArray×Int) (ByteArray×Int)):=fun(out86,v87)=>
 if(decide (v87<(s.Leases.length:Int)))=true then
  Option.bind (idx s.Leases v87) fun e94=>
  Option.bind (a0A (⟨#[108,101,97,115,101]⟩:ByteArray) ([e94.No,e94.Thing,e94.To,e94.From,e94.Until]:List Int)) fun x96=>
  gd (((out86.size+x96.size:Nat):Int)≤9223372036854775807)<|
  some (.inl ((out86++x96),(W (v87+1))))
 else
  some (.inr (out86,v87))
def a4I (s:c8):(ByteArray×Int)→Option (Sum (ByteArray×Int) (ByteArray×Int)):=fun(out107,v108)=>
 if(decide (v108<(s.Loans.length:Int)))=true then
  Option.bind (idx s.Loans v108) fun e117=>
  Option.bind (a5V e117.Back) fun x119=>
  Option.bind (a0A (⟨#[108,111,97,110]⟩:ByteArray) ([e117.Owner,e117.No,e117.Thing,e117.From,e117.Until,x119]:List Int)) fun x121=>
  gd (((out107.size+x121.size:Nat):Int)≤9223372036854775807)<|
  some (.inl ((out107++x121),(W (v108+1))))
 else
  some (.inr (out107,v108))
def a2x (s:c8):Option (ByteArray×Int):=
 Option.bind (s9 (a4H s) (false,0)) fun(some_13,v14)=>
 if(!some_13)=true then
  some ((⟨#[]⟩:ByteArray),90)
 else
  Option.bind (a0A (⟨#[114,111,117,110,100]⟩:ByteArray) ([s.Round]:List Int)) fun x16=>
  Option.bind (s9 (a4E s) (x16,0)) fun(out35,v36)=>
  Option.bind (s9 (a4N s) (out35,0)) fun(out60,v61)=>
  Option.bind (s9 (a4O s) (out60,0)) fun(out79,v80)=>
  Option.bind (s9 (a4M s) (out79,0)) fun(out98,v99)=>
  Option.bind (s9 (a4I s) (out98,0)) fun(out123,v124)=>
  some (out123,0)
theorem a6U (s:c8) (r:(ByteArray×Int)) (hm:a2x s=some r):l8 Tryz.prog 69 [.agg (c8.c s)] (fun x=>x= .tup [.v (.string r.1),DI r.2]):=by
 refine zy c6P [] [] [] Tryz.func69 rfl ?_
 obtain⟨ev1030,he,hk1031⟩:=b9 hm
 refine c8b (a4H s) (fun(some_3,v4)=>⟨[(0, .agg (c8.c s)),(1, .own 0 0),(2, .v (.string (⟨#[]⟩:ByteArray))),(3,DI 0),(4,DB some_3),(17,DI v4)], [(0, .blk (c8.c s) 28)],1⟩) (false,0) (i4.of 1 rfl (tA rfl) ⟨hR rfl,trivial⟩) he ?_
 rintro fu1032 ⟨some_3,v4⟩ b hm hi1033
 apply vb hm<;>intro _ hm
 apply vb hm<;>intro _ hm
 cases hm
 exact⟨(_,(true,(W (v4+1)))),i4.of 1 rfl (tA rfl) ⟨hR rfl,trivial⟩,hi1033,Nat.lt_succ_self _⟩
 refine cy hm (a2U v4 s) fun x1036 hm=> ?_
 cases hm
 exact⟨(_,(x1036,(W (v4+1)))),i4.of 1 rfl (tA rfl) ⟨hR rfl,trivial⟩,hi1033,Nat.lt_succ_self _⟩
 cases hm
 cases hi1033
 have hm:=hk1031
 apply vb hm<;>intro _ hm
 cases hm
 exact c8a (c7Y _)
 refine⟨([s.Round]:List Int).flatMap cI,([s.Round]:List Int).length,⟨rfl,rfl⟩, ?_⟩
 refine co hm (a1j ((⟨#[114,111,117,110,100]⟩:ByteArray)) (([s.Round]:List Int))) fun x1039 hm=> ?_
 obtain⟨ev1552,he,hk1553⟩:=b9 hm
 refine c8b (a4E s) (fun(out1046,v1047)=>⟨[(0, .agg (c8.c s)),(1, .own 0 0),(2, .v (.string (⟨#[]⟩:ByteArray))),(3,DI 0),(4,DB some_3),(6, .v (.string out1046)),(17,DI v4),(18,DB (decide (v4<6))),(28,DB (!some_3)),(34,lD 4 s.Slots d0.c),(35,DI (s.Slots.length:Int)),(36,DI v1047)], [(0, .blk (c8.c s) 28),(1,rE 1 ([s.Round]:List Int) cI 3)],2⟩) (x1039,0) (i4.of 2 rfl (tA rfl) ⟨hR rfl,hW rfl,trivial⟩) he ?_
 rintro fu1554 ⟨out1046,v1047⟩ b hm hi1555
 apply vb hm<;>intro _ hm
 obtain⟨e1557,hx1558,hm⟩:=b9 hm
 refine⟨_,q8 (fun _=>rfl) hx1558, ?_⟩
 refine⟨([e1557.Night,e1557.Promised,e1557.Ballot,e1557.Value]:List Int).flatMap cI,([e1557.Night,e1557.Promised,e1557.Ballot,e1557.Value]:List Int).length,⟨rfl,rfl⟩, ?_⟩
 refine co hm (a1j ((⟨#[115,108,111,116]⟩:ByteArray)) (([e1557.Night,e1557.Promised,e1557.Ballot,e1557.Value]:List Int))) fun x1559 hm=> ?_
 obtain⟨hg,hm⟩:=n9 hm
 refine⟨hg, ?_⟩
 cases hm
 exact⟨(_,((out1046++x1559),(W (v1047+1)))),i4.of 2 rfl (tA rfl) ⟨hR rfl,hW rfl,trivial⟩,hi1555,Nat.lt_succ_self _⟩
 cases hm
 cases hi1555
 have hm:=hk1553
 obtain⟨ev1814,he,hk1815⟩:=b9 hm
 refine c8b (a4N s) (fun(out1568,v1569)=>⟨[(0, .agg (c8.c s)),(1, .own 0 0),(2, .v (.string (⟨#[]⟩:ByteArray))),(3,DI 0),(4,DB some_3),(6, .v (.string out1568)),(17,DI v4),(18,DB (decide (v4<6))),(28,DB (!some_3)),(34,lD 4 s.Slots d0.c),(35,DI (s.Slots.length:Int)),(36,DI v1047),(37,DB (decide (v1047<(s.Slots.length:Int)))),(54,lD 6 s.Bids d9.c),(55,DI (s.Bids.length:Int)),(56,DI v1569)], [(0, .blk (c8.c s) 28),(1,rE 1 ([s.Round]:List Int) cI 3)],2⟩) (out1046,0) (i4.of 2 rfl (tA rfl) ⟨hR rfl,hW rfl,trivial⟩) he ?_
 rintro fu1816 ⟨out1568,v1569⟩ b hm hi1817
 apply vb hm<;>intro _ hm
 obtain⟨e1819,hx1820,hm⟩:=b9 hm
 refine⟨_,q8 (fun _=>rfl) hx1820, ?_⟩
 refine⟨rfl, ?_⟩
 refine cy hm (a8D e1819.Asked) fun x1821 hm=> ?_
 refine⟨([e1819.Night,e1819.Ballot,e1819.Value,e1819.Best,e1819.Mask,x1821]:List Int).flatMap cI,([e1819.Night,e1819.Ballot,e1819.Value,e1819.Best,e1819.Mask,x1821]:List Int).length,⟨rfl,rfl⟩, ?_⟩
 refine co hm (a1j ((⟨#[98,105,100]⟩:ByteArray)) (([e1819.Night,e1819.Ballot,e1819.Value,e1819.Best,e1819.Mask,x1821]:List Int))) fun x1823 hm=> ?_
 obtain⟨hg,hm⟩:=n9 hm
 refine⟨hg, ?_⟩
 cases hm
 exact⟨(_,((out1568++x1823),(W (v1569+1)))),i4.of 2 rfl (tA rfl) ⟨hR rfl,hW rfl,trivial⟩,hi1817,Nat.lt_succ_self _⟩
 cases hm
 cases hi1817
 have hm:=hk1815
 obtain⟨ev1944,he,hk1945⟩:=b9 hm
 refine c8b (a4O s) (fun(out1830,v1831)=>⟨[(0, .agg (c8.c s)),(1, .own 0 0),(2, .v (.string (⟨#[]⟩:ByteArray))),(3,DI 0),(4,DB some_3),(6, .v (.string out1830)),(17,DI v4),(18,DB (decide (v4<6))),(28,DB (!some_3)),(34,lD 4 s.Slots d0.c),(35,DI (s.Slots.length:Int)),(36,DI v1047),(37,DB (decide (v1047<(s.Slots.length:Int)))),(54,lD 6 s.Bids d9.c),(55,DI (s.Bids.length:Int)),(56,DI v1569),(57,DB (decide (v1569<(s.Bids.length:Int)))),(79,lD 4 s.Heard c9.c),(80,DI (s.Heard.length:Int)),(81,DI v1831)], [(0, .blk (c8.c s) 28),(1,rE 1 ([s.Round]:List Int) cI 3)],2⟩) (out1568,0) (i4.of 2 rfl (tA rfl) ⟨hR rfl,hW rfl,trivial⟩) he ?_
 rintro fu1946 ⟨out1830,v1831⟩ b hm hi1947
 apply vb hm<;>intro _ hm
 obtain⟨e1949,hx1950,hm⟩:=b9 hm
 refine⟨_,q8 (fun _=>rfl) hx1950, ?_⟩
 refine⟨([e1949.Night,e1949.Ballot,e1949.Value,e1949.Mask]:List Int).flatMap cI,([e1949.Night,e1949.Ballot,e1949.Value,e1949.Mask]:List Int).length,⟨rfl,rfl⟩, ?_⟩
 refine co hm (a1j ((⟨#[104,101,97,114,100]⟩:ByteArray)) (([e1949.Night,e1949.Ballot,e1949.Value,e1949.Mask]:List Int))) fun x1951 hm=> ?_
 obtain⟨hg,hm⟩:=n9 hm
 refine⟨hg, ?_⟩
 cases hm
 exact⟨(_,((out1830++x1951),(W (v1831+1)))),i4.of 2 rfl (tA rfl) ⟨hR rfl,hW rfl,trivial⟩,hi1947,Nat.lt_succ_self _⟩
 cases hm
 cases hi1947
 have hm:=hk1945
 obtain⟨ev2008,he,hk2009⟩:=b9 hm
 refine c8b (a4M s) (fun(out1958,v1959)=>⟨[(0, .agg (c8.c s)),(1, .own 0 0),(2, .v (.string (⟨#[]⟩:ByteArray))),(3,DI 0),(4,DB some_3),(6, .v (.string out1958)),(17,DI v4),(18,DB (decide (v4<6))),(28,DB (!some_3)),(34,lD 4 s.Slots d0.c),(35,DI (s.Slots.length:Int)),(36,DI v1047),(37,DB (decide (v1047<(s.Slots.length:Int)))),(54,lD 6 s.Bids d9.c),(55,DI (s.Bids.length:Int)),(56,DI v1569),(57,DB (decide (v1569<(s.Bids.length:Int)))),(79,lD 4 s.Heard c9.c),(80,DI (s.Heard.length:Int)),(81,DI v1831),(82,DB (decide (v1831<(s.Heard.length:Int)))),(99,lD 5 s.Leases c0.c),(100,DI (s.Leases.length:Int)),(101,DI v1959)], [(0, .blk (c8.c s) 28),(1,rE 1 ([s.Round]:List Int) cI 3)],2⟩) (out1830,0) (i4.of 2 rfl (tA rfl) ⟨hR rfl,hW rfl,trivial⟩) he ?_
 rintro fu2010 ⟨out1958,v1959⟩ b hm hi2011
 apply vb hm<;>intro _ hm
 obtain⟨e2013,hx2014,hm⟩:=b9 hm
 refine⟨_,q8 (fun _=>rfl) hx2014, ?_⟩
 refine⟨([e2013.No,e2013.Thing,e2013.To,e2013.From,e2013.Until]:List Int).flatMap cI,([e2013.No,e2013.Thing,e2013.To,e2013.From,e2013.Until]:List Int).length,⟨rfl,rfl⟩, ?_⟩
 refine co hm (a1j ((⟨#[108,101,97,115,101]⟩:ByteArray)) (([e2013.No,e2013.Thing,e2013.To,e2013.From,e2013.Until]:List Int))) fun x2015 hm=> ?_
 obtain⟨hg,hm⟩:=n9 hm
 refine⟨hg, ?_⟩
 cases hm
 exact⟨(_,((out1958++x2015),(W (v1959+1)))),i4.of 2 rfl (tA rfl) ⟨hR rfl,hW rfl,trivial⟩,hi2011,Nat.lt_succ_self _⟩
 cases hm
 cases hi2011
 have hm:=hk2009
 obtain⟨ev2042,he,hk2043⟩:=b9 hm
 refine c8b (a4I s) (fun(out2024,v2025)=>⟨[(0, .agg (c8.c s)),(1, .own 0 0),(2, .v (.string (⟨#[]⟩:ByteArray))),(3,DI 0),(4,DB some_3),(6, .v (.string out2024)),(17,DI v4),(18,DB (decide (v4<6))),(28,DB (!some_3)),(34,lD 4 s.Slots d0.c),(35,DI (s.Slots.length:Int)),(36,DI v1047),(37,DB (decide (v1047<(s.Slots.length:Int)))),(54,lD 6 s.Bids d9.c),(55,DI (s.Bids.length:Int)),(56,DI v1569),(57,DB (decide (v1569<(s.Bids.length:Int)))),(79,lD 4 s.Heard c9.c),(80,DI (s.Heard.length:Int)),(81,DI v1831),(82,DB (decide (v1831<(s.Heard.length:Int)))),(99,lD 5 s.Leases c0.c),(100,DI (s.Leases.length:Int)),(101,DI v1959),(102,DB (decide (v1959<(s.Leases.length:Int)))),(121,lD 6 s.Loans d7.c),(122,DI (s.Loans.length:Int)),(123,DI v2025)], [(0, .blk (c8.c s) 28),(1,rE 1 ([s.Round]:List Int) cI 3)],2⟩) (out1958,0) (i4.of 2 rfl (tA rfl) ⟨hR rfl,hW rfl,trivial⟩) he ?_
 rintro fu2044 ⟨out2024,v2025⟩ b hm hi2045
 apply vb hm<;>intro _ hm
 obtain⟨e2047,hx2048,hm⟩:=b9 hm
 refine⟨_,q8 (fun _=>rfl) hx2048, ?_⟩
 refine⟨rfl, ?_⟩
 refine cy hm (a8D e2047.Back) fun x2049 hm=> ?_
 refine⟨([e2047.Owner,e2047.No,e2047.Thing,e2047.From,e2047.Until,x2049]:List Int).flatMap cI,([e2047.Owner,e2047.No,e2047.Thing,e2047.From,e2047.Until,x2049]:List Int).length,⟨rfl,rfl⟩, ?_⟩
 refine co hm (a1j ((⟨#[108,111,97,110]⟩:ByteArray)) (([e2047.Owner,e2047.No,e2047.Thing,e2047.From,e2047.Until,x2049]:List Int))) fun x2051 hm=> ?_
 obtain⟨hg,hm⟩:=n9 hm
 refine⟨hg, ?_⟩
 cases hm
 exact⟨(_,((out2024++x2051),(W (v2025+1)))),i4.of 2 rfl (tA rfl) ⟨hR rfl,hW rfl,trivial⟩,hi2045,Nat.lt_succ_self _⟩
 cases hm
 cases hi2045
 have hm:=hk2043
 cases hm
 exact c8a (c7Y _)
def a4u:Option Bool:=
 Option.bind (a9V) fun⟨x1,x2⟩=>
 Option.bind (Q6 x1 (⟨2,5,1,4,7,0,0,0,0,0,0⟩:b8)) fun⟨x4,x5⟩=>
 Option.bind (R1 x4) fun⟨x7,x8⟩=>
 Option.bind (U7 x7 2) fun⟨x10,x11⟩=>
 if(!x2)=true then
  some false
 else
  if(x5 !=0)=true then
   some false
  else
   if(x8 !=0)=true then
    some false
   else
    if(x11 !=0)=true then
     some false
    else
     if((x1.Now.Bids.length:Int) !=1)=true then
      some false
     else
      if((x4.Now.Bids.length:Int) !=1)=true then
       some false
      else
       Option.bind (idx x1.Now.Bids 0) fun e19=>
       if((e19.Night==4)&&((e19.Ballot==7)&&((e19.Value==77)&&((e19.Best==0)&&((e19.Mask==14)&&(e19.Asked==false))))))=true then
        Option.bind (idx x4.Now.Bids 0) fun e22=>
        Option.bind (a1M x10 ([(⟨3,1,2,4,7,0,77,0,0,0,0⟩:b8)]:List b8)) fun x24=>
        Option.bind (a1k 2) fun⟨x26,x27⟩=>
        Option.bind (O7 x26 8 0 100 200) fun⟨x29,x30⟩=>
        Option.bind (a0s x29 8 150) fun⟨x32,x33⟩=>
        Option.bind (a0s x29 8 200) fun⟨x35,x36⟩=>
        Option.bind (O7 x29 8 1 150 250) fun⟨x38,x39⟩=>
        Option.bind (a1E x29 8 150 250) fun⟨x41,x42⟩=>
        Option.bind (a2x x1.Now) fun⟨x44,x45⟩=>
        if(x27==0)=true then
         if(x30==0)=true then
          if(x33==0)=true then
           if(x36==0)=true then
            if(x39==93)=true then
             if(x42==0)=true then
              if((e22.Night==4)&&((e22.Ballot==7)&&((e22.Value==77)&&((e22.Best==0)&&((e22.Mask==46)&&(e22.Asked==true))))))=true then
               if x24=true then
                if(x45==0)=true then
                 if(!x32)=true then
                  if x35=true then
                   if(x41==200)=true then
                    some (x44.toList==(⟨#[114,111,117,110,100,32,49,10,98,105,100,32,52,32,55,32,55,55,32,48,32,49,52,32,48,10]⟩:ByteArray).toList)
                   else
                    some false
                  else
                   some false
                 else
                  some false
                else
                 some false
               else
                some false
              else
               some false
             else
              if((e22.Night==4)&&((e22.Ballot==7)&&((e22.Value==77)&&((e22.Best==0)&&((e22.Mask==46)&&(e22.Asked==true))))))=true then
               if x24=true then
                some false
               else
                some false
              else
               some false
            else
             if((e22.Night==4)&&((e22.Ballot==7)&&((e22.Value==77)&&((e22.Best==0)&&((e22.Mask==46)&&(e22.Asked==true))))))=true then
              if x24=true then
               some false
              else
               some false
             else
              some false
           else
            if((e22.Night==4)&&((e22.Ballot==7)&&((e22.Value==77)&&((e22.Best==0)&&((e22.Mask==46)&&(e22.Asked==true))))))=true then
             if x24=true then
              some false
             else
              some false
            else
             some false
          else
           if((e22.Night==4)&&((e22.Ballot==7)&&((e22.Value==77)&&((e22.Best==0)&&((e22.Mask==46)&&(e22.Asked==true))))))=true then
            if x24=true then
             some false
            else
             some false
           else
            some false
         else
          if((e22.Night==4)&&((e22.Ballot==7)&&((e22.Value==77)&&((e22.Best==0)&&((e22.Mask==46)&&(e22.Asked==true))))))=true then
           if x24=true then
            some false
           else
            some false
          else
           some false
        else
         if((e22.Night==4)&&((e22.Ballot==7)&&((e22.Value==77)&&((e22.Best==0)&&((e22.Mask==46)&&(e22.Asked==true))))))=true then
          if x24=true then
           some false
          else
           some false
         else
          some false
       else
        Option.bind (a1M x10 ([(⟨3,1,2,4,7,0,77,0,0,0,0⟩:b8)]:List b8)) fun x71=>
        Option.bind (a1k 2) fun⟨x73,x74⟩=>
        Option.bind (O7 x73 8 0 100 200) fun⟨x76,x77⟩=>
        Option.bind (a0s x76 8 150) fun⟨x79,x80⟩=>
        Option.bind (a0s x76 8 200) fun⟨x82,x83⟩=>
        Option.bind (O7 x76 8 1 150 250) fun⟨x85,x86⟩=>
        Option.bind (a1E x76 8 150 250) fun⟨x88,x89⟩=>
        Option.bind (a2x x1.Now) fun⟨x91,x92⟩=>
        if(x74==0)=true then
         if(x77==0)=true then
          if(x80==0)=true then
           if(x83==0)=true then
            if(x86==93)=true then
             if(x89==0)=true then
              some false
             else
              some false
            else
             some false
           else
            some false
          else
           some false
         else
          some false
        else
         some false
theorem a3b (r:Bool) (hm:a4u=some r):l8 Tryz.prog 20 [] (fun x=>x=DB r):=by
 refine zn Tryz.func20 rfl ?_
 refine cy hm (b8I) ?_
 rintro⟨x1,x2⟩ hm
 refine cy hm (Y2 x1 ((⟨2,5,1,4,7,0,0,0,0,0,0⟩:b8))) ?_
 rintro⟨x4,x5⟩ hm
 refine cy hm (Z4 x4) ?_
 rintro⟨x7,x8⟩ hm
 refine cy hm (a1c x7 2) ?_
 rintro⟨x10,x11⟩ hm
 apply vb hm<;>intro _ hm
 exact hm.rr
 apply vb hm<;>intro _ hm
 exact hm.rr
 apply vb hm<;>intro _ hm
 exact hm.rr
 apply vb hm<;>intro _ hm
 exact hm.rr
 apply vb hm<;>intro _ hm
 exact hm.rr
 apply vb hm<;>intro _ hm
 exact hm.rr
 obtain⟨e19,hx20,hm⟩:=b9 hm
 refine⟨_,q8 (fun _=>rfl) hx20, ?_⟩
 apply vb hm<;>intro _ hm
 obtain⟨e22,hx23,hm⟩:=b9 hm
 refine⟨_,q8 (fun _=>rfl) hx23, ?_⟩
 refine⟨([(⟨3,1,2,4,7,0,77,0,0,0,0⟩:b8)]:List b8).flatMap b8.c,([(⟨3,1,2,4,7,0,77,0,0,0,0⟩:b8)]:List b8).length,⟨rfl,rfl⟩, ?_⟩
 refine co hm (a6b x10 (([(⟨3,1,2,4,7,0,77,0,0,0,0⟩:b8)]:List b8))) fun x24 hm=> ?_
 refine cy hm (a3K 2) ?_
 rintro⟨x26,x27⟩ hm
 refine cy hm (a1y x26 8 0 100 200) ?_
 rintro⟨x29,x30⟩ hm
 refine cy hm (a3J x29 8 150) ?_
 rintro⟨x32,x33⟩ hm
 refine cy hm (a3J x29 8 200) ?_
 rintro⟨x35,x36⟩ hm
 refine cy hm (a1y x29 8 1 150 250) ?_
 rintro⟨x38,x39⟩ hm
 refine cy hm (a7G x29 8 150 250) ?_
 rintro⟨x41,x42⟩ hm
 refine cy hm (a6U x1.Now) ?_
 rintro⟨x44,x45⟩ hm
 apply vb hm<;>intro _ hm
 apply vb hm<;>intro _ hm
 apply vb hm<;>intro _ hm
 apply vb hm<;>intro _ hm
 apply vb hm<;>intro _ hm
 apply vb hm<;>intro _ hm
 apply vb hm<;>intro _ hm
 apply vb hm<;>intro _ hm
 apply vb hm<;>intro _ hm
 apply vb hm<;>intro _ hm
 apply vb hm<;>intro _ hm
 apply vb hm<;>intro _ hm
 exact hm.rr
 exact hm.rr
 exact hm.rr
 exact hm.rr
 exact hm.rr
 exact hm.rr
 exact hm.rr
 apply vb hm<;>intro _ hm
 apply vb hm<;>intro _ hm
 exact hm.rr
 exact hm.rr
 exact hm.rr
 apply vb hm<;>intro _ hm
 apply vb hm<;>intro _ hm
 exact hm.rr
 exact hm.rr
 exact hm.rr
 apply vb hm<;>intro _ hm
 apply vb hm<;>intro _ hm
 exact hm.rr
 exact hm.rr
 exact hm.rr
 apply vb hm<;>intro _ hm
 apply vb hm<;>intro _ hm
 exact hm.rr
 exact hm.rr
 exact hm.rr
 apply vb hm<;>intro _ hm
 apply vb hm<;>intro _ hm
 exact hm.rr
 exact hm.rr
 exact hm.rr
 apply vb hm<;>intro _ hm
 apply vb hm<;>intro _ hm
 exact hm.rr
 exact hm.rr
 exact hm.rr
 refine⟨([(⟨3,1,2,4,7,0,77,0,0,0,0⟩:b8)]:List b8).flatMap b8.c,([(⟨3,1,2,4,7,0,77,0,0,0,0⟩:b8)]:List b8).length,⟨rfl,rfl⟩, ?_⟩
 refine co hm (a6b x10 (([(⟨3,1,2,4,7,0,77,0,0,0,0⟩:b8)]:List b8))) fun x71 hm=> ?_
 refine cy hm (a3K 2) ?_
 rintro⟨x73,x74⟩ hm
 refine cy hm (a1y x73 8 0 100 200) ?_
 rintro⟨x76,x77⟩ hm
 refine cy hm (a3J x76 8 150) ?_
 rintro⟨x79,x80⟩ hm
 refine cy hm (a3J x76 8 200) ?_
 rintro⟨x82,x83⟩ hm
 refine cy hm (a1y x76 8 1 150 250) ?_
 rintro⟨x85,x86⟩ hm
 refine cy hm (a7G x76 8 150 250) ?_
 rintro⟨x88,x89⟩ hm
 refine cy hm (a6U x1.Now) ?_
 rintro⟨x91,x92⟩ hm
 apply vb hm<;>intro _ hm
 apply vb hm<;>intro _ hm
 apply vb hm<;>intro _ hm
 apply vb hm<;>intro _ hm
 apply vb hm<;>intro _ hm
 apply vb hm<;>intro _ hm
 exact hm.rr
 exact hm.rr
 exact hm.rr
 exact hm.rr
 exact hm.rr
 exact hm.rr
 exact hm.rr
def a1K (x:a8) (owner:Int) (no:Int) (moment:Int):Option (a8×Int):=
 Option.bind (U3 x) fun e=>
 match e with
 | .inl x8=>
  if(x8 !=0)=true then
   some ((⟨0,(⟨0, [], [], [], [], []⟩:c8),(⟨0, [], [], [], [], []⟩:c8)⟩:a8),x8)
  else
   Option.bind (B3 owner) fun x32=>
   if(!x32)=true then
    some ((⟨0,(⟨0, [], [], [], [], []⟩:c8),(⟨0, [], [], [], [], []⟩:c8)⟩:a8),1)
   else
    Option.bind (j6 moment) fun x35=>
    if(!x35)=true then
     some ((⟨0,(⟨0, [], [], [], [], []⟩:c8),(⟨0, [], [], [], [], []⟩:c8)⟩:a8),95)
    else
     none
 | .inr (v9,v10,v11,v12,v13,v14,v15,v16,v17,v18,x19,x20,x21)=>
  Option.bind (B3 owner) fun x38=>
  if(!x38)=true then
   some ((⟨0,(⟨0, [], [], [], [], []⟩:c8),(⟨0, [], [], [], [], []⟩:c8)⟩:a8),1)
  else
   Option.bind (j6 moment) fun x41=>
   if(!x41)=true then
    some ((⟨0,(⟨0, [], [], [], [], []⟩:c8),(⟨0, [], [], [], [], []⟩:c8)⟩:a8),95)
   else
    Option.bind (s8 v13 (⟨owner,no,0,0,0,false⟩:d7)) fun⟨x44,x45⟩=>
    if(!x45)=true then
     some ((⟨0,(⟨0, [], [], [], [], []⟩:c8),(⟨0, [], [], [], [], []⟩:c8)⟩:a8),94)
    else
     Option.bind (idx v13 x44) fun e48=>
     Option.bind (idx v13 x44) fun e50=>
     if e50.Back=true then
      some ((⟨0,(⟨0, [], [], [], [], []⟩:c8),(⟨0, [], [], [], [], []⟩:c8)⟩:a8),94)
     else
      Option.bind (idx v13 x44) fun e53=>
      Option.bind (idx v13 x44) fun e55=>
      Option.bind (idx v13 x44) fun e57=>
      Option.bind (idx v13 x44) fun e59=>
      Option.bind (idx (v13.set x44.toNat (⟨e59.Owner,e59.No,e59.Thing,e59.From,(if(if e57.From>moment then e57.From else moment)<e55.Until then(if e57.From>moment then e57.From else moment)else e55.Until),e59.Back⟩:d7)) x44) fun e61=>
      some ((⟨x19,(⟨x20,v9,v10,v11,v12,((v13.set x44.toNat (⟨e59.Owner,e59.No,e59.Thing,e59.From,(if(if e57.From>moment then e57.From else moment)<e55.Until then(if e57.From>moment then e57.From else moment)else e55.Until),e59.Back⟩:d7)).set x44.toNat (⟨e61.Owner,e61.No,e61.Thing,e61.From,e61.Until,true⟩:d7))⟩:c8),(⟨x21,v14,v15,v16,v17,v18⟩:c8)⟩:a8),0)
theorem b0H (x:a8) (owner:Int) (no:Int) (moment:Int) (r:(a8×Int)) (hm:a1K x owner no moment=some r):l8 Tryz.prog 35 [.agg (a8.c x),DI owner,DI no,DI moment] (fun x=>x= .tup [.agg (a8.c r.1),DI r.2]):=by
 refine zy c6M [99,106,149,210,211,220] [62] [61] Tryz.func35 rfl ?_
 obtain⟨ev29,he30,hm⟩:=b9 hm
 refine O9.ofZ pok ⟨[(0, .agg (a8.c x)),(1000000, .agg (a8.c x)),(1000001,DI owner),(1000002,DI no),(1000003,DI moment),(1000004, .own 0 0),(1000008, .own 1 0),(1000009,DI 0)], [(0, .blk (a8.c x) 30),(1, .blk [DI 0,DI 0,nS,nS,nS,nS,nS,DI 0,nS,nS,nS,nS,nS] 30)],2⟩ (match ev29 with| .inl x8=>(⟨[(0, .agg (a8.c x)),(1,DI owner),(2,DI no),(3,DI moment),(4, .own 0 0),(8, .own 1 0),(9,DI 0),(17, .tup [.v (.pointer none),DI x8])], [(0, .blk (a8.c x) 30),(1, .blk [DI 0,DI 0,nS,nS,nS,nS,nS,DI 0,nS,nS,nS,nS,nS] 30)],2⟩:Sy)| .inr (v9,v10,v11,v12,v13,v14,v15,v16,v17,v18,x19,x20,x21)=>(⟨[(0, .agg (a8.c x)),(1,DI owner),(2,DI no),(3,DI moment),(4, .own 0 0),(8, .own 1 0),(9,DI 0),(17, .tup [.own 13 0,DI 0])], [(0, .blk (a8.c x) 30),(1, .blk [DI 0,DI 0,nS,nS,nS,nS,nS,DI 0,nS,nS,nS,nS,nS] 30),(3,rE 4 v9 d0.c 110),(4,rE 6 v10 d9.c 108),(5,rE 4 v11 c9.c 149),(6,rE 5 v12 c0.c 112),(7,rE 6 v13 d7.c 114),(8,rE 4 v14 d0.c 110),(9,rE 6 v15 d9.c 108),(10,rE 4 v16 c9.c 149),(11,rE 5 v17 c0.c 112),(12,rE 6 v18 d7.c 114),(13, .blk [DI x19,DI x20, .row 3 4, .row 4 6, .row 5 4, .row 6 5, .row 7 6,DI x21, .row 8 4, .row 9 6, .row 10 4, .row 11 5, .row 12 6] 102)],14⟩:Sy):Sy) b7J [99,106,149,210,211,220] [62] [61] Tryz.func61 rfl rfl rfl (i4.of 2 rfl (tA rfl) ⟨hR rfl,hR rfl,trivial⟩) (fun sv=> ?_) ?_
 have hm:=he30
 refine cy hm (V1 x) fun x63 hm=> ?_
 apply vb hm<;>intro _ hm
 cases hm
 exact i4.of 2 rfl (tA rfl) ⟨hR rfl,hR rfl,trivial⟩
 refine⟨rfl, ?_⟩
 obtain⟨x66,hx67,hm⟩:=b9 hm
 refine .inr (a7N.mk ⟨_,_,N3 x.Now _ hx67, ?_⟩)
 obtain⟨x68,hx69,hm⟩:=b9 hm
 refine .inr (a7N.mk ⟨_,_,N3 x.Safe _ hx69, ?_⟩)
 cases hm
 exact i4.of 14 rfl (tA rfl) ⟨hR rfl,hR rfl,hW rfl,hW rfl,hW rfl,hW rfl,hW rfl,hW rfl,hW rfl,hW rfl,hW rfl,hW rfl,hR rfl,trivial⟩
 rcases ev29 with x8|⟨v9,v10,v11,v12,v13,v14,v15,v16,v17,v18,x19,x20,x21⟩
 apply vb hm<;>intro _ hm
 cases hm
 exact c8a (⟨_,rfl,⟨⟨_,rfl,⟨c7Y _,c7Y _,c7Z,c7Z,c7Z,c7Z,c7Z,c7Y _,c7Z,c7Z,c7Z,c7Z,c7Z,trivial⟩⟩,c7Y _,trivial⟩⟩)
 refine cy hm (C7 owner) fun x32 hm=> ?_
 apply vb hm<;>intro _ hm
 cases hm
 exact c8a (⟨_,rfl,⟨⟨_,rfl,⟨c7Y _,c7Y _,c7Z,c7Z,c7Z,c7Z,c7Z,c7Y _,c7Z,c7Z,c7Z,c7Z,c7Z,trivial⟩⟩,c7Y _,trivial⟩⟩)
 refine cy hm (o7 moment) fun x35 hm=> ?_
 apply vb hm<;>intro _ hm
 cases hm
 exact c8a (⟨_,rfl,⟨⟨_,rfl,⟨c7Y _,c7Y _,c7Z,c7Z,c7Z,c7Z,c7Z,c7Y _,c7Z,c7Z,c7Z,c7Z,c7Z,trivial⟩⟩,c7Y _,trivial⟩⟩)
 cases hm
 refine cy hm (C7 owner) fun x38 hm=> ?_
 apply vb hm<;>intro _ hm
 cases hm
 exact c8a (⟨_,rfl,⟨⟨_,rfl,⟨c7Y _,c7Y _,c7Z,c7Z,c7Z,c7Z,c7Z,c7Y _,c7Z,c7Z,c7Z,c7Z,c7Z,trivial⟩⟩,c7Y _,trivial⟩⟩)
 refine cy hm (o7 moment) fun x41 hm=> ?_
 apply vb hm<;>intro _ hm
 cases hm
 exact c8a (⟨_,rfl,⟨⟨_,rfl,⟨c7Y _,c7Y _,c7Z,c7Z,c7Z,c7Z,c7Z,c7Y _,c7Z,c7Z,c7Z,c7Z,c7Z,trivial⟩⟩,c7Y _,trivial⟩⟩)
 refine co hm (N8 v13 ((⟨owner,no,0,0,0,false⟩:d7))) ?_
 rintro⟨x44,x45⟩ hm
 apply vb hm<;>intro _ hm
 cases hm
 exact c8a (⟨_,rfl,⟨⟨_,rfl,⟨c7Y _,c7Y _,c7Z,c7Z,c7Z,c7Z,c7Z,c7Y _,c7Z,c7Z,c7Z,c7Z,c7Z,trivial⟩⟩,c7Y _,trivial⟩⟩)
 obtain⟨e48,hx49,hm⟩:=b9 hm
 refine⟨E1 hx49, ?_⟩
 obtain⟨e50,hx51,hm⟩:=b9 hm
 refine⟨_,A5 (fun _=>rfl) hx51, ?_⟩
 apply vb hm<;>intro _ hm
 cases hm
 exact c8a (⟨_,rfl,⟨⟨_,rfl,⟨c7Y _,c7Y _,c7Z,c7Z,c7Z,c7Z,c7Z,c7Y _,c7Z,c7Z,c7Z,c7Z,c7Z,trivial⟩⟩,c7Y _,trivial⟩⟩)
 obtain⟨e53,hx54,hm⟩:=b9 hm
 refine⟨E1 hx54, ?_⟩
 refine⟨rfl, ?_⟩
 obtain⟨e55,hx56,hm⟩:=b9 hm
 refine⟨_,A5 (fun _=>rfl) hx56, ?_⟩
 obtain⟨e57,hx58,hm⟩:=b9 hm
 refine⟨_,A5 (fun _=>rfl) hx58, ?_⟩
 obtain⟨e59,hx60,hm⟩:=b9 hm
 refine⟨_,A5 (fun _=>rfl) hx60,_,I5 (y:=(⟨e59.Owner,e59.No,e59.Thing,e59.From,(if(if e57.From>moment then e57.From else moment)<e55.Until then(if e57.From>moment then e57.From else moment)else e55.Until),e59.Back⟩:d7)) (fun _=>rfl) hx60, ?_⟩
 obtain⟨e61,hx62,hm⟩:=b9 hm
 refine⟨_,a5Q (fun _=>rfl) hx62 (by first|rfl|simp only [List.length_set]),_,I5 (y:=(⟨e61.Owner,e61.No,e61.Thing,e61.From,e61.Until,true⟩:d7)) (fun _=>rfl) hx62, ?_⟩
 cases hm
 exact c8a (by first|exact c7Y _|(simp only [a8.c,lD,List.length_set];exact c7Y _))
def a2B (y:N9):Option b2A:=
 Option.bind (G4 y.Depot 6) fun x1=>
 Option.bind (G4 y.From 40) fun x3=>
 Option.bind (G4 y.Thing 3) fun x5=>
 Option.bind (G4 y.To 6) fun x7=>
 Option.bind (G4 y.Long 12) fun x9=>
 some (⟨(W (x1+(W (6*(W (1+x5)))))),x7,(W (x3*10)),(W ((W (x3*10))+(W (x9*10))))⟩:b2A)
theorem b2k (y:N9) (r:b2A) (hm:a2B y=some r):l8 Tryz.prog 39 [.agg (N9.c y)] (fun x=>x= .agg (b2A.c r)):=by
 refine zy c6u [] [] [] Tryz.func39 rfl ?_
 refine cy hm (E8 y.Depot 6) fun x1 hm=> ?_
 refine cy hm (E8 y.From 40) fun x3 hm=> ?_
 refine⟨rfl, ?_⟩
 refine cy hm (E8 y.Thing 3) fun x5 hm=> ?_
 refine cy hm (E8 y.To 6) fun x7 hm=> ?_
 refine cy hm (E8 y.Long 12) fun x9 hm=> ?_
 cases hm
 exact c8a (c7Y _)
def a6z:(Int×(List a8))→Option (Sum (Int×(List a8)) (Sum (Int×(List a8)) (j0×Bool))):=fun(i5,v6)=>
 if(decide (i5<6))=true then
  Option.bind (a1k i5) fun⟨x13,x14⟩=>
  if(x14 !=0)=true then
   some (.inr (.inr ((⟨v6, [],(0,0,0)⟩:j0),false)))
  else
   gd ((v6.length+([x13]:List a8).length)*264≤140737488355328∧v6.length+([x13]:List a8).length≤9223372036854775807)<|
   some (.inl ((W (i5+1)),(v6++([x13]:List a8))))
 else
  some (.inr (.inl (i5,v6)))
def a6w:Option (j0×Bool):=
 Option.bind (s9 a6z (0, [])) fun e=>
 match e with
 | .inl (i17,v18)=>
  some ((⟨v18, [],(0,0,0)⟩:j0),true)
 | .inr rr19=>
  some rr19
theorem b6o (r:(j0×Bool)) (hm:a6w=some r):l8 Tryz.prog 46 [] (fun x=>x= .tup [.agg (j0.c r.1),DB r.2]):=by
 refine zn Tryz.func46 rfl ?_
 obtain⟨ev20,he,hk21⟩:=b9 hm
 refine c8b a6z (fun(i5,v6)=>⟨[(0, .own 0 0),(1,DB false),(2, .own 1 0),(3,DI i5)], [(0, .blk [nS,nS,DI 0,DI 0,DI 0] 79),(1, .blk [.row 2 13,nS,DI 0,DI 0,DI 0] 79),(2,rE 13 v6 a8.c 30)],3⟩) (0, []) (i4.of 2 rfl (tA rfl) ⟨hR rfl,hR rfl,⟨rfl,rfl⟩,trivial⟩) he ?_
 rintro fu22 ⟨i5,v6⟩ b hm hi23
 apply vb hm<;>intro _ hm
 refine cy hm (a3K i5) ?_
 rintro⟨x25,x26⟩ hm
 apply vb hm<;>intro _ hm
 cases hm
 cases hi23
 have hm:=hk21
 cases hm
 exact c8a (⟨_,rfl,⟨⟨_,rfl,⟨c7Y _,c7Z,c7Y _,c7Y _,c7Y _,trivial⟩⟩,c7Y _,trivial⟩⟩)
 refine⟨([x25]:List a8).flatMap a8.c,([x25]:List a8).length,⟨rfl,rfl⟩, ?_⟩
 obtain⟨hg,hm⟩:=n9 hm
 refine⟨hg,_,_,O1 (c:=a8.c) (l:=(v6:List a8)) (r:=(([x25]:List a8):List a8)), ?_⟩
 cases hm
 exact⟨(_,((W (i5+1)),(v6++([x25]:List a8)))),i4.of 3 rfl (tA rfl) ⟨hR rfl,hR rfl,hW rfl,trivial⟩,hi23,Nat.lt_succ_self _⟩
 cases hm
 cases hi23
 have hm:=hk21
 cases hm
 exact c8a (⟨_,rfl,⟨⟨_,rfl,⟨c7Y _,c7Z,c7Y _,c7Y _,c7Y _,trivial⟩⟩,c7Y _,trivial⟩⟩)
def V4 (w:j0) (d:Int):(Int×(List b8))→Option (Sum (Int×(List b8)) (Sum (Int×(List b8)) (j0×Bool))):=fun(to_7,v8)=>
 if(decide (to_7<6))=true then
  Option.bind (idx w.all d) fun e17=>
  Option.bind (U7 e17 to_7) fun⟨x19,x20⟩=>
  if(x20 !=0)=true then
   some (.inr (.inr ((⟨w.all,v8,w.told⟩:j0),false)))
  else
   gd ((([]:List b8).length+v8.length)*88≤140737488355328∧([]:List b8).length+v8.length≤9223372036854775807)<|
   gd (((([]:List b8)++v8).length+x19.length)*88≤140737488355328∧(([]:List b8)++v8).length+x19.length≤9223372036854775807)<|
   some (.inl ((W (to_7+1)),((([]:List b8)++v8)++x19)))
 else
  some (.inr (.inl (to_7,v8)))
def A6 (w:j0) (d:Int):Option (j0×Bool):=
 Option.bind (s9 (V4 w d) (0,w.calls)) fun e=>
 match e with
 | .inl (to_23,v24)=>
  some ((⟨w.all,v24,w.told⟩:j0),true)
 | .inr rr25=>
  some rr25
theorem D4 (w:j0) (d:Int) (r:(j0×Bool)) (hm:A6 w d=some r):l8 Tryz.prog 48 [.agg (j0.c w),DI d] (fun x=>x= .tup [.agg (j0.c r.1),DB r.2]):=by
 refine zn Tryz.func48 rfl ?_
 obtain⟨ev26,he,hk27⟩:=b9 hm
 refine c8b (V4 w d) (fun(to_7,v8)=>⟨[(0, .agg (j0.c w)),(1,DI d),(2, .own 0 0),(4, .own 1 0),(5,DB false),(6,DI to_7)], [(0, .blk [lD 13 w.all a8.c,lD 11 v8 b8.c,DI w.told.1,DI w.told.2.1,DI w.told.2.2] 79),(1, .blk [nS,nS,DI 0,DI 0,DI 0] 79)],2⟩) (0,w.calls) (i4.of 2 rfl (tA rfl) ⟨hR rfl,hR rfl,trivial⟩) he ?_
 rintro fu28 ⟨to_7,v8⟩ b hm hi29
 apply vb hm<;>intro _ hm
 obtain⟨e31,hx32,hm⟩:=b9 hm
 refine⟨_,q8 (fun _=>rfl) hx32, ?_⟩
 refine cy hm (a1c e31 to_7) ?_
 rintro⟨x33,x34⟩ hm
 apply vb hm<;>intro _ hm
 cases hm
 cases hi29
 have hm:=hk27
 cases hm
 exact c8a (c7Y _)
 refine⟨([]:List b8).flatMap b8.c,([]:List b8).length,⟨rfl,rfl⟩, ?_⟩
 obtain⟨hg,hm⟩:=n9 hm
 refine⟨hg,_,_,O1 (c:=b8.c) (l:=(([]:List b8):List b8)) (r:=(v8:List b8)), ?_⟩
 obtain⟨hg,hm⟩:=n9 hm
 refine⟨hg,_,_,O1 (c:=b8.c) (l:=((([]:List b8)++v8):List b8)) (r:=(x33:List b8)), ?_⟩
 cases hm
 exact⟨(_,((W (to_7+1)),((([]:List b8)++v8)++x33))),i4.fz [2] rfl 2 rfl (tA rfl) ⟨hR rfl,hR rfl,trivial⟩,hi29,Nat.lt_succ_self _⟩
 cases hm
 cases hi29
 have hm:=hk27
 cases hm
 exact c8a (c7Y _)
def W8 (e_:Int):Option Bool:=
 if(e_==0)=true then
  some true
 else
  if(e_==2)=true then
   some true
  else
   if(e_==93)=true then
    some true
   else
    if(e_==1)=true then
     some true
    else
     if(e_==94)=true then
      some true
     else
      some (e_==95)
theorem a2a (e_:Int) (r:Bool) (hm:W8 e_=some r):l8 Tryz.prog 102 [DI e_] (fun x=>x=DB r):=by
 refine zn Tryz.func102 rfl ?_
 apply vb hm<;>intro _ hm
 exact hm.rr
 apply vb hm<;>intro _ hm
 exact hm.rr
 apply vb hm<;>intro _ hm
 exact hm.rr
 apply vb hm<;>intro _ hm
 exact hm.rr
 apply vb hm<;>intro _ hm
 exact hm.rr
 exact hm.rr
def a0H (w:j0) (y:N9):Option (j0×Bool):=
 gd ((([]:List a8).length+w.all.length)*264≤140737488355328∧([]:List a8).length+w.all.length≤9223372036854775807)<|
 Option.bind (G4 y.Depot 6) fun x1=>
 Option.bind (idx (([]:List a8)++w.all) x1) fun e3=>
 Option.bind (idx (([]:List a8)++w.all) x1) fun e5=>
 Option.bind (G4 y.Kind 12) fun x7=>
 if(x7==0)=true then
  Option.bind (G4 y.Night 3) fun x10=>
  Option.bind (G4 y.Value 9) fun x12=>
  Option.bind (Q0 e5 x10 (W (1+x12))) fun⟨x14,x15⟩=>
  if(x15 !=0)=true then
   Option.bind (W8 x15) fun x18=>
   if x18=true then
    if(x7 !=4)=true then
     if(x7 !=5)=true then
      some ((⟨(([]:List a8)++w.all),w.calls,w.told⟩:j0),(x7 !=6))
     else
      some ((⟨(([]:List a8)++w.all),w.calls,w.told⟩:j0),false)
    else
     some ((⟨(([]:List a8)++w.all),w.calls,w.told⟩:j0),false)
   else
    some ((⟨(([]:List a8)++w.all),w.calls,w.told⟩:j0),false)
  else
   Option.bind (idx (([]:List a8)++w.all) x1) fun e23=>
   Option.bind (idx (([]:List a8)++w.all) x1) fun e25=>
   if(x7==4)=true then
    Option.bind (A6 (⟨((([]:List a8)++w.all).set x1.toNat x14),w.calls,w.told⟩:j0) x1) fun⟨x28,x29⟩=>
    some (x28,x29)
   else
    if(x7==5)=true then
     Option.bind (A6 (⟨((([]:List a8)++w.all).set x1.toNat x14),w.calls,w.told⟩:j0) x1) fun⟨x32,x33⟩=>
     some (x32,x33)
    else
     some ((⟨((([]:List a8)++w.all).set x1.toNat x14),w.calls,w.told⟩:j0),true)
 else
  if(x7==1)=true then
   Option.bind (G4 y.Night 3) fun x36=>
   Option.bind (G4 y.Value 9) fun x38=>
   Option.bind (Q0 e5 x36 (W (1+x38))) fun⟨x40,x41⟩=>
   if(x41 !=0)=true then
    Option.bind (W8 x41) fun x44=>
    if x44=true then
     if(x7 !=4)=true then
      if(x7 !=5)=true then
       some ((⟨(([]:List a8)++w.all),w.calls,w.told⟩:j0),(x7 !=6))
      else
       some ((⟨(([]:List a8)++w.all),w.calls,w.told⟩:j0),false)
     else
      some ((⟨(([]:List a8)++w.all),w.calls,w.told⟩:j0),false)
    else
     some ((⟨(([]:List a8)++w.all),w.calls,w.told⟩:j0),false)
   else
    Option.bind (idx (([]:List a8)++w.all) x1) fun e49=>
    Option.bind (idx (([]:List a8)++w.all) x1) fun e51=>
    if(x7==4)=true then
     Option.bind (A6 (⟨((([]:List a8)++w.all).set x1.toNat x40),w.calls,w.told⟩:j0) x1) fun⟨x54,x55⟩=>
     some (x54,x55)
    else
     if(x7==5)=true then
      Option.bind (A6 (⟨((([]:List a8)++w.all).set x1.toNat x40),w.calls,w.told⟩:j0) x1) fun⟨x58,x59⟩=>
      some (x58,x59)
     else
      some ((⟨((([]:List a8)++w.all).set x1.toNat x40),w.calls,w.told⟩:j0),true)
  else
   if(x7==2)=true then
    Option.bind (a2B y) fun x62=>
    Option.bind (O7 e5 x62.Thing x62.To x62.From x62.Until) fun⟨x64,x65⟩=>
    if(x65 !=0)=true then
     Option.bind (W8 x65) fun x68=>
     if x68=true then
      if(x7 !=4)=true then
       if(x7 !=5)=true then
        some ((⟨(([]:List a8)++w.all),w.calls,w.told⟩:j0),(x7 !=6))
       else
        some ((⟨(([]:List a8)++w.all),w.calls,w.told⟩:j0),false)
      else
       some ((⟨(([]:List a8)++w.all),w.calls,w.told⟩:j0),false)
     else
      some ((⟨(([]:List a8)++w.all),w.calls,w.told⟩:j0),false)
    else
     Option.bind (idx (([]:List a8)++w.all) x1) fun e73=>
     Option.bind (idx (([]:List a8)++w.all) x1) fun e75=>
     if(x7==4)=true then
      Option.bind (A6 (⟨((([]:List a8)++w.all).set x1.toNat x64),w.calls,w.told⟩:j0) x1) fun⟨x78,x79⟩=>
      some (x78,x79)
     else
      if(x7==5)=true then
       Option.bind (A6 (⟨((([]:List a8)++w.all).set x1.toNat x64),w.calls,w.told⟩:j0) x1) fun⟨x82,x83⟩=>
       some (x82,x83)
      else
       some ((⟨((([]:List a8)++w.all).set x1.toNat x64),w.calls,w.told⟩:j0),true)
   else
    if(x7==3)=true then
     if((e5.Now.Loans.length:Int)==0)=true then
      some ((⟨(([]:List a8)++w.all),w.calls,w.told⟩:j0),true)
     else
      Option.bind (G4 y.Pick (e5.Now.Loans.length:Int)) fun x87=>
      Option.bind (idx e5.Now.Loans x87) fun e89=>
      Option.bind (G4 y.Long 130) fun x91=>
      Option.bind (a1K e5 e89.Owner e89.No (W (e89.From+x91))) fun⟨x93,x94⟩=>
      if(x94 !=0)=true then
       Option.bind (W8 x94) fun x97=>
       if x97=true then
        if(x7 !=4)=true then
         if(x7 !=5)=true then
          some ((⟨(([]:List a8)++w.all),w.calls,w.told⟩:j0),(x7 !=6))
         else
          some ((⟨(([]:List a8)++w.all),w.calls,w.told⟩:j0),false)
        else
         some ((⟨(([]:List a8)++w.all),w.calls,w.told⟩:j0),false)
       else
        some ((⟨(([]:List a8)++w.all),w.calls,w.told⟩:j0),false)
      else
       Option.bind (idx (([]:List a8)++w.all) x1) fun e102=>
       Option.bind (idx (([]:List a8)++w.all) x1) fun e104=>
       if(x7==4)=true then
        Option.bind (A6 (⟨((([]:List a8)++w.all).set x1.toNat x93),w.calls,w.told⟩:j0) x1) fun⟨x107,x108⟩=>
        some (x107,x108)
       else
        if(x7==5)=true then
         Option.bind (A6 (⟨((([]:List a8)++w.all).set x1.toNat x93),w.calls,w.told⟩:j0) x1) fun⟨x111,x112⟩=>
         some (x111,x112)
        else
         some ((⟨((([]:List a8)++w.all).set x1.toNat x93),w.calls,w.told⟩:j0),true)
    else
     if(x7==4)=true then
      Option.bind (R1 e5) fun⟨x115,x116⟩=>
      if(x116 !=0)=true then
       Option.bind (W8 x116) fun x119=>
       if x119=true then
        if(x7 !=4)=true then
         if(x7 !=5)=true then
          some ((⟨(([]:List a8)++w.all),w.calls,w.told⟩:j0),(x7 !=6))
         else
          some ((⟨(([]:List a8)++w.all),w.calls,w.told⟩:j0),false)
        else
         some ((⟨(([]:List a8)++w.all),w.calls,w.told⟩:j0),false)
       else
        some ((⟨(([]:List a8)++w.all),w.calls,w.told⟩:j0),false)
      else
       Option.bind (idx (([]:List a8)++w.all) x1) fun e124=>
       Option.bind (idx (([]:List a8)++w.all) x1) fun e126=>
       Option.bind (A6 (⟨((([]:List a8)++w.all).set x1.toNat x115),w.calls,w.told⟩:j0) x1) fun⟨x128,x129⟩=>
       some (x128,x129)
     else
      if(x7==5)=true then
       Option.bind (R1 e5) fun⟨x132,x133⟩=>
       if(x133 !=0)=true then
        Option.bind (W8 x133) fun x136=>
        if x136=true then
         if(x7 !=4)=true then
          if(x7 !=5)=true then
           some ((⟨(([]:List a8)++w.all),w.calls,w.told⟩:j0),(x7 !=6))
          else
           some ((⟨(([]:List a8)++w.all),w.calls,w.told⟩:j0),false)
         else
          some ((⟨(([]:List a8)++w.all),w.calls,w.told⟩:j0),false)
        else
         some ((⟨(([]:List a8)++w.all),w.calls,w.told⟩:j0),false)
       else
        Option.bind (idx (([]:List a8)++w.all) x1) fun e141=>
        Option.bind (idx (([]:List a8)++w.all) x1) fun e143=>
        Option.bind (A6 (⟨((([]:List a8)++w.all).set x1.toNat x132),w.calls,w.told⟩:j0) x1) fun⟨x145,x146⟩=>
        some (x145,x146)
      else
       if(x7==6)=true then
        Option.bind (a3h e5) fun⟨x149,x150⟩=>
        if(x150 !=0)=true then
         Option.bind (W8 x150) fun x153=>
         if x153=true then
          if(x7 !=4)=true then
           if(x7 !=5)=true then
            some ((⟨(([]:List a8)++w.all),w.calls,w.told⟩:j0),(x7 !=6))
           else
            some ((⟨(([]:List a8)++w.all),w.calls,w.told⟩:j0),false)
          else
           some ((⟨(([]:List a8)++w.all),w.calls,w.told⟩:j0),false)
         else
          some ((⟨(([]:List a8)++w.all),w.calls,w.told⟩:j0),false)
        else
         Option.bind (idx (([]:List a8)++w.all) x1) fun e158=>
         Option.bind (idx (([]:List a8)++w.all) x1) fun e160=>
         some ((⟨((([]:List a8)++w.all).set x1.toNat x149),w.calls,w.told⟩:j0),true)
       else
        if((w.calls.length:Int)==0)=true then
         some ((⟨(([]:List a8)++w.all),w.calls,w.told⟩:j0),true)
        else
         Option.bind (G4 y.Pick (w.calls.length:Int)) fun x163=>
         Option.bind (idx w.calls x163) fun e165=>
         if(decide (e165.To<0))=true then
          some ((⟨(([]:List a8)++w.all),w.calls,w.told⟩:j0),false)
         else
          if(decide (e165.To≥6))=true then
           some ((⟨(([]:List a8)++w.all),w.calls,w.told⟩:j0),false)
          else
           Option.bind (idx (([]:List a8)++w.all) e165.To) fun e169=>
           Option.bind (idx (([]:List a8)++w.all) e165.To) fun e171=>
           Option.bind (Q6 e171 e165) fun⟨x173,x174⟩=>
           if(x174 !=0)=true then
            Option.bind (W8 x174) fun x177=>
            if x177=true then
             if(x7 !=4)=true then
              if(x7 !=5)=true then
               some ((⟨(([]:List a8)++w.all),w.calls,w.told⟩:j0),(x7 !=6))
              else
               some ((⟨(([]:List a8)++w.all),w.calls,w.told⟩:j0),false)
             else
              some ((⟨(([]:List a8)++w.all),w.calls,w.told⟩:j0),false)
            else
             some ((⟨(([]:List a8)++w.all),w.calls,w.told⟩:j0),false)
           else
            Option.bind (idx (([]:List a8)++w.all) e165.To) fun e182=>
            Option.bind (idx (([]:List a8)++w.all) e165.To) fun e184=>
            some ((⟨((([]:List a8)++w.all).set e165.To.toNat x173),w.calls,w.told⟩:j0),true)
theorem b0J (w:j0) (y:N9) (r:(j0×Bool)) (hm:a0H w y=some r):l8 Tryz.prog 47 [.agg (j0.c w), .agg (N9.c y)] (fun x=>x= .tup [.agg (j0.c r.1),DB r.2]):=by
 refine zy c6F [] [] [] Tryz.func47 rfl ?_
 refine⟨([]:List a8).flatMap a8.c,([]:List a8).length,⟨rfl,rfl⟩, ?_⟩
 obtain⟨hg,hm⟩:=n9 hm
 refine⟨hg,_,_,O1 (c:=a8.c) (l:=(([]:List a8):List a8)) (r:=(w.all:List a8)), ?_⟩
 refine cy hm (E8 y.Depot 6) fun x1 hm=> ?_
 obtain⟨e3,hx4,hm⟩:=b9 hm
 refine⟨E1 hx4, ?_⟩
 obtain⟨e5,hx6,hm⟩:=b9 hm
 refine⟨_,A5 (fun _=>rfl) hx6, ?_⟩
 refine cy hm (E8 y.Kind 12) fun x7 hm=> ?_
 apply vb hm<;>intro h9 hm
 refine VIf.t h9 ?_
 refine⟨rfl, ?_⟩
 refine cy hm (E8 y.Night 3) fun x10 hm=> ?_
 refine cy hm (E8 y.Value 9) fun x12 hm=> ?_
 refine cy hm (U0 e5 x10 (W (1+x12))) ?_
 rintro⟨x14,x15⟩ hm
 apply vb hm<;>intro _ hm
 refine⟨rfl, ?_⟩
 refine cy hm (a2a x15) fun x18 hm=> ?_
 apply vb hm<;>intro _ hm
 apply vb hm<;>intro _ hm
 apply vb hm<;>intro _ hm
 cases hm
 exact c8a (c7Y _)
 cases hm
 exact c8a (c7Y _)
 cases hm
 exact c8a (c7Y _)
 cases hm
 exact c8a (c7Y _)
 obtain⟨e23,hx24,hm⟩:=b9 hm
 refine⟨E1 hx24, ?_⟩
 obtain⟨e25,hx26,hm⟩:=b9 hm
 refine⟨_,A5 (fun _=>rfl) hx26,_,I5 (y:=x14) (fun _=>rfl) hx26, ?_⟩
 apply vb hm<;>intro _ hm
 rw [show(([]:List a8)++w.all).length=((([]:List a8)++w.all).set x1.toNat x14).length from by simp only [List.length_set]]
 refine co hm (D4 ((⟨((([]:List a8)++w.all).set x1.toNat x14),w.calls,w.told⟩:j0)) x1) ?_
 rintro⟨x28,x29⟩ hm
 cases hm
 exact c8a (c7Y _)
 apply vb hm<;>intro _ hm
 rw [show(([]:List a8)++w.all).length=((([]:List a8)++w.all).set x1.toNat x14).length from by simp only [List.length_set]]
 refine co hm (D4 ((⟨((([]:List a8)++w.all).set x1.toNat x14),w.calls,w.told⟩:j0)) x1) ?_
 rintro⟨x32,x33⟩ hm
 cases hm
 exact c8a (c7Y _)
 cases hm
 exact c8a (by first|exact c7Y _|(simp only [j0.c,lD,List.length_set];exact c7Y _))
 apply vb hm<;>intro _ hm
 refine⟨rfl, ?_⟩
 refine cy hm (E8 y.Night 3) fun x36 hm=> ?_
 refine cy hm (E8 y.Value 9) fun x38 hm=> ?_
 refine cy hm (U0 e5 x36 (W (1+x38))) ?_
 rintro⟨x40,x41⟩ hm
 apply vb hm<;>intro _ hm
 refine⟨rfl, ?_⟩
 refine cy hm (a2a x41) fun x44 hm=> ?_
 apply vb hm<;>intro _ hm
 apply vb hm<;>intro _ hm
 apply vb hm<;>intro _ hm
 cases hm
 exact c8a (c7Y _)
 cases hm
 exact c8a (c7Y _)
 cases hm
 exact c8a (c7Y _)
 cases hm
 exact c8a (c7Y _)
 obtain⟨e49,hx50,hm⟩:=b9 hm
 refine⟨E1 hx50, ?_⟩
 obtain⟨e51,hx52,hm⟩:=b9 hm
 refine⟨_,A5 (fun _=>rfl) hx52,_,I5 (y:=x40) (fun _=>rfl) hx52, ?_⟩
 apply vb hm<;>intro _ hm
 rw [show(([]:List a8)++w.all).length=((([]:List a8)++w.all).set x1.toNat x40).length from by simp only [List.length_set]]
 refine co hm (D4 ((⟨((([]:List a8)++w.all).set x1.toNat x40),w.calls,w.told⟩:j0)) x1) ?_
 rintro⟨x54,x55⟩ hm
 cases hm
 exact c8a (c7Y _)
 apply vb hm<;>intro _ hm
 rw [show(([]:List a8)++w.all).length=((([]:List a8)++w.all).set x1.toNat x40).length from by simp only [List.length_set]]
 refine co hm (D4 ((⟨((([]:List a8)++w.all).set x1.toNat x40),w.calls,w.told⟩:j0)) x1) ?_
 rintro⟨x58,x59⟩ hm
 cases hm
 exact c8a (c7Y _)
 cases hm
 exact c8a (by first|exact c7Y _|(simp only [j0.c,lD,List.length_set];exact c7Y _))
 apply vb hm<;>intro _ hm
 refine cy hm (b2k y) fun x62 hm=> ?_
 refine cy hm (a1y e5 x62.Thing x62.To x62.From x62.Until) ?_
 rintro⟨x64,x65⟩ hm
 apply vb hm<;>intro _ hm
 refine⟨rfl, ?_⟩
 refine cy hm (a2a x65) fun x68 hm=> ?_
 apply vb hm<;>intro _ hm
 apply vb hm<;>intro _ hm
 apply vb hm<;>intro _ hm
 cases hm
 exact c8a (c7Y _)
 cases hm
 exact c8a (c7Y _)
 cases hm
 exact c8a (c7Y _)
 cases hm
 exact c8a (c7Y _)
 obtain⟨e73,hx74,hm⟩:=b9 hm
 refine⟨E1 hx74, ?_⟩
 obtain⟨e75,hx76,hm⟩:=b9 hm
 refine⟨_,A5 (fun _=>rfl) hx76,_,I5 (y:=x64) (fun _=>rfl) hx76, ?_⟩
 apply vb hm<;>intro _ hm
 rw [show(([]:List a8)++w.all).length=((([]:List a8)++w.all).set x1.toNat x64).length from by simp only [List.length_set]]
 refine co hm (D4 ((⟨((([]:List a8)++w.all).set x1.toNat x64),w.calls,w.told⟩:j0)) x1) ?_
 rintro⟨x78,x79⟩ hm
 cases hm
 exact c8a (c7Y _)
 apply vb hm<;>intro _ hm
 rw [show(([]:List a8)++w.all).length=((([]:List a8)++w.all).set x1.toNat x64).length from by simp only [List.length_set]]
 refine co hm (D4 ((⟨((([]:List a8)++w.all).set x1.toNat x64),w.calls,w.told⟩:j0)) x1) ?_
 rintro⟨x82,x83⟩ hm
 cases hm
 exact c8a (c7Y _)
 cases hm
 exact c8a (by first|exact c7Y _|(simp only [j0.c,lD,List.length_set];exact c7Y _))
 apply vb hm<;>intro _ hm
 apply vb hm<;>intro _ hm
 cases hm
 exact c8a (c7Y _)
 refine⟨rfl, ?_⟩
 refine cy hm (E8 y.Pick ((e5.Now.Loans.length:Int))) fun x87 hm=> ?_
 obtain⟨e89,hx90,hm⟩:=b9 hm
 refine⟨_,q8 (fun _=>rfl) hx90, ?_⟩
 refine⟨rfl, ?_⟩
 refine cy hm (E8 y.Long 130) fun x91 hm=> ?_
 refine cy hm (b0H e5 e89.Owner e89.No (W (e89.From+x91))) ?_
 rintro⟨x93,x94⟩ hm
 apply vb hm<;>intro _ hm
 refine⟨rfl, ?_⟩
 refine cy hm (a2a x94) fun x97 hm=> ?_
 apply vb hm<;>intro _ hm
 apply vb hm<;>intro _ hm
 apply vb hm<;>intro _ hm
 cases hm
 exact c8a (c7Y _)
 cases hm
 exact c8a (c7Y _)
 cases hm
 exact c8a (c7Y _)
 cases hm
 exact c8a (c7Y _)
 obtain⟨e102,hx103,hm⟩:=b9 hm
 refine⟨E1 hx103, ?_⟩
 obtain⟨e104,hx105,hm⟩:=b9 hm
 refine⟨_,A5 (fun _=>rfl) hx105,_,I5 (y:=x93) (fun _=>rfl) hx105, ?_⟩
 apply vb hm<;>intro _ hm
 rw [show(([]:List a8)++w.all).length=((([]:List a8)++w.all).set x1.toNat x93).length from by simp only [List.length_set]]
 refine co hm (D4 ((⟨((([]:List a8)++w.all).set x1.toNat x93),w.calls,w.told⟩:j0)) x1) ?_
 rintro⟨x107,x108⟩ hm
 cases hm
 exact c8a (c7Y _)
 apply vb hm<;>intro _ hm
 rw [show(([]:List a8)++w.all).length=((([]:List a8)++w.all).set x1.toNat x93).length from by simp only [List.length_set]]
 refine co hm (D4 ((⟨((([]:List a8)++w.all).set x1.toNat x93),w.calls,w.told⟩:j0)) x1) ?_
 rintro⟨x111,x112⟩ hm
 cases hm
 exact c8a (c7Y _)
 cases hm
 exact c8a (by first|exact c7Y _|(simp only [j0.c,lD,List.length_set];exact c7Y _))
 apply vb hm<;>intro h114 hm
 refine VIf.t h114 ?_
 refine cy hm (Z4 e5) ?_
 rintro⟨x115,x116⟩ hm
 apply vb hm<;>intro _ hm
 refine⟨rfl, ?_⟩
 refine cy hm (a2a x116) fun x119 hm=> ?_
 apply vb hm<;>intro _ hm
 apply vb hm<;>intro _ hm
 apply vb hm<;>intro _ hm
 cases hm
 exact c8a (c7Y _)
 cases hm
 exact c8a (c7Y _)
 cases hm
 exact c8a (c7Y _)
 cases hm
 exact c8a (c7Y _)
 obtain⟨e124,hx125,hm⟩:=b9 hm
 refine⟨E1 hx125, ?_⟩
 obtain⟨e126,hx127,hm⟩:=b9 hm
 refine⟨_,A5 (fun _=>rfl) hx127,_,I5 (y:=x115) (fun _=>rfl) hx127, ?_⟩
 refine VIf.t h114 ?_
 rw [show(([]:List a8)++w.all).length=((([]:List a8)++w.all).set x1.toNat x115).length from by simp only [List.length_set]]
 refine co hm (D4 ((⟨((([]:List a8)++w.all).set x1.toNat x115),w.calls,w.told⟩:j0)) x1) ?_
 rintro⟨x128,x129⟩ hm
 cases hm
 exact c8a (c7Y _)
 apply vb hm<;>intro h131 hm
 refine cy hm (Z4 e5) ?_
 rintro⟨x132,x133⟩ hm
 apply vb hm<;>intro _ hm
 refine⟨rfl, ?_⟩
 refine cy hm (a2a x133) fun x136 hm=> ?_
 apply vb hm<;>intro _ hm
 apply vb hm<;>intro _ hm
 apply vb hm<;>intro _ hm
 cases hm
 exact c8a (c7Y _)
 cases hm
 exact c8a (c7Y _)
 cases hm
 exact c8a (c7Y _)
 cases hm
 exact c8a (c7Y _)
 obtain⟨e141,hx142,hm⟩:=b9 hm
 refine⟨E1 hx142, ?_⟩
 obtain⟨e143,hx144,hm⟩:=b9 hm
 refine⟨_,A5 (fun _=>rfl) hx144,_,I5 (y:=x132) (fun _=>rfl) hx144, ?_⟩
 refine VIf.f h114 ?_
 refine VIf.t h131 ?_
 rw [show(([]:List a8)++w.all).length=((([]:List a8)++w.all).set x1.toNat x132).length from by simp only [List.length_set]]
 refine co hm (D4 ((⟨((([]:List a8)++w.all).set x1.toNat x132),w.calls,w.told⟩:j0)) x1) ?_
 rintro⟨x145,x146⟩ hm
 cases hm
 exact c8a (c7Y _)
 apply vb hm<;>intro _ hm
 refine cy hm (b2Z e5) ?_
 rintro⟨x149,x150⟩ hm
 apply vb hm<;>intro _ hm
 refine⟨rfl, ?_⟩
 refine cy hm (a2a x150) fun x153 hm=> ?_
 apply vb hm<;>intro _ hm
 apply vb hm<;>intro _ hm
 apply vb hm<;>intro _ hm
 cases hm
 exact c8a (c7Y _)
 cases hm
 exact c8a (c7Y _)
 cases hm
 exact c8a (c7Y _)
 cases hm
 exact c8a (c7Y _)
 obtain⟨e158,hx159,hm⟩:=b9 hm
 refine⟨E1 hx159, ?_⟩
 obtain⟨e160,hx161,hm⟩:=b9 hm
 refine⟨_,A5 (fun _=>rfl) hx161,_,I5 (y:=x149) (fun _=>rfl) hx161, ?_⟩
 refine VIf.f h114 ?_
 refine VIf.f h131 ?_
 cases hm
 exact c8a (by first|exact c7Y _|(simp only [j0.c,lD,List.length_set];exact c7Y _))
 apply vb hm<;>intro _ hm
 cases hm
 exact c8a (c7Y _)
 refine⟨rfl, ?_⟩
 refine cy hm (E8 y.Pick ((w.calls.length:Int))) fun x163 hm=> ?_
 obtain⟨e165,hx166,hm⟩:=b9 hm
 refine⟨_,q8 (fun _=>rfl) hx166, ?_⟩
 apply vb hm<;>intro _ hm
 cases hm
 exact c8a (c7Y _)
 apply vb hm<;>intro _ hm
 cases hm
 exact c8a (c7Y _)
 refine⟨rfl, ?_⟩
 obtain⟨e169,hx170,hm⟩:=b9 hm
 refine⟨E1 hx170, ?_⟩
 obtain⟨e171,hx172,hm⟩:=b9 hm
 refine⟨_,A5 (fun _=>rfl) hx172, ?_⟩
 refine cy hm (Y2 e171 e165) ?_
 rintro⟨x173,x174⟩ hm
 apply vb hm<;>intro _ hm
 refine⟨rfl, ?_⟩
 refine cy hm (a2a x174) fun x177 hm=> ?_
 apply vb hm<;>intro _ hm
 apply vb hm<;>intro _ hm
 apply vb hm<;>intro _ hm
 cases hm
 exact c8a (c7Y _)
 cases hm
 exact c8a (c7Y _)
 cases hm
 exact c8a (c7Y _)
 cases hm
 exact c8a (c7Y _)
 obtain⟨e182,hx183,hm⟩:=b9 hm
 refine⟨E1 hx183, ?_⟩
 obtain⟨e184,hx185,hm⟩:=b9 hm
 refine⟨_,A5 (fun _=>rfl) hx185,_,I5 (y:=x173) (fun _=>rfl) hx185, ?_⟩
 refine VIf.f h114 ?_
 refine VIf.f h131 ?_
 cases hm
 exact c8a (by first|exact c7Y _|(simp only [j0.c,lD,List.length_set];exact c7Y _))
def R5 (p:I3) (night:Int):Int→Option (Sum Int (Sum Int (Int×Bool))):=fun v8=>
 if(decide (v8<(p.Station.Now.Heard.length:Int)))=true then
  Option.bind (idx p.Station.Now.Heard v8) fun e17=>
  if(e17.Night==night)=true then
   Option.bind (N7 e17.Mask) fun x20=>
   if x20=true then
    some (.inr (.inr (e17.Value,true)))
   else
    some (.inl (W (v8+1)))
  else
   some (.inl (W (v8+1)))
 else
  some (.inr (.inl v8))
def X3 (p:I3) (night:Int):Option (Int×Bool):=
 Option.bind (s9 (R5 p night) 0) fun e=>
 match e with
 | .inl v23=>
  some (0,false)
 | .inr rr24=>
  some rr24
theorem a6A (p:I3) (night:Int) (r:(Int×Bool)) (hm:X3 p night=some r):l8 Tryz.prog 103 [.ptr (I3.c p) 0,DI night] (fun x=>x= .tup [DI r.1,DB r.2]):=by
 refine zn Tryz.func103 rfl ?_
 obtain⟨ev25,he,hk26⟩:=b9 hm
 refine c8b (R5 p night) (fun v8=>⟨[(0, .ptr (I3.c p) 0),(1,DI night),(4,DI 0),(5,DB false),(13,lD 4 p.Station.Now.Heard c9.c),(14,DI (p.Station.Now.Heard.length:Int)),(15,DI v8)], [],0⟩) 0 (i4.of 0 rfl (tA rfl) trivial) he ?_
 rintro fu27 v8 b hm hi28
 apply vb hm<;>intro _ hm
 obtain⟨e30,hx31,hm⟩:=b9 hm
 refine⟨_,q8 (fun _=>rfl) hx31, ?_⟩
 apply vb hm<;>intro _ hm
 refine cy hm (a1e e30.Mask) fun x33 hm=> ?_
 apply vb hm<;>intro _ hm
 cases hm
 cases hi28
 have hm:=hk26
 cases hm
 exact c8a (c7Y _)
 cases hm
 exact⟨(_,(W (v8+1))),i4.of 0 rfl (tA rfl) trivial,hi28,Nat.lt_succ_self _⟩
 cases hm
 exact⟨(_,(W (v8+1))),i4.of 0 rfl (tA rfl) trivial,hi28,Nat.lt_succ_self _⟩
 cases hm
 cases hi28
 have hm:=hk26
 cases hm
 exact c8a (c7Y _)
def a1H (x:a8) (night:Int):Option (Int×Int):=
 Option.bind (S9 x) fun⟨x1,x2⟩=>
 b2G x1 (
  if(x2 !=0)=true then
   some (0,x2)
  else
   Option.bind (u6 night) fun x6=>
   if(!x6)=true then
    some (0,6)
   else
    none) fun p4=>
 if(x2 !=0)=true then
  some (0,x2)
 else
  Option.bind (u6 night) fun x10=>
  if(!x10)=true then
   some (0,6)
  else
   Option.bind (X3 p4 night) fun⟨x13,x14⟩=>
   if(!x14)=true then
    some (0,96)
   else
    some (x13,0)
theorem a3u (x:a8) (night:Int) (r:(Int×Int)) (hm:a1H x night=some r):l8 Tryz.prog 49 [.agg (a8.c x),DI night] (fun x=>x= .tup [DI r.1,DI r.2]):=by
 refine zn Tryz.func49 rfl ?_
 refine cy hm (a3g x) ?_
 rintro⟨x1,x2⟩ hm
 rcases x1 with _|p4
 replace hm:=a9i hm
 apply vb hm<;>intro _ hm
 cases hm
 exact c8a (c7Y _)
 refine cy hm (B2 night) fun x6 hm=> ?_
 apply vb hm<;>intro _ hm
 cases hm
 exact c8a (c7Y _)
 cases hm
 replace hm:=a8G hm
 apply vb hm<;>intro _ hm
 cases hm
 exact c8a (c7Y _)
 refine cy hm (B2 night) fun x10 hm=> ?_
 apply vb hm<;>intro _ hm
 cases hm
 exact c8a (c7Y _)
 refine cy hm (a6A p4 night) ?_
 rintro⟨x13,x14⟩ hm
 apply vb hm<;>intro _ hm
 cases hm
 exact c8a (c7Y _)
 cases hm
 exact c8a (c7Y _)
def B8 (v470:(List a8)) (i500:Int) (v502:Int) (v503:Int) (v504:Int):(Int×(List b8))→Option (Sum (Int×(List b8)) (Sum (Int×(List b8)) ((List b8)×Int×Int×Int×Bool))):=fun(to_568,v569)=>
 if(decide (to_568<6))=true then
  Option.bind (idx v470 i500) fun e580=>
  Option.bind (idx v470 i500) fun e582=>
  Option.bind (U7 e582 to_568) fun⟨x584,x585⟩=>
  if(x585 !=0)=true then
   some (.inr (.inr (v569,v502,v503,v504,false)))
  else
   gd ((([]:List b8).length+v569.length)*88≤140737488355328∧([]:List b8).length+v569.length≤9223372036854775807)<|
   gd (((([]:List b8)++v569).length+x584.length)*88≤140737488355328∧(([]:List b8)++v569).length+x584.length≤9223372036854775807)<|
   some (.inl ((W (to_568+1)),((([]:List b8)++v569)++x584)))
 else
  some (.inr (.inl (to_568,v569)))
def a0L (v470:(List a8)) (i500:Int) (v501:(List b8)) (v502:Int) (v503:Int) (v504:Int):Option ((List b8)×Int×Int×Int×Bool):=
 Option.bind (s9 (B8 v470 i500 v502 v503 v504) (0,v501)) fun e=>
 match e with
 | .inl (to_588,v589)=>
  some (v589,v502,v503,v504,true)
 | .inr rr590=>
  some rr590
def S2 (l:(List N9)):(Bool×Int×(List a8)×(List b8)×Int×Int×Int)→Option (Sum (Bool×Int×(List a8)×(List b8)×Int×Int×Int) (Bool×Int×(List a8)×(List b8)×Int×Int×Int)):=fun(is11,i12,v13,v14,v15,v16,v17)=>
 if(decide (i12<(l.length:Int)))=true then
  if(decide (i12<30))=true then
   if is11=true then
    Option.bind (idx l i12) fun e29=>
    Option.bind (a0H (⟨v13,v14,(v15,v16,v17)⟩:j0) e29) fun⟨x31,x32⟩=>
    some (.inl (x32,(W (i12+1)),x31.all,x31.calls,x31.told.1,x31.told.2.1,x31.told.2.2))
   else
    some (.inr (is11,i12,v13,v14,v15,v16,v17))
  else
   some (.inr (is11,i12,v13,v14,v15,v16,v17))
 else
  some (.inr (is11,i12,v13,v14,v15,v16,v17))
def L9 (v36:(List a8)):(Int×Int)→Option (Sum (Int×Int) (Int×Int)):=fun(greatest51,i52)=>
 if(decide (i52<(v36.length:Int)))=true then
  Option.bind (idx v36 i52) fun e59=>
  Option.bind (idx v36 i52) fun e61=>
  some (.inl ((if e61.Safe.Round>(if e59.Now.Round>greatest51 then e59.Now.Round else greatest51)then e61.Safe.Round else(if e59.Now.Round>greatest51 then e59.Now.Round else greatest51)),(W (i52+1))))
 else
  some (.inr (greatest51,i52))
def M0 (n:(Int×Int×Int)) (x44:Int) (greatest63:Int):(Int×Int×(List d0)×(List d9)×(List c9)×(List c0)×(List d7)×Int×(List d0)×(List d9)×(List c9)×(List c0)×(List d7))→Option (Sum (Int×Int×(List d0)×(List d9)×(List c9)×(List c0)×(List d7)×Int×(List d0)×(List d9)×(List c9)×(List c0)×(List d7)) (Sum (Int×Int×(List d0)×(List d9)×(List c9)×(List c0)×(List d7)×Int×(List d0)×(List d9)×(List c9)×(List c0)×(List d7)) Bool)):=fun(v75,v76,v77,v78,v79,v80,v81,v82,v83,v84,v85,v86,v87)=>
 if(decide (v76≤greatest63))=true then
  Option.bind (G4 n.2.2 9) fun x97=>
  Option.bind (Q0 (⟨v75,(⟨v76,v77,v78,v79,v80,v81⟩:c8),(⟨v82,v83,v84,v85,v86,v87⟩:c8)⟩:a8) x44 (W (1+x97))) fun⟨x99,x100⟩=>
  if(x100 !=0)=true then
   some (.inr (.inr false))
  else
   if(x99.Now.Round !=(W (v76+1)))=true then
    some (.inr (.inr false))
   else
    some (.inl (x99.Me,x99.Now.Round,x99.Now.Slots,x99.Now.Bids,x99.Now.Heard,x99.Now.Leases,x99.Now.Loans,x99.Safe.Round,x99.Safe.Slots,x99.Safe.Bids,x99.Safe.Heard,x99.Safe.Leases,x99.Safe.Loans))
 else
  some (.inr (.inl (v75,v76,v77,v78,v79,v80,v81,v82,v83,v84,v85,v86,v87)))
def I8:(Int×(List a8))→Option (Sum (Int×(List a8)) (Sum (Int×(List a8)) Bool)):=fun(i441,v442)=>
 if(decide (i441<(v442.length:Int)))=true then
  Option.bind (idx v442 i441) fun e457=>
  Option.bind (idx v442 i441) fun e459=>
  Option.bind (R1 e459) fun⟨x461,x462⟩=>
  if(x462 !=0)=true then
   some (.inr (.inr false))
  else
   Option.bind (idx v442 i441) fun e465=>
   Option.bind (idx v442 i441) fun e467=>
   some (.inl ((W (i441+1)),(v442.set i441.toNat x461)))
 else
  some (.inr (.inl (i441,v442)))
def I6 (v470:(List a8)):(Bool×Int×(List b8)×Int×Int×Int)→Option (Sum (Bool×Int×(List b8)×Int×Int×Int) (Sum (Bool×Int×(List b8)×Int×Int×Int) Bool)):=fun(is499,i500,v501,v502,v503,v504)=>
 if(decide (i500<(v470.length:Int)))=true then
  Option.bind (a0L v470 i500 v501 v502 v503 v504) fun⟨x555,x556,x557,x558,x559⟩=>
  if(!x559)=true then
   some (.inr (.inr false))
  else
   some (.inl (x559,(W (i500+1)),x555,x556,x557,x558))
 else
  some (.inr (.inl (is499,i500,v501,v502,v503,v504)))
def I7 (v596:(List b8)):(Int×(List a8))→Option (Sum (Int×(List a8)) (Sum (Int×(List a8)) Bool)):=fun(i622,v623)=>
 if(decide (i622<(v596.length:Int)))=true then
  Option.bind (idx v596 i622) fun e647=>
  if(decide (e647.To<0))=true then
   some (.inr (.inr false))
  else
   if(decide (e647.To≥(v623.length:Int)))=true then
    some (.inr (.inr false))
   else
    Option.bind (idx v623 e647.To) fun e651=>
    Option.bind (idx v623 e647.To) fun e653=>
    Option.bind (idx v596 i622) fun e655=>
    Option.bind (Q6 e653 e655) fun⟨x657,x658⟩=>
    if(x658==2)=true then
     Option.bind (a4u) fun x661=>
     some (.inr (.inr x661))
    else
     if(x658 !=0)=true then
      some (.inr (.inr false))
     else
      Option.bind (idx v623 e647.To) fun e664=>
      Option.bind (idx v623 e647.To) fun e666=>
      some (.inl ((W (i622+1)),(v623.set e647.To.toNat x657)))
 else
  some (.inr (.inl (i622,v623)))
def o6:(Bool×Int×(List b8)×Int×Int×Int×(List a8))→Option (Sum (Bool×Int×(List b8)×Int×Int×Int×(List a8)) (Sum (Bool×Int×(List b8)×Int×Int×Int×(List a8)) Bool)):=fun(is270,round271,v272,v273,v274,v275,v276)=>
 if(decide (round271<4))=true then
  Option.bind (s9 I8 (0,v276)) fun e=>
  match e with
  | .inl (i469,v470)=>
   Option.bind (s9 (I6 v470) (is270,0, [],v273,v274,v275)) fun e=>
   match e with
   | .inl (is594,i595,v596,v597,v598,v599)=>
    Option.bind (s9 (I7 v596) (0,v470)) fun e=>
    match e with
    | .inl (i668,v669)=>
     some (.inl (is594,(W (round271+1)),v596,v597,v598,v599,v669))
    | .inr rr670=>
     some (.inr (.inr rr670))
   | .inr rr671=>
    some (.inr (.inr rr671))
  | .inr rr672=>
   some (.inr (.inr rr672))
 else
  some (.inr (.inl (is270,round271,v272,v273,v274,v275,v276)))
def I9 (x44:Int) (v679:(List a8)):(Int×Int)→Option (Sum (Int×Int) (Sum (Int×Int) Bool)):=fun(first689,i690)=>
 if(decide (i690<(v679.length:Int)))=true then
  Option.bind (idx v679 i690) fun e703=>
  Option.bind (idx v679 i690) fun e705=>
  Option.bind (a1H e705 x44) fun⟨x707,x708⟩=>
  if(x708 !=0)=true then
   some (.inr (.inr false))
  else
   if(decide (i690>0))=true then
    if(x707 !=first689)=true then
     some (.inr (.inr false))
    else
     some (.inl (x707,(W (i690+1))))
   else
    some (.inl (x707,(W (i690+1))))
 else
  some (.inr (.inl (first689,i690)))
def a3f (l:(List N9)) (n:(Int×Int×Int)):Option Bool:=
 Option.bind (a6w) fun⟨x1,x2⟩=>
 Option.bind (s9 (S2 l) (x2,0,x1.all,x1.calls,x1.told.1,x1.told.2.1,x1.told.2.2)) fun(is34,i35,v36,v37,v38,v39,v40)=>
 if(!is34)=true then
  some false
 else
  Option.bind (G4 n.1 6) fun x42=>
  Option.bind (G4 n.2.1 3) fun x44=>
  Option.bind (s9 (L9 v36) (0,0)) fun(greatest63,i64)=>
  Option.bind (idx v36 x42) fun e65=>
  Option.bind (s9 (M0 n x44 greatest63) (e65.Me,e65.Now.Round,e65.Now.Slots,e65.Now.Bids,e65.Now.Heard,e65.Now.Leases,e65.Now.Loans,e65.Safe.Round,e65.Safe.Slots,e65.Safe.Bids,e65.Safe.Heard,e65.Safe.Leases,e65.Safe.Loans)) fun e=>
  match e with
  | .inl (v104,v105,v106,v107,v108,v109,v110,v111,v112,v113,v114,v115,v116)=>
   gd ((([]:List a8).length+v36.length)*264≤140737488355328∧([]:List a8).length+v36.length≤9223372036854775807)<|
   Option.bind (idx (([]:List a8)++v36) x42) fun e117=>
   Option.bind (idx (([]:List a8)++v36) x42) fun e119=>
   Option.bind (s9 o6 (is34,0,v37,v38,v39,v40,((([]:List a8)++v36).set x42.toNat (⟨v104,(⟨v105,v106,v107,v108,v109,v110⟩:c8),(⟨v111,v112,v113,v114,v115,v116⟩:c8)⟩:a8)))) fun e=>
   match e with
   | .inl (is673,round674,v675,v676,v677,v678,v679)=>
    Option.bind (s9 (I9 x44 v679) (0,0)) fun e=>
    match e with
    | .inl (first713,i714)=>
     Option.bind (a4u) fun x715=>
     some x715
    | .inr rr717=>
     some rr717
   | .inr rr718=>
    some rr718
  | .inr rr719=>
   some rr719
theorem a9J (l:(List N9)) (n:(Int×Int×Int)) (r:Bool) (hm:a3f l n=some r):l8 Tryz.prog 8 [lD 9 l N9.c, .agg [DI n.1,DI n.2.1,DI n.2.2]] (fun x=>x=DB r):=by
 refine zy pl8 [99,106,149,210,211,220] [] [48] Tryz.func8 rfl ?_
 refine cy hm (b6o) ?_
 rintro⟨x1,x2⟩ hm
 obtain⟨ev720,he,hk721⟩:=b9 hm
 refine c8b (S2 l) (fun(is11,i12,v13,v14,v15,v16,v17)=>⟨[(0,lD 9 l N9.c),(1, .agg [DI n.1,DI n.2.1,DI n.2.2]),(3, .own 0 0),(4,DB false),(5, .own 1 0),(6,DB is11),(7,DI i12)], [(0, .blk [DI n.1,DI n.2.1,DI n.2.2] 52),(1, .blk [lD 13 v13 a8.c,lD 11 v14 b8.c,DI v15,DI v16,DI v17] 79)],2⟩) (x2,0,x1.all,x1.calls,x1.told.1,x1.told.2.1,x1.told.2.2) (i4.of 2 rfl (tA rfl) ⟨hR rfl,hR rfl,trivial⟩) he ?_
 rintro fu722 ⟨is11,i12,v13,v14,v15,v16,v17⟩ b hm hi723
 apply vb hm<;>intro _ hm
 apply vb hm<;>intro _ hm
 apply vb hm<;>intro _ hm
 refine⟨rfl, ?_⟩
 obtain⟨e727,hx728,hm⟩:=b9 hm
 refine⟨_,q8 (fun _=>rfl) hx728, ?_⟩
 refine cy hm (b0J ((⟨v13,v14,(v15,v16,v17)⟩:j0)) e727) ?_
 rintro⟨x729,x730⟩ hm
 cases hm
 exact⟨(_,(x730,(W (i12+1)),x729.all,x729.calls,x729.told.1,x729.told.2.1,x729.told.2.2)),i4.of 2 rfl (tA rfl) ⟨hR rfl,hR rfl,trivial⟩,hi723,Nat.lt_succ_self _⟩
 cases hm
 cases hi723
 have hm:=hk721
 apply vb hm<;>intro _ hm
 exact hm.rr
 refine⟨by decide, ?_⟩
 refine cy hm (E8 n.1 6) fun x733 hm=> ?_
 refine⟨by decide, ?_⟩
 refine cy hm (E8 n.2.1 3) fun x735 hm=> ?_
 obtain⟨ev1411,he,hk1412⟩:=b9 hm
 refine c8b (L9 v13) (fun(greatest742,i743)=>⟨[(0,lD 9 l N9.c),(1, .agg [DI n.1,DI n.2.1,DI n.2.2]),(3, .own 0 0),(4,DB false),(5, .own 1 0),(6,DB is11),(7,DI i12),(8,DI x733),(9,DI x735),(10,DI greatest742),(11,DI i743),(42,DB is11),(55,DB (!is11))], [(0, .blk [DI n.1,DI n.2.1,DI n.2.2] 52),(1, .blk [lD 13 v13 a8.c,lD 11 v14 b8.c,DI v15,DI v16,DI v17] 79)],2⟩) (0,0) (i4.of 2 rfl (tA rfl) ⟨hR rfl,hR rfl,trivial⟩) he ?_
 rintro fu1413 ⟨greatest742,i743⟩ b hm hi1414
 apply vb hm<;>intro _ hm
 refine⟨rfl, ?_⟩
 obtain⟨e1416,hx1417,hm⟩:=b9 hm
 refine⟨_,q8 (fun _=>rfl) hx1417, ?_⟩
 obtain⟨e1418,hx1419,hm⟩:=b9 hm
 refine⟨_,q8 (fun _=>rfl) hx1419, ?_⟩
 cases hm
 exact⟨(_,((if e1418.Safe.Round>(if e1416.Now.Round>greatest742 then e1416.Now.Round else greatest742)then e1418.Safe.Round else(if e1416.Now.Round>greatest742 then e1416.Now.Round else greatest742)),(W (i743+1)))),i4.of 2 rfl (tA rfl) ⟨hR rfl,hR rfl,trivial⟩,hi1414,Nat.lt_succ_self _⟩
 cases hm
 cases hi1414
 have hm:=hk1412
 obtain⟨e1420,hx1421,hm⟩:=b9 hm
 refine⟨_,q8 (fun _=>rfl) hx1421, ?_⟩
 obtain⟨ev2075,he,hk2076⟩:=b9 hm
 refine c8b (M0 n x735 greatest742) (fun(v1430,v1431,v1432,v1433,v1434,v1435,v1436,v1437,v1438,v1439,v1440,v1441,v1442)=>⟨[(0,lD 9 l N9.c),(1, .agg [DI n.1,DI n.2.1,DI n.2.2]),(3, .own 0 0),(4,DB false),(5, .own 1 0),(6,DB is11),(7,DI i12),(8,DI x733),(9,DI x735),(10,DI greatest742),(11,DI i743),(12, .own 2 0),(42,DB is11),(55,DB (!is11)),(66,DB (decide (i743<(v13.length:Int))))], [(0, .blk [DI n.1,DI n.2.1,DI n.2.2] 52),(1, .blk [lD 13 v13 a8.c,lD 11 v14 b8.c,DI v15,DI v16,DI v17] 79),(2, .blk [DI v1430,DI v1431,lD 4 v1432 d0.c,lD 6 v1433 d9.c,lD 4 v1434 c9.c,lD 5 v1435 c0.c,lD 6 v1436 d7.c,DI v1437,lD 4 v1438 d0.c,lD 6 v1439 d9.c,lD 4 v1440 c9.c,lD 5 v1441 c0.c,lD 6 v1442 d7.c] 30)],3⟩) (e1420.Me,e1420.Now.Round,e1420.Now.Slots,e1420.Now.Bids,e1420.Now.Heard,e1420.Now.Leases,e1420.Now.Loans,e1420.Safe.Round,e1420.Safe.Slots,e1420.Safe.Bids,e1420.Safe.Heard,e1420.Safe.Leases,e1420.Safe.Loans) (i4.of 3 rfl (tA rfl) ⟨hR rfl,hR rfl,hR rfl,trivial⟩) he ?_
 rintro fu2077 ⟨v1430,v1431,v1432,v1433,v1434,v1435,v1436,v1437,v1438,v1439,v1440,v1441,v1442⟩ b hm hi2078
 apply vb hm<;>intro _ hm
 refine⟨rfl, ?_⟩
 refine⟨by decide, ?_⟩
 refine cy hm (E8 n.2.2 9) fun x2080 hm=> ?_
 refine cy hm (U0 ((⟨v1430,(⟨v1431,v1432,v1433,v1434,v1435,v1436⟩:c8),(⟨v1437,v1438,v1439,v1440,v1441,v1442⟩:c8)⟩:a8)) x735 (W (1+x2080))) ?_
 rintro⟨x2082,x2083⟩ hm
 apply vb hm<;>intro _ hm
 cases hm
 cases hi2078
 have hm:=hk2076
 exact hm.rr
 apply vb hm<;>intro _ hm
 cases hm
 cases hi2078
 have hm:=hk2076
 exact hm.rr
 cases hm
 exact⟨(_,(x2082.Me,x2082.Now.Round,x2082.Now.Slots,x2082.Now.Bids,x2082.Now.Heard,x2082.Now.Leases,x2082.Now.Loans,x2082.Safe.Round,x2082.Safe.Slots,x2082.Safe.Bids,x2082.Safe.Heard,x2082.Safe.Leases,x2082.Safe.Loans)),i4.of 3 rfl (tA rfl) ⟨hR rfl,hR rfl,hR rfl,trivial⟩,hi2078,Nat.lt_succ_self _⟩
 cases hm
 cases hi2078
 have hm:=hk2076
 refine⟨([]:List a8).flatMap a8.c,([]:List a8).length,⟨rfl,rfl⟩, ?_⟩
 obtain⟨hg,hm⟩:=n9 hm
 refine⟨hg,_,_,O1 (c:=a8.c) (l:=(([]:List a8):List a8)) (r:=(v13:List a8)), ?_⟩
 obtain⟨e2087,hx2088,hm⟩:=b9 hm
 refine⟨E1 hx2088, ?_⟩
 obtain⟨e2089,hx2090,hm⟩:=b9 hm
 refine⟨_,A5 (fun _=>rfl) hx2090,_,I5 (y:=(⟨v1430,(⟨v1431,v1432,v1433,v1434,v1435,v1436⟩:c8),(⟨v1437,v1438,v1439,v1440,v1441,v1442⟩:c8)⟩:a8)) (fun _=>rfl) hx2090, ?_⟩
 obtain⟨ev2689,he,hk2690⟩:=b9 hm
 refine c8b o6 (fun(is2240,round2241,v2242,v2243,v2244,v2245,v2246)=>⟨[(0,lD 9 l N9.c),(1, .agg [DI n.1,DI n.2.1,DI n.2.2]),(3, .own 0 0),(4,DB false),(5, .own 1 0),(6,DB is2240),(7,DI i12),(8,DI x733),(9,DI x735),(10,DI greatest742),(11,DI i743),(12, .own 2 0),(15,DI round2241),(42,DB is11),(55,DB (!is11)),(66,DB (decide (i743<(v13.length:Int)))),(94,DB (decide (v1431≤greatest742)))], [(0, .blk [DI n.1,DI n.2.1,DI n.2.2] 52),(1, .blk [.row 3 13,lD 11 v2242 b8.c,DI v2243,DI v2244,DI v2245] 79),(2, .blk [DI v1430,DI v1431,lD 4 v1432 d0.c,lD 6 v1433 d9.c,lD 4 v1434 c9.c,lD 5 v1435 c0.c,lD 6 v1436 d7.c,DI v1437,lD 4 v1438 d0.c,lD 6 v1439 d9.c,lD 4 v1440 c9.c,lD 5 v1441 c0.c,lD 6 v1442 d7.c] 30),(3,rE 13 v2246 a8.c 30)],4⟩) (is11,0,v14,v15,v16,v17,((([]:List a8)++v13).set x733.toNat (⟨v1430,(⟨v1431,v1432,v1433,v1434,v1435,v1436⟩:c8),(⟨v1437,v1438,v1439,v1440,v1441,v1442⟩:c8)⟩:a8))) (i4.of 4 rfl (tA rfl) ⟨hR rfl,hR rfl,hR rfl,hW rfl,trivial⟩) he ?_
 rintro fu2691 ⟨is2240,round2241,v2242,v2243,v2244,v2245,v2246⟩ b hm hi2692
 apply vb hm<;>intro _ hm
 obtain⟨ev2939,he,hk2940⟩:=b9 hm
 refine c8b I8 (fun(i2707,v2708)=>⟨[(0,lD 9 l N9.c),(1, .agg [DI n.1,DI n.2.1,DI n.2.2]),(3, .own 0 0),(4,DB false),(5, .own 1 0),(6,DB is2240),(7,DI i12),(8,DI x733),(9,DI x735),(10,DI greatest742),(11,DI i743),(12, .own 2 0),(15,DI round2241),(16,DI i2707),(42,DB is11),(55,DB (!is11)),(66,DB (decide (i743<(v13.length:Int)))),(94,DB (decide (v1431≤greatest742))),(129,DB (decide (round2241<4)))], [(0, .blk [DI n.1,DI n.2.1,DI n.2.2] 52),(1, .blk [.row 3 13,nS,DI v2243,DI v2244,DI v2245] 79),(2, .blk [DI v1430,DI v1431,lD 4 v1432 d0.c,lD 6 v1433 d9.c,lD 4 v1434 c9.c,lD 5 v1435 c0.c,lD 6 v1436 d7.c,DI v1437,lD 4 v1438 d0.c,lD 6 v1439 d9.c,lD 4 v1440 c9.c,lD 5 v1441 c0.c,lD 6 v1442 d7.c] 30),(3,rE 13 v2708 a8.c 30)],4⟩) (0,v2246) (i4.of 4 rfl (tA rfl) ⟨hR rfl,hR rfl,hR rfl,hW rfl,trivial⟩) he ?_
 rintro fu2941 ⟨i2707,v2708⟩ b hm hi2942
 apply vb hm<;>intro _ hm
 obtain⟨e2944,hx2945,hm⟩:=b9 hm
 refine⟨E1 hx2945, ?_⟩
 obtain⟨e2946,hx2947,hm⟩:=b9 hm
 refine⟨_,A5 (fun _=>rfl) hx2947, ?_⟩
 refine cy hm (Z4 e2946) ?_
 rintro⟨x2948,x2949⟩ hm
 apply vb hm<;>intro _ hm
 cases hm
 cases hi2942
 have hm:=hk2940
 cases hm
 cases hi2692
 have hm:=hk2690
 exact hm.rr
 obtain⟨e2952,hx2953,hm⟩:=b9 hm
 refine⟨E1 hx2953, ?_⟩
 obtain⟨e2954,hx2955,hm⟩:=b9 hm
 refine⟨_,A5 (fun _=>rfl) hx2955,_,I5 (y:=x2948) (fun _=>rfl) hx2955, ?_⟩
 cases hm
 exact⟨(_,((W (i2707+1)),(v2708.set i2707.toNat x2948))),i4.of 4 rfl (tA rfl) ⟨hR rfl,hR rfl,hR rfl,hW rfl,trivial⟩,hi2942,Nat.lt_succ_self _⟩
 cases hm
 cases hi2942
 have hm:=hk2940
 obtain⟨ev3157,he,hk3158⟩:=b9 hm
 refine c8b (I6 v2708) (fun(is2984,i2985,v2986,v2987,v2988,v2989)=>⟨[(0,lD 9 l N9.c),(1, .agg [DI n.1,DI n.2.1,DI n.2.2]),(3, .own 0 0),(4,DB false),(5, .own 1 0),(6,DB is2984),(7,DI i12),(8,DI x733),(9,DI x735),(10,DI greatest742),(11,DI i743),(12, .own 2 0),(15,DI round2241),(16,DI i2707),(19,DI i2985),(42,DB is11),(55,DB (!is11)),(66,DB (decide (i743<(v13.length:Int)))),(94,DB (decide (v1431≤greatest742))),(129,DB (decide (round2241<4))),(137,DB (decide (i2707<(v2708.length:Int))))], [(0, .blk [DI n.1,DI n.2.1,DI n.2.2] 52),(1, .blk [.row 3 13,lD 11 v2986 b8.c,DI v2987,DI v2988,DI v2989] 79),(2, .blk [DI v1430,DI v1431,lD 4 v1432 d0.c,lD 6 v1433 d9.c,lD 4 v1434 c9.c,lD 5 v1435 c0.c,lD 6 v1436 d7.c,DI v1437,lD 4 v1438 d0.c,lD 6 v1439 d9.c,lD 4 v1440 c9.c,lD 5 v1441 c0.c,lD 6 v1442 d7.c] 30),(3,rE 13 v2708 a8.c 30)],4⟩) (is2240,0, [],v2243,v2244,v2245) (i4.of 4 rfl (tA rfl) ⟨hR rfl,⟨_,rfl,⟨c7Y _,c7Z,c7Y _,c7Y _,c7Y _,trivial⟩⟩,hR rfl,hW rfl,trivial⟩) he ?_
 rintro fu3159 ⟨is2984,i2985,v2986,v2987,v2988,v2989⟩ b hm hi3160
 apply vb hm<;>intro _ hm
 obtain⟨ev3219,he3220,hm⟩:=b9 hm
 refine O9.ofZ pok ⟨[(0, .agg [.row 3 13,lD 11 v2986 b8.c,DI v2987,DI v2988,DI v2989]),(1,DI i2985),(1000000,lD 9 l N9.c),(1000001, .agg [DI n.1,DI n.2.1,DI n.2.2]),(1000003, .own 0 0),(1000004,DB false),(1000005, .own 1 0),(1000006,DB is2984),(1000007,DI i12),(1000008,DI x733),(1000009,DI x735),(1000010,DI greatest742),(1000011,DI i743),(1000012, .own 2 0),(1000015,DI round2241),(1000016,DI i2707),(1000019,DI i2985),(1000042,DB is11),(1000055,DB (!is11)),(1000066,DB (decide (i743<(v13.length:Int)))),(1000094,DB (decide (v1431≤greatest742))),(1000129,DB (decide (round2241<4))),(1000137,DB (decide (i2707<(v2708.length:Int)))),(1000160,DB (decide (i2985<(v2708.length:Int))))], [(0, .blk [DI n.1,DI n.2.1,DI n.2.2] 52),(1, .blk [.row 3 13,lD 11 v2986 b8.c,DI v2987,DI v2988,DI v2989] 79),(2, .blk [DI v1430,DI v1431,lD 4 v1432 d0.c,lD 6 v1433 d9.c,lD 4 v1434 c9.c,lD 5 v1435 c0.c,lD 6 v1436 d7.c,DI v1437,lD 4 v1438 d0.c,lD 6 v1439 d9.c,lD 4 v1440 c9.c,lD 5 v1441 c0.c,lD 6 v1442 d7.c] 30),(3,rE 13 v2708 a8.c 30)],4⟩ (match ev3219 with|(x3183,x3184,x3185,x3186,x3187)=>(⟨[(0,lD 9 l N9.c),(1, .agg [DI n.1,DI n.2.1,DI n.2.2]),(3, .own 0 0),(4,DB false),(5, .own 1 0),(6,DB is2984),(7,DI i12),(8,DI x733),(9,DI x735),(10,DI greatest742),(11,DI i743),(12, .own 2 0),(15,DI round2241),(16,DI i2707),(19,DI i2985),(42,DB is11),(55,DB (!is11)),(66,DB (decide (i743<(v13.length:Int)))),(94,DB (decide (v1431≤greatest742))),(129,DB (decide (round2241<4))),(137,DB (decide (i2707<(v2708.length:Int)))),(160,DB (decide (i2985<(v2708.length:Int)))),(166, .tup [.agg [.row 3 13,lD 11 x3183 b8.c,DI x3184,DI x3185,DI x3186],DB x3187])], [(0, .blk [DI n.1,DI n.2.1,DI n.2.2] 52),(1, .blk [.row 3 13,lD 11 v2986 b8.c,DI v2987,DI v2988,DI v2989] 79),(2, .blk [DI v1430,DI v1431,lD 4 v1432 d0.c,lD 6 v1433 d9.c,lD 4 v1434 c9.c,lD 5 v1435 c0.c,lD 6 v1436 d7.c,DI v1437,lD 4 v1438 d0.c,lD 6 v1439 d9.c,lD 4 v1440 c9.c,lD 5 v1441 c0.c,lD 6 v1442 d7.c] 30),(3,rE 13 v2708 a8.c 30)],4⟩:Sy):Sy) [] [99,106,149,210,211,220] [] [48] Tryz.func48 rfl rfl rfl (i4.of 4 rfl (tA rfl) ⟨hR rfl,hR rfl,hR rfl,hW rfl,trivial⟩) (fun sv=> ?_) ?_
 have hm:=he3220
 obtain⟨ev3253,he,hk3254⟩:=b9 hm
 refine c8b (B8 v2708 i2985 v2987 v2988 v2989) (fun(to_3230,v3231)=>⟨[(0, .agg [.row 3 13,lD 11 v2986 b8.c,DI v2987,DI v2988,DI v2989]),(1,DI i2985),(2, .own 4 0),(4, .own 5 0),(5,DB false),(6,DI to_3230),(1000000,lD 9 l N9.c),(1000001, .agg [DI n.1,DI n.2.1,DI n.2.2]),(1000003, .own 0 0),(1000004,DB false),(1000005, .own 1 0),(1000006,DB is2984),(1000007,DI i12),(1000008,DI x733),(1000009,DI x735),(1000010,DI greatest742),(1000011,DI i743),(1000012, .own 2 0),(1000015,DI round2241),(1000016,DI i2707),(1000019,DI i2985),(1000042,DB is11),(1000055,DB (!is11)),(1000066,DB (decide (i743<(v13.length:Int)))),(1000094,DB (decide (v1431≤greatest742))),(1000129,DB (decide (round2241<4))),(1000137,DB (decide (i2707<(v2708.length:Int)))),(1000160,DB (decide (i2985<(v2708.length:Int))))], [(0, .blk [DI n.1,DI n.2.1,DI n.2.2] 52),(1, .blk [.row 3 13,lD 11 v2986 b8.c,DI v2987,DI v2988,DI v2989] 79),(2, .blk [DI v1430,DI v1431,lD 4 v1432 d0.c,lD 6 v1433 d9.c,lD 4 v1434 c9.c,lD 5 v1435 c0.c,lD 6 v1436 d7.c,DI v1437,lD 4 v1438 d0.c,lD 6 v1439 d9.c,lD 4 v1440 c9.c,lD 5 v1441 c0.c,lD 6 v1442 d7.c] 30),(3,rE 13 v2708 a8.c 30),(4, .blk [.row 3 13,lD 11 v3231 b8.c,DI v2987,DI v2988,DI v2989] 79),(5, .blk [nS,nS,DI 0,DI 0,DI 0] 79)],6⟩) (0,v2986) (i4.of 6 rfl (tA rfl) ⟨hR rfl,hR rfl,hR rfl,hW rfl,hR rfl,hR rfl,trivial⟩) he ?_
 rintro fu3255 ⟨to_3230,v3231⟩ b hm hi3256
 apply vb hm<;>intro _ hm
 obtain⟨e3258,hx3259,hm⟩:=b9 hm
 refine⟨E1 hx3259, ?_⟩
 obtain⟨e3260,hx3261,hm⟩:=b9 hm
 refine⟨_,A5 (fun _=>rfl) hx3261, ?_⟩
 refine cy hm (a1c e3260 to_3230) ?_
 rintro⟨x3262,x3263⟩ hm
 apply vb hm<;>intro _ hm
 cases hm
 cases hi3256
 have hm:=hk3254
 cases hm
 exact i4.of 4 rfl (tA rfl) ⟨hR rfl,hR rfl,hR rfl,hW rfl,trivial⟩
 refine⟨([]:List b8).flatMap b8.c,([]:List b8).length,⟨rfl,rfl⟩, ?_⟩
 obtain⟨hg,hm⟩:=n9 hm
 refine⟨hg,_,_,O1 (c:=b8.c) (l:=(([]:List b8):List b8)) (r:=(v3231:List b8)), ?_⟩
 obtain⟨hg,hm⟩:=n9 hm
 refine⟨hg,_,_,O1 (c:=b8.c) (l:=((([]:List b8)++v3231):List b8)) (r:=(x3262:List b8)), ?_⟩
 cases hm
 exact⟨(_,((W (to_3230+1)),((([]:List b8)++v3231)++x3262))),i4.fz [6] rfl 6 rfl (tA rfl) ⟨hR rfl,hR rfl,hR rfl,hW rfl,hR rfl,hR rfl,trivial⟩,hi3256,Nat.lt_succ_self _⟩
 cases hm
 cases hi3256
 have hm:=hk3254
 cases hm
 exact i4.of 4 rfl (tA rfl) ⟨hR rfl,hR rfl,hR rfl,hW rfl,trivial⟩
 obtain⟨x3183,x3184,x3185,x3186,x3187⟩:=ev3219
 apply vb hm<;>intro _ hm
 cases hm
 cases hi3160
 have hm:=hk3158
 cases hm
 cases hi2692
 have hm:=hk2690
 exact hm.rr
 cases hm
 exact⟨(_,(x3187,(W (i2985+1)),x3183,x3184,x3185,x3186)),i4.of 4 rfl (tA rfl) ⟨hR rfl,hR rfl,hR rfl,hW rfl,trivial⟩,hi3160,Nat.lt_succ_self _⟩
 cases hm
 cases hi3160
 have hm:=hk3158
 obtain⟨ev3337,he,hk3338⟩:=b9 hm
 refine c8b (I7 v2986) (fun(i3288,v3289)=>⟨[(0,lD 9 l N9.c),(1, .agg [DI n.1,DI n.2.1,DI n.2.2]),(3, .own 0 0),(4,DB false),(5, .own 1 0),(6,DB is2984),(7,DI i12),(8,DI x733),(9,DI x735),(10,DI greatest742),(11,DI i743),(12, .own 2 0),(15,DI round2241),(16,DI i2707),(19,DI i2985),(20,DI i3288),(42,DB is11),(55,DB (!is11)),(66,DB (decide (i743<(v13.length:Int)))),(94,DB (decide (v1431≤greatest742))),(129,DB (decide (round2241<4))),(137,DB (decide (i2707<(v2708.length:Int)))),(160,DB (decide (i2985<(v2708.length:Int))))], [(0, .blk [DI n.1,DI n.2.1,DI n.2.2] 52),(1, .blk [.row 3 13,lD 11 v2986 b8.c,DI v2987,DI v2988,DI v2989] 79),(2, .blk [DI v1430,DI v1431,lD 4 v1432 d0.c,lD 6 v1433 d9.c,lD 4 v1434 c9.c,lD 5 v1435 c0.c,lD 6 v1436 d7.c,DI v1437,lD 4 v1438 d0.c,lD 6 v1439 d9.c,lD 4 v1440 c9.c,lD 5 v1441 c0.c,lD 6 v1442 d7.c] 30),(3,rE 13 v3289 a8.c 30)],4⟩) (0,v2708) (i4.of 4 rfl (tA rfl) ⟨hR rfl,hR rfl,hR rfl,hW rfl,trivial⟩) he ?_
 rintro fu3339 ⟨i3288,v3289⟩ b hm hi3340
 apply vb hm<;>intro _ hm
 obtain⟨e3342,hx3343,hm⟩:=b9 hm
 refine⟨_,q8 (fun _=>rfl) hx3343, ?_⟩
 apply vb hm<;>intro _ hm
 cases hm
 cases hi3340
 have hm:=hk3338
 cases hm
 cases hi2692
 have hm:=hk2690
 exact hm.rr
 apply vb hm<;>intro _ hm
 cases hm
 cases hi3340
 have hm:=hk3338
 cases hm
 cases hi2692
 have hm:=hk2690
 exact hm.rr
 refine⟨rfl, ?_⟩
 obtain⟨e3346,hx3347,hm⟩:=b9 hm
 refine⟨E1 hx3347, ?_⟩
 obtain⟨e3348,hx3349,hm⟩:=b9 hm
 refine⟨_,A5 (fun _=>rfl) hx3349, ?_⟩
 obtain⟨e3350,hx3351,hm⟩:=b9 hm
 refine⟨_,q8 (fun _=>rfl) hx3351, ?_⟩
 refine cy hm (Y2 e3348 e3350) ?_
 rintro⟨x3352,x3353⟩ hm
 apply vb hm<;>intro _ hm
 refine cy hm (a3b) fun x3356 hm=> ?_
 cases hm
 cases hi3340
 have hm:=hk3338
 cases hm
 cases hi2692
 have hm:=hk2690
 exact hm.rr
 apply vb hm<;>intro _ hm
 cases hm
 cases hi3340
 have hm:=hk3338
 cases hm
 cases hi2692
 have hm:=hk2690
 exact hm.rr
 obtain⟨e3359,hx3360,hm⟩:=b9 hm
 refine⟨E1 hx3360, ?_⟩
 obtain⟨e3361,hx3362,hm⟩:=b9 hm
 refine⟨_,A5 (fun _=>rfl) hx3362,_,I5 (y:=x3352) (fun _=>rfl) hx3362, ?_⟩
 cases hm
 exact⟨(_,((W (i3288+1)),(v3289.set e3342.To.toNat x3352))),i4.of 4 rfl (tA rfl) ⟨hR rfl,hR rfl,hR rfl,hW rfl,trivial⟩,hi3340,Nat.lt_succ_self _⟩
 cases hm
 cases hi3340
 have hm:=hk3338
 cases hm
 exact⟨(_,(is2984,(W (round2241+1)),v2986,v2987,v2988,v2989,v3289)),i4.of 4 rfl (tA rfl) ⟨hR rfl,hR rfl,hR rfl,hW rfl,trivial⟩,hi2692,Nat.lt_succ_self _⟩
 cases hm
 cases hi2692
 have hm:=hk2690
 obtain⟨ev3401,he,hk3402⟩:=b9 hm
 refine c8b (I9 x735 v2246) (fun(first3372,i3373)=>⟨[(0,lD 9 l N9.c),(1, .agg [DI n.1,DI n.2.1,DI n.2.2]),(3, .own 0 0),(4,DB false),(5, .own 1 0),(6,DB is2240),(7,DI i12),(8,DI x733),(9,DI x735),(10,DI greatest742),(11,DI i743),(12, .own 2 0),(15,DI round2241),(24,DI first3372),(25,DI i3373),(42,DB is11),(55,DB (!is11)),(66,DB (decide (i743<(v13.length:Int)))),(94,DB (decide (v1431≤greatest742))),(129,DB (decide (round2241<4)))], [(0, .blk [DI n.1,DI n.2.1,DI n.2.2] 52),(1, .blk [.row 3 13,lD 11 v2242 b8.c,DI v2243,DI v2244,DI v2245] 79),(2, .blk [DI v1430,DI v1431,lD 4 v1432 d0.c,lD 6 v1433 d9.c,lD 4 v1434 c9.c,lD 5 v1435 c0.c,lD 6 v1436 d7.c,DI v1437,lD 4 v1438 d0.c,lD 6 v1439 d9.c,lD 4 v1440 c9.c,lD 5 v1441 c0.c,lD 6 v1442 d7.c] 30),(3,rE 13 v2246 a8.c 30)],4⟩) (0,0) (i4.of 4 rfl (tA rfl) ⟨hR rfl,hR rfl,hR rfl,hW rfl,trivial⟩) he ?_
 rintro fu3403 ⟨first3372,i3373⟩ b hm hi3404
 apply vb hm<;>intro _ hm
 obtain⟨e3406,hx3407,hm⟩:=b9 hm
 refine⟨E1 hx3407, ?_⟩
 obtain⟨e3408,hx3409,hm⟩:=b9 hm
 refine⟨_,A5 (fun _=>rfl) hx3409, ?_⟩
 refine cy hm (a3u e3408 x735) ?_
 rintro⟨x3410,x3411⟩ hm
 apply vb hm<;>intro _ hm
 cases hm
 cases hi3404
 have hm:=hk3402
 exact hm.rr
 apply vb hm<;>intro _ hm
 apply vb hm<;>intro _ hm
 cases hm
 cases hi3404
 have hm:=hk3402
 exact hm.rr
 cases hm
 exact⟨(_,(x3410,(W (i3373+1)))),i4.of 4 rfl (tA rfl) ⟨hR rfl,hR rfl,hR rfl,hW rfl,trivial⟩,hi3404,Nat.lt_succ_self _⟩
 cases hm
 exact⟨(_,(x3410,(W (i3373+1)))),i4.of 4 rfl (tA rfl) ⟨hR rfl,hR rfl,hR rfl,hW rfl,trivial⟩,hi3404,Nat.lt_succ_self _⟩
 cases hm
 cases hi3404
 have hm:=hk3402
 refine cy hm (a3b) fun x3416 hm=> ?_
 exact hm.rr
 cases hm
 cases hi723
 have hm:=hk721
 apply vb hm<;>intro _ hm
 exact hm.rr
 refine⟨by decide, ?_⟩
 refine cy hm (E8 n.1 6) fun x3419 hm=> ?_
 refine⟨by decide, ?_⟩
 refine cy hm (E8 n.2.1 3) fun x3421 hm=> ?_
 obtain⟨ev4097,he,hk4098⟩:=b9 hm
 refine c8b (L9 v13) (fun(greatest3428,i3429)=>⟨[(0,lD 9 l N9.c),(1, .agg [DI n.1,DI n.2.1,DI n.2.2]),(3, .own 0 0),(4,DB false),(5, .own 1 0),(6,DB is11),(7,DI i12),(8,DI x3419),(9,DI x3421),(10,DI greatest3428),(11,DI i3429),(42,DB false),(55,DB (!is11))], [(0, .blk [DI n.1,DI n.2.1,DI n.2.2] 52),(1, .blk [lD 13 v13 a8.c,lD 11 v14 b8.c,DI v15,DI v16,DI v17] 79)],2⟩) (0,0) (i4.of 2 rfl (tA rfl) ⟨hR rfl,hR rfl,trivial⟩) he ?_
 rintro fu4099 ⟨greatest3428,i3429⟩ b hm hi4100
 apply vb hm<;>intro _ hm
 refine⟨rfl, ?_⟩
 obtain⟨e4102,hx4103,hm⟩:=b9 hm
 refine⟨_,q8 (fun _=>rfl) hx4103, ?_⟩
 obtain⟨e4104,hx4105,hm⟩:=b9 hm
 refine⟨_,q8 (fun _=>rfl) hx4105, ?_⟩
 cases hm
 exact⟨(_,((if e4104.Safe.Round>(if e4102.Now.Round>greatest3428 then e4102.Now.Round else greatest3428)then e4104.Safe.Round else(if e4102.Now.Round>greatest3428 then e4102.Now.Round else greatest3428)),(W (i3429+1)))),i4.of 2 rfl (tA rfl) ⟨hR rfl,hR rfl,trivial⟩,hi4100,Nat.lt_succ_self _⟩
 cases hm
 cases hi4100
 have hm:=hk4098
 obtain⟨e4106,hx4107,hm⟩:=b9 hm
 refine⟨_,q8 (fun _=>rfl) hx4107, ?_⟩
 obtain⟨ev4761,he,hk4762⟩:=b9 hm
 refine c8b (M0 n x3421 greatest3428) (fun(v4116,v4117,v4118,v4119,v4120,v4121,v4122,v4123,v4124,v4125,v4126,v4127,v4128)=>⟨[(0,lD 9 l N9.c),(1, .agg [DI n.1,DI n.2.1,DI n.2.2]),(3, .own 0 0),(4,DB false),(5, .own 1 0),(6,DB is11),(7,DI i12),(8,DI x3419),(9,DI x3421),(10,DI greatest3428),(11,DI i3429),(12, .own 2 0),(42,DB false),(55,DB (!is11)),(66,DB (decide (i3429<(v13.length:Int))))], [(0, .blk [DI n.1,DI n.2.1,DI n.2.2] 52),(1, .blk [lD 13 v13 a8.c,lD 11 v14 b8.c,DI v15,DI v16,DI v17] 79),(2, .blk [DI v4116,DI v4117,lD 4 v4118 d0.c,lD 6 v4119 d9.c,lD 4 v4120 c9.c,lD 5 v4121 c0.c,lD 6 v4122 d7.c,DI v4123,lD 4 v4124 d0.c,lD 6 v4125 d9.c,lD 4 v4126 c9.c,lD 5 v4127 c0.c,lD 6 v4128 d7.c] 30)],3⟩) (e4106.Me,e4106.Now.Round,e4106.Now.Slots,e4106.Now.Bids,e4106.Now.Heard,e4106.Now.Leases,e4106.Now.Loans,e4106.Safe.Round,e4106.Safe.Slots,e4106.Safe.Bids,e4106.Safe.Heard,e4106.Safe.Leases,e4106.Safe.Loans) (i4.of 3 rfl (tA rfl) ⟨hR rfl,hR rfl,hR rfl,trivial⟩) he ?_
 rintro fu4763 ⟨v4116,v4117,v4118,v4119,v4120,v4121,v4122,v4123,v4124,v4125,v4126,v4127,v4128⟩ b hm hi4764
 apply vb hm<;>intro _ hm
 refine⟨rfl, ?_⟩
 refine⟨by decide, ?_⟩
 refine cy hm (E8 n.2.2 9) fun x4766 hm=> ?_
 refine cy hm (U0 ((⟨v4116,(⟨v4117,v4118,v4119,v4120,v4121,v4122⟩:c8),(⟨v4123,v4124,v4125,v4126,v4127,v4128⟩:c8)⟩:a8)) x3421 (W (1+x4766))) ?_
 rintro⟨x4768,x4769⟩ hm
 apply vb hm<;>intro _ hm
 cases hm
 cases hi4764
 have hm:=hk4762
 exact hm.rr
 apply vb hm<;>intro _ hm
 cases hm
 cases hi4764
 have hm:=hk4762
 exact hm.rr
 cases hm
 exact⟨(_,(x4768.Me,x4768.Now.Round,x4768.Now.Slots,x4768.Now.Bids,x4768.Now.Heard,x4768.Now.Leases,x4768.Now.Loans,x4768.Safe.Round,x4768.Safe.Slots,x4768.Safe.Bids,x4768.Safe.Heard,x4768.Safe.Leases,x4768.Safe.Loans)),i4.of 3 rfl (tA rfl) ⟨hR rfl,hR rfl,hR rfl,trivial⟩,hi4764,Nat.lt_succ_self _⟩
 cases hm
 cases hi4764
 have hm:=hk4762
 refine⟨([]:List a8).flatMap a8.c,([]:List a8).length,⟨rfl,rfl⟩, ?_⟩
 obtain⟨hg,hm⟩:=n9 hm
 refine⟨hg,_,_,O1 (c:=a8.c) (l:=(([]:List a8):List a8)) (r:=(v13:List a8)), ?_⟩
 obtain⟨e4773,hx4774,hm⟩:=b9 hm
 refine⟨E1 hx4774, ?_⟩
 obtain⟨e4775,hx4776,hm⟩:=b9 hm
 refine⟨_,A5 (fun _=>rfl) hx4776,_,I5 (y:=(⟨v4116,(⟨v4117,v4118,v4119,v4120,v4121,v4122⟩:c8),(⟨v4123,v4124,v4125,v4126,v4127,v4128⟩:c8)⟩:a8)) (fun _=>rfl) hx4776, ?_⟩
 obtain⟨ev5375,he,hk5376⟩:=b9 hm
 refine c8b o6 (fun(is4926,round4927,v4928,v4929,v4930,v4931,v4932)=>⟨[(0,lD 9 l N9.c),(1, .agg [DI n.1,DI n.2.1,DI n.2.2]),(3, .own 0 0),(4,DB false),(5, .own 1 0),(6,DB is4926),(7,DI i12),(8,DI x3419),(9,DI x3421),(10,DI greatest3428),(11,DI i3429),(12, .own 2 0),(15,DI round4927),(42,DB false),(55,DB (!is11)),(66,DB (decide (i3429<(v13.length:Int)))),(94,DB (decide (v4117≤greatest3428)))], [(0, .blk [DI n.1,DI n.2.1,DI n.2.2] 52),(1, .blk [.row 3 13,lD 11 v4928 b8.c,DI v4929,DI v4930,DI v4931] 79),(2, .blk [DI v4116,DI v4117,lD 4 v4118 d0.c,lD 6 v4119 d9.c,lD 4 v4120 c9.c,lD 5 v4121 c0.c,lD 6 v4122 d7.c,DI v4123,lD 4 v4124 d0.c,lD 6 v4125 d9.c,lD 4 v4126 c9.c,lD 5 v4127 c0.c,lD 6 v4128 d7.c] 30),(3,rE 13 v4932 a8.c 30)],4⟩) (is11,0,v14,v15,v16,v17,((([]:List a8)++v13).set x3419.toNat (⟨v4116,(⟨v4117,v4118,v4119,v4120,v4121,v4122⟩:c8),(⟨v4123,v4124,v4125,v4126,v4127,v4128⟩:c8)⟩:a8))) (i4.of 4 rfl (tA rfl) ⟨hR rfl,hR rfl,hR rfl,hW rfl,trivial⟩) he ?_
 rintro fu5377 ⟨is4926,round4927,v4928,v4929,v4930,v4931,v4932⟩ b hm hi5378
 apply vb hm<;>intro _ hm
 obtain⟨ev5625,he,hk5626⟩:=b9 hm
 refine c8b I8 (fun(i5393,v5394)=>⟨[(0,lD 9 l N9.c),(1, .agg [DI n.1,DI n.2.1,DI n.2.2]),(3, .own 0 0),(4,DB false),(5, .own 1 0),(6,DB is4926),(7,DI i12),(8,DI x3419),(9,DI x3421),(10,DI greatest3428),(11,DI i3429),(12, .own 2 0),(15,DI round4927),(16,DI i5393),(42,DB false),(55,DB (!is11)),(66,DB (decide (i3429<(v13.length:Int)))),(94,DB (decide (v4117≤greatest3428))),(129,DB (decide (round4927<4)))], [(0, .blk [DI n.1,DI n.2.1,DI n.2.2] 52),(1, .blk [.row 3 13,nS,DI v4929,DI v4930,DI v4931] 79),(2, .blk [DI v4116,DI v4117,lD 4 v4118 d0.c,lD 6 v4119 d9.c,lD 4 v4120 c9.c,lD 5 v4121 c0.c,lD 6 v4122 d7.c,DI v4123,lD 4 v4124 d0.c,lD 6 v4125 d9.c,lD 4 v4126 c9.c,lD 5 v4127 c0.c,lD 6 v4128 d7.c] 30),(3,rE 13 v5394 a8.c 30)],4⟩) (0,v4932) (i4.of 4 rfl (tA rfl) ⟨hR rfl,hR rfl,hR rfl,hW rfl,trivial⟩) he ?_
 rintro fu5627 ⟨i5393,v5394⟩ b hm hi5628
 apply vb hm<;>intro _ hm
 obtain⟨e5630,hx5631,hm⟩:=b9 hm
 refine⟨E1 hx5631, ?_⟩
 obtain⟨e5632,hx5633,hm⟩:=b9 hm
 refine⟨_,A5 (fun _=>rfl) hx5633, ?_⟩
 refine cy hm (Z4 e5632) ?_
 rintro⟨x5634,x5635⟩ hm
 apply vb hm<;>intro _ hm
 cases hm
 cases hi5628
 have hm:=hk5626
 cases hm
 cases hi5378
 have hm:=hk5376
 exact hm.rr
 obtain⟨e5638,hx5639,hm⟩:=b9 hm
 refine⟨E1 hx5639, ?_⟩
 obtain⟨e5640,hx5641,hm⟩:=b9 hm
 refine⟨_,A5 (fun _=>rfl) hx5641,_,I5 (y:=x5634) (fun _=>rfl) hx5641, ?_⟩
 cases hm
 exact⟨(_,((W (i5393+1)),(v5394.set i5393.toNat x5634))),i4.of 4 rfl (tA rfl) ⟨hR rfl,hR rfl,hR rfl,hW rfl,trivial⟩,hi5628,Nat.lt_succ_self _⟩
 cases hm
 cases hi5628
 have hm:=hk5626
 obtain⟨ev5843,he,hk5844⟩:=b9 hm
 refine c8b (I6 v5394) (fun(is5670,i5671,v5672,v5673,v5674,v5675)=>⟨[(0,lD 9 l N9.c),(1, .agg [DI n.1,DI n.2.1,DI n.2.2]),(3, .own 0 0),(4,DB false),(5, .own 1 0),(6,DB is5670),(7,DI i12),(8,DI x3419),(9,DI x3421),(10,DI greatest3428),(11,DI i3429),(12, .own 2 0),(15,DI round4927),(16,DI i5393),(19,DI i5671),(42,DB false),(55,DB (!is11)),(66,DB (decide (i3429<(v13.length:Int)))),(94,DB (decide (v4117≤greatest3428))),(129,DB (decide (round4927<4))),(137,DB (decide (i5393<(v5394.length:Int))))], [(0, .blk [DI n.1,DI n.2.1,DI n.2.2] 52),(1, .blk [.row 3 13,lD 11 v5672 b8.c,DI v5673,DI v5674,DI v5675] 79),(2, .blk [DI v4116,DI v4117,lD 4 v4118 d0.c,lD 6 v4119 d9.c,lD 4 v4120 c9.c,lD 5 v4121 c0.c,lD 6 v4122 d7.c,DI v4123,lD 4 v4124 d0.c,lD 6 v4125 d9.c,lD 4 v4126 c9.c,lD 5 v4127 c0.c,lD 6 v4128 d7.c] 30),(3,rE 13 v5394 a8.c 30)],4⟩) (is4926,0, [],v4929,v4930,v4931) (i4.of 4 rfl (tA rfl) ⟨hR rfl,⟨_,rfl,⟨c7Y _,c7Z,c7Y _,c7Y _,c7Y _,trivial⟩⟩,hR rfl,hW rfl,trivial⟩) he ?_
 rintro fu5845 ⟨is5670,i5671,v5672,v5673,v5674,v5675⟩ b hm hi5846
 apply vb hm<;>intro _ hm
 obtain⟨ev5905,he5906,hm⟩:=b9 hm
 refine O9.ofZ pok ⟨[(0, .agg [.row 3 13,lD 11 v5672 b8.c,DI v5673,DI v5674,DI v5675]),(1,DI i5671),(1000000,lD 9 l N9.c),(1000001, .agg [DI n.1,DI n.2.1,DI n.2.2]),(1000003, .own 0 0),(1000004,DB false),(1000005, .own 1 0),(1000006,DB is5670),(1000007,DI i12),(1000008,DI x3419),(1000009,DI x3421),(1000010,DI greatest3428),(1000011,DI i3429),(1000012, .own 2 0),(1000015,DI round4927),(1000016,DI i5393),(1000019,DI i5671),(1000042,DB false),(1000055,DB (!is11)),(1000066,DB (decide (i3429<(v13.length:Int)))),(1000094,DB (decide (v4117≤greatest3428))),(1000129,DB (decide (round4927<4))),(1000137,DB (decide (i5393<(v5394.length:Int)))),(1000160,DB (decide (i5671<(v5394.length:Int))))], [(0, .blk [DI n.1,DI n.2.1,DI n.2.2] 52),(1, .blk [.row 3 13,lD 11 v5672 b8.c,DI v5673,DI v5674,DI v5675] 79),(2, .blk [DI v4116,DI v4117,lD 4 v4118 d0.c,lD 6 v4119 d9.c,lD 4 v4120 c9.c,lD 5 v4121 c0.c,lD 6 v4122 d7.c,DI v4123,lD 4 v4124 d0.c,lD 6 v4125 d9.c,lD 4 v4126 c9.c,lD 5 v4127 c0.c,lD 6 v4128 d7.c] 30),(3,rE 13 v5394 a8.c 30)],4⟩ (match ev5905 with|(x5869,x5870,x5871,x5872,x5873)=>(⟨[(0,lD 9 l N9.c),(1, .agg [DI n.1,DI n.2.1,DI n.2.2]),(3, .own 0 0),(4,DB false),(5, .own 1 0),(6,DB is5670),(7,DI i12),(8,DI x3419),(9,DI x3421),(10,DI greatest3428),(11,DI i3429),(12, .own 2 0),(15,DI round4927),(16,DI i5393),(19,DI i5671),(42,DB false),(55,DB (!is11)),(66,DB (decide (i3429<(v13.length:Int)))),(94,DB (decide (v4117≤greatest3428))),(129,DB (decide (round4927<4))),(137,DB (decide (i5393<(v5394.length:Int)))),(160,DB (decide (i5671<(v5394.length:Int)))),(166, .tup [.agg [.row 3 13,lD 11 x5869 b8.c,DI x5870,DI x5871,DI x5872],DB x5873])], [(0, .blk [DI n.1,DI n.2.1,DI n.2.2] 52),(1, .blk [.row 3 13,lD 11 v5672 b8.c,DI v5673,DI v5674,DI v5675] 79),(2, .blk [DI v4116,DI v4117,lD 4 v4118 d0.c,lD 6 v4119 d9.c,lD 4 v4120 c9.c,lD 5 v4121 c0.c,lD 6 v4122 d7.c,DI v4123,lD 4 v4124 d0.c,lD 6 v4125 d9.c,lD 4 v4126 c9.c,lD 5 v4127 c0.c,lD 6 v4128 d7.c] 30),(3,rE 13 v5394 a8.c 30)],4⟩:Sy):Sy) [] [99,106,149,210,211,220] [] [48] Tryz.func48 rfl rfl rfl (i4.of 4 rfl (tA rfl) ⟨hR rfl,hR rfl,hR rfl,hW rfl,trivial⟩) (fun sv=> ?_) ?_
 have hm:=he5906
 obtain⟨ev5939,he,hk5940⟩:=b9 hm
 refine c8b (B8 v5394 i5671 v5673 v5674 v5675) (fun(to_5916,v5917)=>⟨[(0, .agg [.row 3 13,lD 11 v5672 b8.c,DI v5673,DI v5674,DI v5675]),(1,DI i5671),(2, .own 4 0),(4, .own 5 0),(5,DB false),(6,DI to_5916),(1000000,lD 9 l N9.c),(1000001, .agg [DI n.1,DI n.2.1,DI n.2.2]),(1000003, .own 0 0),(1000004,DB false),(1000005, .own 1 0),(1000006,DB is5670),(1000007,DI i12),(1000008,DI x3419),(1000009,DI x3421),(1000010,DI greatest3428),(1000011,DI i3429),(1000012, .own 2 0),(1000015,DI round4927),(1000016,DI i5393),(1000019,DI i5671),(1000042,DB false),(1000055,DB (!is11)),(1000066,DB (decide (i3429<(v13.length:Int)))),(1000094,DB (decide (v4117≤greatest3428))),(1000129,DB (decide (round4927<4))),(1000137,DB (decide (i5393<(v5394.length:Int)))),(1000160,DB (decide (i5671<(v5394.length:Int))))], [(0, .blk [DI n.1,DI n.2.1,DI n.2.2] 52),(1, .blk [.row 3 13,lD 11 v5672 b8.c,DI v5673,DI v5674,DI v5675] 79),(2, .blk [DI v4116,DI v4117,lD 4 v4118 d0.c,lD 6 v4119 d9.c,lD 4 v4120 c9.c,lD 5 v4121 c0.c,lD 6 v4122 d7.c,DI v4123,lD 4 v4124 d0.c,lD 6 v4125 d9.c,lD 4 v4126 c9.c,lD 5 v4127 c0.c,lD 6 v4128 d7.c] 30),(3,rE 13 v5394 a8.c 30),(4, .blk [.row 3 13,lD 11 v5917 b8.c,DI v5673,DI v5674,DI v5675] 79),(5, .blk [nS,nS,DI 0,DI 0,DI 0] 79)],6⟩) (0,v5672) (i4.of 6 rfl (tA rfl) ⟨hR rfl,hR rfl,hR rfl,hW rfl,hR rfl,hR rfl,trivial⟩) he ?_
 rintro fu5941 ⟨to_5916,v5917⟩ b hm hi5942
 apply vb hm<;>intro _ hm
 obtain⟨e5944,hx5945,hm⟩:=b9 hm
 refine⟨E1 hx5945, ?_⟩
 obtain⟨e5946,hx5947,hm⟩:=b9 hm
 refine⟨_,A5 (fun _=>rfl) hx5947, ?_⟩
 refine cy hm (a1c e5946 to_5916) ?_
 rintro⟨x5948,x5949⟩ hm
 apply vb hm<;>intro _ hm
 cases hm
 cases hi5942
 have hm:=hk5940
 cases hm
 exact i4.of 4 rfl (tA rfl) ⟨hR rfl,hR rfl,hR rfl,hW rfl,trivial⟩
 refine⟨([]:List b8).flatMap b8.c,([]:List b8).length,⟨rfl,rfl⟩, ?_⟩
 obtain⟨hg,hm⟩:=n9 hm
 refine⟨hg,_,_,O1 (c:=b8.c) (l:=(([]:List b8):List b8)) (r:=(v5917:List b8)), ?_⟩
 obtain⟨hg,hm⟩:=n9 hm
 refine⟨hg,_,_,O1 (c:=b8.c) (l:=((([]:List b8)++v5917):List b8)) (r:=(x5948:List b8)), ?_⟩
 cases hm
 exact⟨(_,((W (to_5916+1)),((([]:List b8)++v5917)++x5948))),i4.fz [6] rfl 6 rfl (tA rfl) ⟨hR rfl,hR rfl,hR rfl,hW rfl,hR rfl,hR rfl,trivial⟩,hi5942,Nat.lt_succ_self _⟩
 cases hm
 cases hi5942
 have hm:=hk5940
 cases hm
 exact i4.of 4 rfl (tA rfl) ⟨hR rfl,hR rfl,hR rfl,hW rfl,trivial⟩
 obtain⟨x5869,x5870,x5871,x5872,x5873⟩:=ev5905
 apply vb hm<;>intro _ hm
 cases hm
 cases hi5846
 have hm:=hk5844
 cases hm
 cases hi5378
 have hm:=hk5376
 exact hm.rr
 cases hm
 exact⟨(_,(x5873,(W (i5671+1)),x5869,x5870,x5871,x5872)),i4.of 4 rfl (tA rfl) ⟨hR rfl,hR rfl,hR rfl,hW rfl,trivial⟩,hi5846,Nat.lt_succ_self _⟩
 cases hm
 cases hi5846
 have hm:=hk5844
 obtain⟨ev6023,he,hk6024⟩:=b9 hm
 refine c8b (I7 v5672) (fun(i5974,v5975)=>⟨[(0,lD 9 l N9.c),(1, .agg [DI n.1,DI n.2.1,DI n.2.2]),(3, .own 0 0),(4,DB false),(5, .own 1 0),(6,DB is5670),(7,DI i12),(8,DI x3419),(9,DI x3421),(10,DI greatest3428),(11,DI i3429),(12, .own 2 0),(15,DI round4927),(16,DI i5393),(19,DI i5671),(20,DI i5974),(42,DB false),(55,DB (!is11)),(66,DB (decide (i3429<(v13.length:Int)))),(94,DB (decide (v4117≤greatest3428))),(129,DB (decide (round4927<4))),(137,DB (decide (i5393<(v5394.length:Int)))),(160,DB (decide (i5671<(v5394.length:Int))))], [(0, .blk [DI n.1,DI n.2.1,DI n.2.2] 52),(1, .blk [.row 3 13,lD 11 v5672 b8.c,DI v5673,DI v5674,DI v5675] 79),(2, .blk [DI v4116,DI v4117,lD 4 v4118 d0.c,lD 6 v4119 d9.c,lD 4 v4120 c9.c,lD 5 v4121 c0.c,lD 6 v4122 d7.c,DI v4123,lD 4 v4124 d0.c,lD 6 v4125 d9.c,lD 4 v4126 c9.c,lD 5 v4127 c0.c,lD 6 v4128 d7.c] 30),(3,rE 13 v5975 a8.c 30)],4⟩) (0,v5394) (i4.of 4 rfl (tA rfl) ⟨hR rfl,hR rfl,hR rfl,hW rfl,trivial⟩) he ?_
 rintro fu6025 ⟨i5974,v5975⟩ b hm hi6026
 apply vb hm<;>intro _ hm
 obtain⟨e6028,hx6029,hm⟩:=b9 hm
 refine⟨_,q8 (fun _=>rfl) hx6029, ?_⟩
 apply vb hm<;>intro _ hm
 cases hm
 cases hi6026
 have hm:=hk6024
 cases hm
 cases hi5378
 have hm:=hk5376
 exact hm.rr
 apply vb hm<;>intro _ hm
 cases hm
 cases hi6026
 have hm:=hk6024
 cases hm
 cases hi5378
 have hm:=hk5376
 exact hm.rr
 refine⟨rfl, ?_⟩
 obtain⟨e6032,hx6033,hm⟩:=b9 hm
 refine⟨E1 hx6033, ?_⟩
 obtain⟨e6034,hx6035,hm⟩:=b9 hm
 refine⟨_,A5 (fun _=>rfl) hx6035, ?_⟩
 obtain⟨e6036,hx6037,hm⟩:=b9 hm
 refine⟨_,q8 (fun _=>rfl) hx6037, ?_⟩
 refine cy hm (Y2 e6034 e6036) ?_
 rintro⟨x6038,x6039⟩ hm
 apply vb hm<;>intro _ hm
 refine cy hm (a3b) fun x6042 hm=> ?_
 cases hm
 cases hi6026
 have hm:=hk6024
 cases hm
 cases hi5378
 have hm:=hk5376
 exact hm.rr
 apply vb hm<;>intro _ hm
 cases hm
 cases hi6026
 have hm:=hk6024
 cases hm
 cases hi5378
 have hm:=hk5376
 exact hm.rr
 obtain⟨e6045,hx6046,hm⟩:=b9 hm
 refine⟨E1 hx6046, ?_⟩
 obtain⟨e6047,hx6048,hm⟩:=b9 hm
 refine⟨_,A5 (fun _=>rfl) hx6048,_,I5 (y:=x6038) (fun _=>rfl) hx6048, ?_⟩
 cases hm
 exact⟨(_,((W (i5974+1)),(v5975.set e6028.To.toNat x6038))),i4.of 4 rfl (tA rfl) ⟨hR rfl,hR rfl,hR rfl,hW rfl,trivial⟩,hi6026,Nat.lt_succ_self _⟩
 cases hm
 cases hi6026
 have hm:=hk6024
 cases hm
 exact⟨(_,(is5670,(W (round4927+1)),v5672,v5673,v5674,v5675,v5975)),i4.of 4 rfl (tA rfl) ⟨hR rfl,hR rfl,hR rfl,hW rfl,trivial⟩,hi5378,Nat.lt_succ_self _⟩
 cases hm
 cases hi5378
 have hm:=hk5376
 obtain⟨ev6087,he,hk6088⟩:=b9 hm
 refine c8b (I9 x3421 v4932) (fun(first6058,i6059)=>⟨[(0,lD 9 l N9.c),(1, .agg [DI n.1,DI n.2.1,DI n.2.2]),(3, .own 0 0),(4,DB false),(5, .own 1 0),(6,DB is4926),(7,DI i12),(8,DI x3419),(9,DI x3421),(10,DI greatest3428),(11,DI i3429),(12, .own 2 0),(15,DI round4927),(24,DI first6058),(25,DI i6059),(42,DB false),(55,DB (!is11)),(66,DB (decide (i3429<(v13.length:Int)))),(94,DB (decide (v4117≤greatest3428))),(129,DB (decide (round4927<4)))], [(0, .blk [DI n.1,DI n.2.1,DI n.2.2] 52),(1, .blk [.row 3 13,lD 11 v4928 b8.c,DI v4929,DI v4930,DI v4931] 79),(2, .blk [DI v4116,DI v4117,lD 4 v4118 d0.c,lD 6 v4119 d9.c,lD 4 v4120 c9.c,lD 5 v4121 c0.c,lD 6 v4122 d7.c,DI v4123,lD 4 v4124 d0.c,lD 6 v4125 d9.c,lD 4 v4126 c9.c,lD 5 v4127 c0.c,lD 6 v4128 d7.c] 30),(3,rE 13 v4932 a8.c 30)],4⟩) (0,0) (i4.of 4 rfl (tA rfl) ⟨hR rfl,hR rfl,hR rfl,hW rfl,trivial⟩) he ?_
 rintro fu6089 ⟨first6058,i6059⟩ b hm hi6090
 apply vb hm<;>intro _ hm
 obtain⟨e6092,hx6093,hm⟩:=b9 hm
 refine⟨E1 hx6093, ?_⟩
 obtain⟨e6094,hx6095,hm⟩:=b9 hm
 refine⟨_,A5 (fun _=>rfl) hx6095, ?_⟩
 refine cy hm (a3u e6094 x3421) ?_
 rintro⟨x6096,x6097⟩ hm
 apply vb hm<;>intro _ hm
 cases hm
 cases hi6090
 have hm:=hk6088
 exact hm.rr
 apply vb hm<;>intro _ hm
 apply vb hm<;>intro _ hm
 cases hm
 cases hi6090
 have hm:=hk6088
 exact hm.rr
 cases hm
 exact⟨(_,(x6096,(W (i6059+1)))),i4.of 4 rfl (tA rfl) ⟨hR rfl,hR rfl,hR rfl,hW rfl,trivial⟩,hi6090,Nat.lt_succ_self _⟩
 cases hm
 exact⟨(_,(x6096,(W (i6059+1)))),i4.of 4 rfl (tA rfl) ⟨hR rfl,hR rfl,hR rfl,hW rfl,trivial⟩,hi6090,Nat.lt_succ_self _⟩
 cases hm
 cases hi6090
 have hm:=hk6088
 refine cy hm (a3b) fun x6102 hm=> ?_
 exact hm.rr
 cases hm
 cases hi723
 have hm:=hk721
 apply vb hm<;>intro _ hm
 exact hm.rr
 refine⟨by decide, ?_⟩
 refine cy hm (E8 n.1 6) fun x6105 hm=> ?_
 refine⟨by decide, ?_⟩
 refine cy hm (E8 n.2.1 3) fun x6107 hm=> ?_
 obtain⟨ev6783,he,hk6784⟩:=b9 hm
 refine c8b (L9 v13) (fun(greatest6114,i6115)=>⟨[(0,lD 9 l N9.c),(1, .agg [DI n.1,DI n.2.1,DI n.2.2]),(3, .own 0 0),(4,DB false),(5, .own 1 0),(6,DB is11),(7,DI i12),(8,DI x6105),(9,DI x6107),(10,DI greatest6114),(11,DI i6115),(42,DB false),(55,DB (!is11))], [(0, .blk [DI n.1,DI n.2.1,DI n.2.2] 52),(1, .blk [lD 13 v13 a8.c,lD 11 v14 b8.c,DI v15,DI v16,DI v17] 79)],2⟩) (0,0) (i4.of 2 rfl (tA rfl) ⟨hR rfl,hR rfl,trivial⟩) he ?_
 rintro fu6785 ⟨greatest6114,i6115⟩ b hm hi6786
 apply vb hm<;>intro _ hm
 refine⟨rfl, ?_⟩
 obtain⟨e6788,hx6789,hm⟩:=b9 hm
 refine⟨_,q8 (fun _=>rfl) hx6789, ?_⟩
 obtain⟨e6790,hx6791,hm⟩:=b9 hm
 refine⟨_,q8 (fun _=>rfl) hx6791, ?_⟩
 cases hm
 exact⟨(_,((if e6790.Safe.Round>(if e6788.Now.Round>greatest6114 then e6788.Now.Round else greatest6114)then e6790.Safe.Round else(if e6788.Now.Round>greatest6114 then e6788.Now.Round else greatest6114)),(W (i6115+1)))),i4.of 2 rfl (tA rfl) ⟨hR rfl,hR rfl,trivial⟩,hi6786,Nat.lt_succ_self _⟩
 cases hm
 cases hi6786
 have hm:=hk6784
 obtain⟨e6792,hx6793,hm⟩:=b9 hm
 refine⟨_,q8 (fun _=>rfl) hx6793, ?_⟩
 obtain⟨ev7447,he,hk7448⟩:=b9 hm
 refine c8b (M0 n x6107 greatest6114) (fun(v6802,v6803,v6804,v6805,v6806,v6807,v6808,v6809,v6810,v6811,v6812,v6813,v6814)=>⟨[(0,lD 9 l N9.c),(1, .agg [DI n.1,DI n.2.1,DI n.2.2]),(3, .own 0 0),(4,DB false),(5, .own 1 0),(6,DB is11),(7,DI i12),(8,DI x6105),(9,DI x6107),(10,DI greatest6114),(11,DI i6115),(12, .own 2 0),(42,DB false),(55,DB (!is11)),(66,DB (decide (i6115<(v13.length:Int))))], [(0, .blk [DI n.1,DI n.2.1,DI n.2.2] 52),(1, .blk [lD 13 v13 a8.c,lD 11 v14 b8.c,DI v15,DI v16,DI v17] 79),(2, .blk [DI v6802,DI v6803,lD 4 v6804 d0.c,lD 6 v6805 d9.c,lD 4 v6806 c9.c,lD 5 v6807 c0.c,lD 6 v6808 d7.c,DI v6809,lD 4 v6810 d0.c,lD 6 v6811 d9.c,lD 4 v6812 c9.c,lD 5 v6813 c0.c,lD 6 v6814 d7.c] 30)],3⟩) (e6792.Me,e6792.Now.Round,e6792.Now.Slots,e6792.Now.Bids,e6792.Now.Heard,e6792.Now.Leases,e6792.Now.Loans,e6792.Safe.Round,e6792.Safe.Slots,e6792.Safe.Bids,e6792.Safe.Heard,e6792.Safe.Leases,e6792.Safe.Loans) (i4.of 3 rfl (tA rfl) ⟨hR rfl,hR rfl,hR rfl,trivial⟩) he ?_
 rintro fu7449 ⟨v6802,v6803,v6804,v6805,v6806,v6807,v6808,v6809,v6810,v6811,v6812,v6813,v6814⟩ b hm hi7450
 apply vb hm<;>intro _ hm
 refine⟨rfl, ?_⟩
 refine⟨by decide, ?_⟩
 refine cy hm (E8 n.2.2 9) fun x7452 hm=> ?_
 refine cy hm (U0 ((⟨v6802,(⟨v6803,v6804,v6805,v6806,v6807,v6808⟩:c8),(⟨v6809,v6810,v6811,v6812,v6813,v6814⟩:c8)⟩:a8)) x6107 (W (1+x7452))) ?_
 rintro⟨x7454,x7455⟩ hm
 apply vb hm<;>intro _ hm
 cases hm
 cases hi7450
 have hm:=hk7448
 exact hm.rr
 apply vb hm<;>intro _ hm
 cases hm
 cases hi7450
 have hm:=hk7448
 exact hm.rr
 cases hm
 exact⟨(_,(x7454.Me,x7454.Now.Round,x7454.Now.Slots,x7454.Now.Bids,x7454.Now.Heard,x7454.Now.Leases,x7454.Now.Loans,x7454.Safe.Round,x7454.Safe.Slots,x7454.Safe.Bids,x7454.Safe.Heard,x7454.Safe.Leases,x7454.Safe.Loans)),i4.of 3 rfl (tA rfl) ⟨hR rfl,hR rfl,hR rfl,trivial⟩,hi7450,Nat.lt_succ_self _⟩
 cases hm
 cases hi7450
 have hm:=hk7448
 refine⟨([]:List a8).flatMap a8.c,([]:List a8).length,⟨rfl,rfl⟩, ?_⟩
 obtain⟨hg,hm⟩:=n9 hm
 refine⟨hg,_,_,O1 (c:=a8.c) (l:=(([]:List a8):List a8)) (r:=(v13:List a8)), ?_⟩
 obtain⟨e7459,hx7460,hm⟩:=b9 hm
 refine⟨E1 hx7460, ?_⟩
 obtain⟨e7461,hx7462,hm⟩:=b9 hm
 refine⟨_,A5 (fun _=>rfl) hx7462,_,I5 (y:=(⟨v6802,(⟨v6803,v6804,v6805,v6806,v6807,v6808⟩:c8),(⟨v6809,v6810,v6811,v6812,v6813,v6814⟩:c8)⟩:a8)) (fun _=>rfl) hx7462, ?_⟩
 obtain⟨ev8061,he,hk8062⟩:=b9 hm
 refine c8b o6 (fun(is7612,round7613,v7614,v7615,v7616,v7617,v7618)=>⟨[(0,lD 9 l N9.c),(1, .agg [DI n.1,DI n.2.1,DI n.2.2]),(3, .own 0 0),(4,DB false),(5, .own 1 0),(6,DB is7612),(7,DI i12),(8,DI x6105),(9,DI x6107),(10,DI greatest6114),(11,DI i6115),(12, .own 2 0),(15,DI round7613),(42,DB false),(55,DB (!is11)),(66,DB (decide (i6115<(v13.length:Int)))),(94,DB (decide (v6803≤greatest6114)))], [(0, .blk [DI n.1,DI n.2.1,DI n.2.2] 52),(1, .blk [.row 3 13,lD 11 v7614 b8.c,DI v7615,DI v7616,DI v7617] 79),(2, .blk [DI v6802,DI v6803,lD 4 v6804 d0.c,lD 6 v6805 d9.c,lD 4 v6806 c9.c,lD 5 v6807 c0.c,lD 6 v6808 d7.c,DI v6809,lD 4 v6810 d0.c,lD 6 v6811 d9.c,lD 4 v6812 c9.c,lD 5 v6813 c0.c,lD 6 v6814 d7.c] 30),(3,rE 13 v7618 a8.c 30)],4⟩) (is11,0,v14,v15,v16,v17,((([]:List a8)++v13).set x6105.toNat (⟨v6802,(⟨v6803,v6804,v6805,v6806,v6807,v6808⟩:c8),(⟨v6809,v6810,v6811,v6812,v6813,v6814⟩:c8)⟩:a8))) (i4.of 4 rfl (tA rfl) ⟨hR rfl,hR rfl,hR rfl,hW rfl,trivial⟩) he ?_
 rintro fu8063 ⟨is7612,round7613,v7614,v7615,v7616,v7617,v7618⟩ b hm hi8064
 apply vb hm<;>intro _ hm
 obtain⟨ev8311,he,hk8312⟩:=b9 hm
 refine c8b I8 (fun(i8079,v8080)=>⟨[(0,lD 9 l N9.c),(1, .agg [DI n.1,DI n.2.1,DI n.2.2]),(3, .own 0 0),(4,DB false),(5, .own 1 0),(6,DB is7612),(7,DI i12),(8,DI x6105),(9,DI x6107),(10,DI greatest6114),(11,DI i6115),(12, .own 2 0),(15,DI round7613),(16,DI i8079),(42,DB false),(55,DB (!is11)),(66,DB (decide (i6115<(v13.length:Int)))),(94,DB (decide (v6803≤greatest6114))),(129,DB (decide (round7613<4)))], [(0, .blk [DI n.1,DI n.2.1,DI n.2.2] 52),(1, .blk [.row 3 13,nS,DI v7615,DI v7616,DI v7617] 79),(2, .blk [DI v6802,DI v6803,lD 4 v6804 d0.c,lD 6 v6805 d9.c,lD 4 v6806 c9.c,lD 5 v6807 c0.c,lD 6 v6808 d7.c,DI v6809,lD 4 v6810 d0.c,lD 6 v6811 d9.c,lD 4 v6812 c9.c,lD 5 v6813 c0.c,lD 6 v6814 d7.c] 30),(3,rE 13 v8080 a8.c 30)],4⟩) (0,v7618) (i4.of 4 rfl (tA rfl) ⟨hR rfl,hR rfl,hR rfl,hW rfl,trivial⟩) he ?_
 rintro fu8313 ⟨i8079,v8080⟩ b hm hi8314
 apply vb hm<;>intro _ hm
 obtain⟨e8316,hx8317,hm⟩:=b9 hm
 refine⟨E1 hx8317, ?_⟩
 obtain⟨e8318,hx8319,hm⟩:=b9 hm
 refine⟨_,A5 (fun _=>rfl) hx8319, ?_⟩
 refine cy hm (Z4 e8318) ?_
 rintro⟨x8320,x8321⟩ hm
 apply vb hm<;>intro _ hm
 cases hm
 cases hi8314
 have hm:=hk8312
 cases hm
 cases hi8064
 have hm:=hk8062
 exact hm.rr
 obtain⟨e8324,hx8325,hm⟩:=b9 hm
 refine⟨E1 hx8325, ?_⟩
 obtain⟨e8326,hx8327,hm⟩:=b9 hm
 refine⟨_,A5 (fun _=>rfl) hx8327,_,I5 (y:=x8320) (fun _=>rfl) hx8327, ?_⟩
 cases hm
 exact⟨(_,((W (i8079+1)),(v8080.set i8079.toNat x8320))),i4.of 4 rfl (tA rfl) ⟨hR rfl,hR rfl,hR rfl,hW rfl,trivial⟩,hi8314,Nat.lt_succ_self _⟩
 cases hm
 cases hi8314
 have hm:=hk8312
 obtain⟨ev8529,he,hk8530⟩:=b9 hm
 refine c8b (I6 v8080) (fun(is8356,i8357,v8358,v8359,v8360,v8361)=>⟨[(0,lD 9 l N9.c),(1, .agg [DI n.1,DI n.2.1,DI n.2.2]),(3, .own 0 0),(4,DB false),(5, .own 1 0),(6,DB is8356),(7,DI i12),(8,DI x6105),(9,DI x6107),(10,DI greatest6114),(11,DI i6115),(12, .own 2 0),(15,DI round7613),(16,DI i8079),(19,DI i8357),(42,DB false),(55,DB (!is11)),(66,DB (decide (i6115<(v13.length:Int)))),(94,DB (decide (v6803≤greatest6114))),(129,DB (decide (round7613<4))),(137,DB (decide (i8079<(v8080.length:Int))))], [(0, .blk [DI n.1,DI n.2.1,DI n.2.2] 52),(1, .blk [.row 3 13,lD 11 v8358 b8.c,DI v8359,DI v8360,DI v8361] 79),(2, .blk [DI v6802,DI v6803,lD 4 v6804 d0.c,lD 6 v6805 d9.c,lD 4 v6806 c9.c,lD 5 v6807 c0.c,lD 6 v6808 d7.c,DI v6809,lD 4 v6810 d0.c,lD 6 v6811 d9.c,lD 4 v6812 c9.c,lD 5 v6813 c0.c,lD 6 v6814 d7.c] 30),(3,rE 13 v8080 a8.c 30)],4⟩) (is7612,0, [],v7615,v7616,v7617) (i4.of 4 rfl (tA rfl) ⟨hR rfl,⟨_,rfl,⟨c7Y _,c7Z,c7Y _,c7Y _,c7Y _,trivial⟩⟩,hR rfl,hW rfl,trivial⟩) he ?_
 rintro fu8531 ⟨is8356,i8357,v8358,v8359,v8360,v8361⟩ b hm hi8532
 apply vb hm<;>intro _ hm
 obtain⟨ev8591,he8592,hm⟩:=b9 hm
 refine O9.ofZ pok ⟨[(0, .agg [.row 3 13,lD 11 v8358 b8.c,DI v8359,DI v8360,DI v8361]),(1,DI i8357),(1000000,lD 9 l N9.c),(1000001, .agg [DI n.1,DI n.2.1,DI n.2.2]),(1000003, .own 0 0),(1000004,DB false),(1000005, .own 1 0),(1000006,DB is8356),(1000007,DI i12),(1000008,DI x6105),(1000009,DI x6107),(1000010,DI greatest6114),(1000011,DI i6115),(1000012, .own 2 0),(1000015,DI round7613),(1000016,DI i8079),(1000019,DI i8357),(1000042,DB false),(1000055,DB (!is11)),(1000066,DB (decide (i6115<(v13.length:Int)))),(1000094,DB (decide (v6803≤greatest6114))),(1000129,DB (decide (round7613<4))),(1000137,DB (decide (i8079<(v8080.length:Int)))),(1000160,DB (decide (i8357<(v8080.length:Int))))], [(0, .blk [DI n.1,DI n.2.1,DI n.2.2] 52),(1, .blk [.row 3 13,lD 11 v8358 b8.c,DI v8359,DI v8360,DI v8361] 79),(2, .blk [DI v6802,DI v6803,lD 4 v6804 d0.c,lD 6 v6805 d9.c,lD 4 v6806 c9.c,lD 5 v6807 c0.c,lD 6 v6808 d7.c,DI v6809,lD 4 v6810 d0.c,lD 6 v6811 d9.c,lD 4 v6812 c9.c,lD 5 v6813 c0.c,lD 6 v6814 d7.c] 30),(3,rE 13 v8080 a8.c 30)],4⟩ (match ev8591 with|(x8555,x8556,x8557,x8558,x8559)=>(⟨[(0,lD 9 l N9.c),(1, .agg [DI n.1,DI n.2.1,DI n.2.2]),(3, .own 0 0),(4,DB false),(5, .own 1 0),(6,DB is8356),(7,DI i12),(8,DI x6105),(9,DI x6107),(10,DI greatest6114),(11,DI i6115),(12, .own 2 0),(15,DI round7613),(16,DI i8079),(19,DI i8357),(42,DB false),(55,DB (!is11)),(66,DB (decide (i6115<(v13.length:Int)))),(94,DB (decide (v6803≤greatest6114))),(129,DB (decide (round7613<4))),(137,DB (decide (i8079<(v8080.length:Int)))),(160,DB (decide (i8357<(v8080.length:Int)))),(166, .tup [.agg [.row 3 13,lD 11 x8555 b8.c,DI x8556,DI x8557,DI x8558],DB x8559])], [(0, .blk [DI n.1,DI n.2.1,DI n.2.2] 52),(1, .blk [.row 3 13,lD 11 v8358 b8.c,DI v8359,DI v8360,DI v8361] 79),(2, .blk [DI v6802,DI v6803,lD 4 v6804 d0.c,lD 6 v6805 d9.c,lD 4 v6806 c9.c,lD 5 v6807 c0.c,lD 6 v6808 d7.c,DI v6809,lD 4 v6810 d0.c,lD 6 v6811 d9.c,lD 4 v6812 c9.c,lD 5 v6813 c0.c,lD 6 v6814 d7.c] 30),(3,rE 13 v8080 a8.c 30)],4⟩:Sy):Sy) [] [99,106,149,210,211,220] [] [48] Tryz.func48 rfl rfl rfl (i4.of 4 rfl (tA rfl) ⟨hR rfl,hR rfl,hR rfl,hW rfl,trivial⟩) (fun sv=> ?_) ?_
 have hm:=he8592
 obtain⟨ev8625,he,hk8626⟩:=b9 hm
 refine c8b (B8 v8080 i8357 v8359 v8360 v8361) (fun(to_8602,v8603)=>⟨[(0, .agg [.row 3 13,lD 11 v8358 b8.c,DI v8359,DI v8360,DI v8361]),(1,DI i8357),(2, .own 4 0),(4, .own 5 0),(5,DB false),(6,DI to_8602),(1000000,lD 9 l N9.c),(1000001, .agg [DI n.1,DI n.2.1,DI n.2.2]),(1000003, .own 0 0),(1000004,DB false),(1000005, .own 1 0),(1000006,DB is8356),(1000007,DI i12),(1000008,DI x6105),(1000009,DI x6107),(1000010,DI greatest6114),(1000011,DI i6115),(1000012, .own 2 0),(1000015,DI round7613),(1000016,DI i8079),(1000019,DI i8357),(1000042,DB false),(1000055,DB (!is11)),(1000066,DB (decide (i6115<(v13.length:Int)))),(1000094,DB (decide (v6803≤greatest6114))),(1000129,DB (decide (round7613<4))),(1000137,DB (decide (i8079<(v8080.length:Int)))),(1000160,DB (decide (i8357<(v8080.length:Int))))], [(0, .blk [DI n.1,DI n.2.1,DI n.2.2] 52),(1, .blk [.row 3 13,lD 11 v8358 b8.c,DI v8359,DI v8360,DI v8361] 79),(2, .blk [DI v6802,DI v6803,lD 4 v6804 d0.c,lD 6 v6805 d9.c,lD 4 v6806 c9.c,lD 5 v6807 c0.c,lD 6 v6808 d7.c,DI v6809,lD 4 v6810 d0.c,lD 6 v6811 d9.c,lD 4 v6812 c9.c,lD 5 v6813 c0.c,lD 6 v6814 d7.c] 30),(3,rE 13 v8080 a8.c 30),(4, .blk [.row 3 13,lD 11 v8603 b8.c,DI v8359,DI v8360,DI v8361] 79),(5, .blk [nS,nS,DI 0,DI 0,DI 0] 79)],6⟩) (0,v8358) (i4.of 6 rfl (tA rfl) ⟨hR rfl,hR rfl,hR rfl,hW rfl,hR rfl,hR rfl,trivial⟩) he ?_
 rintro fu8627 ⟨to_8602,v8603⟩ b hm hi8628
 apply vb hm<;>intro _ hm
 obtain⟨e8630,hx8631,hm⟩:=b9 hm
 refine⟨E1 hx8631, ?_⟩
 obtain⟨e8632,hx8633,hm⟩:=b9 hm
 refine⟨_,A5 (fun _=>rfl) hx8633, ?_⟩
 refine cy hm (a1c e8632 to_8602) ?_
 rintro⟨x8634,x8635⟩ hm
 apply vb hm<;>intro _ hm
 cases hm
 cases hi8628
 have hm:=hk8626
 cases hm
 exact i4.of 4 rfl (tA rfl) ⟨hR rfl,hR rfl,hR rfl,hW rfl,trivial⟩
 refine⟨([]:List b8).flatMap b8.c,([]:List b8).length,⟨rfl,rfl⟩, ?_⟩
 obtain⟨hg,hm⟩:=n9 hm
 refine⟨hg,_,_,O1 (c:=b8.c) (l:=(([]:List b8):List b8)) (r:=(v8603:List b8)), ?_⟩
 obtain⟨hg,hm⟩:=n9 hm
 refine⟨hg,_,_,O1 (c:=b8.c) (l:=((([]:List b8)++v8603):List b8)) (r:=(x8634:List b8)), ?_⟩
 cases hm
 exact⟨(_,((W (to_8602+1)),((([]:List b8)++v8603)++x8634))),i4.fz [6] rfl 6 rfl (tA rfl) ⟨hR rfl,hR rfl,hR rfl,hW rfl,hR rfl,hR rfl,trivial⟩,hi8628,Nat.lt_succ_self _⟩
 cases hm
 cases hi8628
 have hm:=hk8626
 cases hm
 exact i4.of 4 rfl (tA rfl) ⟨hR rfl,hR rfl,hR rfl,hW rfl,trivial⟩
 obtain⟨x8555,x8556,x8557,x8558,x8559⟩:=ev8591
 apply vb hm<;>intro _ hm
 cases hm
 cases hi8532
 have hm:=hk8530
 cases hm
 cases hi8064
 have hm:=hk8062
 exact hm.rr
 cases hm
 exact⟨(_,(x8559,(W (i8357+1)),x8555,x8556,x8557,x8558)),i4.of 4 rfl (tA rfl) ⟨hR rfl,hR rfl,hR rfl,hW rfl,trivial⟩,hi8532,Nat.lt_succ_self _⟩
 cases hm
 cases hi8532
 have hm:=hk8530
 obtain⟨ev8709,he,hk8710⟩:=b9 hm
 refine c8b (I7 v8358) (fun(i8660,v8661)=>⟨[(0,lD 9 l N9.c),(1, .agg [DI n.1,DI n.2.1,DI n.2.2]),(3, .own 0 0),(4,DB false),(5, .own 1 0),(6,DB is8356),(7,DI i12),(8,DI x6105),(9,DI x6107),(10,DI greatest6114),(11,DI i6115),(12, .own 2 0),(15,DI round7613),(16,DI i8079),(19,DI i8357),(20,DI i8660),(42,DB false),(55,DB (!is11)),(66,DB (decide (i6115<(v13.length:Int)))),(94,DB (decide (v6803≤greatest6114))),(129,DB (decide (round7613<4))),(137,DB (decide (i8079<(v8080.length:Int)))),(160,DB (decide (i8357<(v8080.length:Int))))], [(0, .blk [DI n.1,DI n.2.1,DI n.2.2] 52),(1, .blk [.row 3 13,lD 11 v8358 b8.c,DI v8359,DI v8360,DI v8361] 79),(2, .blk [DI v6802,DI v6803,lD 4 v6804 d0.c,lD 6 v6805 d9.c,lD 4 v6806 c9.c,lD 5 v6807 c0.c,lD 6 v6808 d7.c,DI v6809,lD 4 v6810 d0.c,lD 6 v6811 d9.c,lD 4 v6812 c9.c,lD 5 v6813 c0.c,lD 6 v6814 d7.c] 30),(3,rE 13 v8661 a8.c 30)],4⟩) (0,v8080) (i4.of 4 rfl (tA rfl) ⟨hR rfl,hR rfl,hR rfl,hW rfl,trivial⟩) he ?_
 rintro fu8711 ⟨i8660,v8661⟩ b hm hi8712
 apply vb hm<;>intro _ hm
 obtain⟨e8714,hx8715,hm⟩:=b9 hm
 refine⟨_,q8 (fun _=>rfl) hx8715, ?_⟩
 apply vb hm<;>intro _ hm
 cases hm
 cases hi8712
 have hm:=hk8710
 cases hm
 cases hi8064
 have hm:=hk8062
 exact hm.rr
 apply vb hm<;>intro _ hm
 cases hm
 cases hi8712
 have hm:=hk8710
 cases hm
 cases hi8064
 have hm:=hk8062
 exact hm.rr
 refine⟨rfl, ?_⟩
 obtain⟨e8718,hx8719,hm⟩:=b9 hm
 refine⟨E1 hx8719, ?_⟩
 obtain⟨e8720,hx8721,hm⟩:=b9 hm
 refine⟨_,A5 (fun _=>rfl) hx8721, ?_⟩
 obtain⟨e8722,hx8723,hm⟩:=b9 hm
 refine⟨_,q8 (fun _=>rfl) hx8723, ?_⟩
 refine cy hm (Y2 e8720 e8722) ?_
 rintro⟨x8724,x8725⟩ hm
 apply vb hm<;>intro _ hm
 refine cy hm (a3b) fun x8728 hm=> ?_
 cases hm
 cases hi8712
 have hm:=hk8710
 cases hm
 cases hi8064
 have hm:=hk8062
 exact hm.rr
 apply vb hm<;>intro _ hm
 cases hm
 cases hi8712
 have hm:=hk8710
 cases hm
 cases hi8064
 have hm:=hk8062
 exact hm.rr
 obtain⟨e8731,hx8732,hm⟩:=b9 hm
 refine⟨E1 hx8732, ?_⟩
 obtain⟨e8733,hx8734,hm⟩:=b9 hm
 refine⟨_,A5 (fun _=>rfl) hx8734,_,I5 (y:=x8724) (fun _=>rfl) hx8734, ?_⟩
 cases hm
 exact⟨(_,((W (i8660+1)),(v8661.set e8714.To.toNat x8724))),i4.of 4 rfl (tA rfl) ⟨hR rfl,hR rfl,hR rfl,hW rfl,trivial⟩,hi8712,Nat.lt_succ_self _⟩
 cases hm
 cases hi8712
 have hm:=hk8710
 cases hm
 exact⟨(_,(is8356,(W (round7613+1)),v8358,v8359,v8360,v8361,v8661)),i4.of 4 rfl (tA rfl) ⟨hR rfl,hR rfl,hR rfl,hW rfl,trivial⟩,hi8064,Nat.lt_succ_self _⟩
 cases hm
 cases hi8064
 have hm:=hk8062
 obtain⟨ev8773,he,hk8774⟩:=b9 hm
 refine c8b (I9 x6107 v7618) (fun(first8744,i8745)=>⟨[(0,lD 9 l N9.c),(1, .agg [DI n.1,DI n.2.1,DI n.2.2]),(3, .own 0 0),(4,DB false),(5, .own 1 0),(6,DB is7612),(7,DI i12),(8,DI x6105),(9,DI x6107),(10,DI greatest6114),(11,DI i6115),(12, .own 2 0),(15,DI round7613),(24,DI first8744),(25,DI i8745),(42,DB false),(55,DB (!is11)),(66,DB (decide (i6115<(v13.length:Int)))),(94,DB (decide (v6803≤greatest6114))),(129,DB (decide (round7613<4)))], [(0, .blk [DI n.1,DI n.2.1,DI n.2.2] 52),(1, .blk [.row 3 13,lD 11 v7614 b8.c,DI v7615,DI v7616,DI v7617] 79),(2, .blk [DI v6802,DI v6803,lD 4 v6804 d0.c,lD 6 v6805 d9.c,lD 4 v6806 c9.c,lD 5 v6807 c0.c,lD 6 v6808 d7.c,DI v6809,lD 4 v6810 d0.c,lD 6 v6811 d9.c,lD 4 v6812 c9.c,lD 5 v6813 c0.c,lD 6 v6814 d7.c] 30),(3,rE 13 v7618 a8.c 30)],4⟩) (0,0) (i4.of 4 rfl (tA rfl) ⟨hR rfl,hR rfl,hR rfl,hW rfl,trivial⟩) he ?_
 rintro fu8775 ⟨first8744,i8745⟩ b hm hi8776
 apply vb hm<;>intro _ hm
 obtain⟨e8778,hx8779,hm⟩:=b9 hm
 refine⟨E1 hx8779, ?_⟩
 obtain⟨e8780,hx8781,hm⟩:=b9 hm
 refine⟨_,A5 (fun _=>rfl) hx8781, ?_⟩
 refine cy hm (a3u e8780 x6107) ?_
 rintro⟨x8782,x8783⟩ hm
 apply vb hm<;>intro _ hm
 cases hm
 cases hi8776
 have hm:=hk8774
 exact hm.rr
 apply vb hm<;>intro _ hm
 apply vb hm<;>intro _ hm
 cases hm
 cases hi8776
 have hm:=hk8774
 exact hm.rr
 cases hm
 exact⟨(_,(x8782,(W (i8745+1)))),i4.of 4 rfl (tA rfl) ⟨hR rfl,hR rfl,hR rfl,hW rfl,trivial⟩,hi8776,Nat.lt_succ_self _⟩
 cases hm
 exact⟨(_,(x8782,(W (i8745+1)))),i4.of 4 rfl (tA rfl) ⟨hR rfl,hR rfl,hR rfl,hW rfl,trivial⟩,hi8776,Nat.lt_succ_self _⟩
 cases hm
 cases hi8776
 have hm:=hk8774
 refine cy hm (a3b) fun x8788 hm=> ?_
 exact hm.rr
end Go.Proofs.YtcedmbakcchkiaaGreatDoor
