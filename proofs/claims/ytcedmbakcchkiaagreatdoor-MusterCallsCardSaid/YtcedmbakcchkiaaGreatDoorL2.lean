/- Functions of the program as pure Lean functions, and that calls do what these say. Printed by a program out of the given form. -/
import Derived.Test.YtcedmbakcchkiaaGreatDoorL1
set_option linter.unusedVariables false
set_option linter.unusedSimpArgs false
namespace Go.Proofs.YtcedmbakcchkiaaGreatDoor
open Go Go.RowKit Go.Sx
set_option maxRecDepth 100000
set_option maxHeartbeats 20000000
def m_muster_Hear (x:TStation) (c:TCall):Option (TStation×Int):=
 Option.bind (m_IN_muster_open x) fun e=>
 match e with
 | .inl x8=>
  if(x8 !=0)=true then
   some ((⟨0,(⟨0, [], [], [], [], []⟩:TState),(⟨0, [], [], [], [], []⟩:TState)⟩:TStation),x8)
  else
   Option.bind (m_muster_isCall c) fun x32=>
   if(!x32)=true then
    some ((⟨0,(⟨0, [], [], [], [], []⟩:TState),(⟨0, [], [], [], [], []⟩:TState)⟩:TStation),91)
   else
    none
 | .inr (v9,v10,v11,v12,v13,v14,v15,v16,v17,v18,x19,x20,x21)=>
  Option.bind (m_muster_isCall c) fun x35=>
  if(!x35)=true then
   some ((⟨0,(⟨0, [], [], [], [], []⟩:TState),(⟨0, [], [], [], [], []⟩:TState)⟩:TStation),91)
  else
   if(c.To !=x19)=true then
    some ((⟨0,(⟨0, [], [], [], [], []⟩:TState),(⟨0, [], [], [], [], []⟩:TState)⟩:TStation),91)
   else
    if(c.Kind==1)=true then
     Option.bind (m_IN_muster_post_prepare c v9) fun⟨v89,x90⟩=>
     if(!x90)=true then
      some ((⟨0,(⟨0, [], [], [], [], []⟩:TState),(⟨0, [], [], [], [], []⟩:TState)⟩:TStation),2)
     else
      some ((⟨x19,(⟨x20,v89,v10,v11,v12,v13⟩:TState),(⟨x21,v14,v15,v16,v17,v18⟩:TState)⟩:TStation),0)
    else
     if(c.Kind==2)=true then
      Option.bind (m_IN_muster_post_promise c v10) fun v291=>
      some ((⟨x19,(⟨x20,v9,v291,v11,v12,v13⟩:TState),(⟨x21,v14,v15,v16,v17,v18⟩:TState)⟩:TStation),0)
     else
      if(c.Kind==3)=true then
       Option.bind (m_IN_muster_post_accept c v9) fun⟨v408,x409⟩=>
       if(!x409)=true then
        some ((⟨0,(⟨0, [], [], [], [], []⟩:TState),(⟨0, [], [], [], [], []⟩:TState)⟩:TStation),2)
       else
        some ((⟨x19,(⟨x20,v408,v10,v11,v12,v13⟩:TState),(⟨x21,v14,v15,v16,v17,v18⟩:TState)⟩:TStation),0)
      else
       if(c.Kind==4)=true then
        Option.bind (m_IN_muster_post_accepted c v11) fun⟨v621,x622⟩=>
        if(!x622)=true then
         some ((⟨0,(⟨0, [], [], [], [], []⟩:TState),(⟨0, [], [], [], [], []⟩:TState)⟩:TStation),2)
        else
         some ((⟨x19,(⟨x20,v9,v10,v621,v12,v13⟩:TState),(⟨x21,v14,v15,v16,v17,v18⟩:TState)⟩:TStation),0)
       else
        if(c.Kind==5)=true then
         Option.bind (m_IN_muster_post_grant c v13) fun⟨v725,x726⟩=>
         if(!x726)=true then
          some ((⟨0,(⟨0, [], [], [], [], []⟩:TState),(⟨0, [], [], [], [], []⟩:TState)⟩:TStation),2)
         else
          some ((⟨x19,(⟨x20,v9,v10,v11,v12,v725⟩:TState),(⟨x21,v14,v15,v16,v17,v18⟩:TState)⟩:TStation),0)
        else
         if(c.Kind==6)=true then
          Option.bind (m_IN_muster_post_back c v12) fun v839=>
          some ((⟨x19,(⟨x20,v9,v10,v11,v839,v13⟩:TState),(⟨x21,v14,v15,v16,v17,v18⟩:TState)⟩:TStation),0)
         else
          none
theorem d_muster_Hear (x:TStation) (c:TCall) (r:(TStation×Int)) (hm:m_muster_Hear x c=some r):Does Tryz.prog 37 [.agg (TStation.c x), .agg (TCall.c c)] (fun x=>x= .tup [.agg (TStation.c r.1),DI r.2]):=by
 refine zy pl37 [99,106,149,210,211,220] [62] [61,154,155,156,157,158,159,184,188,189,208] Tryz.func37 rfl ?_
 obtain⟨ev29,he30,hm⟩:=bd_some hm
 refine CallIn.ofZ pok ⟨[(0, .agg (TStation.c x)),(1000000, .agg (TStation.c x)),(1000001, .agg (TCall.c c)),(1000002, .own 0 0),(1000003, .own 1 0),(1000004, .own 2 0),(1000005,DI 0)], [(0, .blk (TStation.c x) 30),(1, .blk (TCall.c c) 42),(2, .blk [DI 0,DI 0, .v (.slice none 0 0), .v (.slice none 0 0), .v (.slice none 0 0), .v (.slice none 0 0), .v (.slice none 0 0),DI 0, .v (.slice none 0 0), .v (.slice none 0 0), .v (.slice none 0 0), .v (.slice none 0 0), .v (.slice none 0 0)] 30)],3⟩ (match ev29 with| .inl x8=>(⟨[(0, .agg (TStation.c x)),(1, .agg (TCall.c c)),(2, .own 0 0),(3, .own 1 0),(4, .own 2 0),(5,DI 0),(10, .tup [.v (.pointer none),DI x8])], [(0, .blk (TStation.c x) 30),(1, .blk (TCall.c c) 42),(2, .blk [DI 0,DI 0, .v (.slice none 0 0), .v (.slice none 0 0), .v (.slice none 0 0), .v (.slice none 0 0), .v (.slice none 0 0),DI 0, .v (.slice none 0 0), .v (.slice none 0 0), .v (.slice none 0 0), .v (.slice none 0 0), .v (.slice none 0 0)] 30)],3⟩:Sy)| .inr (v9,v10,v11,v12,v13,v14,v15,v16,v17,v18,x19,x20,x21)=>(⟨[(0, .agg (TStation.c x)),(1, .agg (TCall.c c)),(2, .own 0 0),(3, .own 1 0),(4, .own 2 0),(5,DI 0),(10, .tup [.own 14 0,DI 0])], [(0, .blk (TStation.c x) 30),(1, .blk (TCall.c c) 42),(2, .blk [DI 0,DI 0, .v (.slice none 0 0), .v (.slice none 0 0), .v (.slice none 0 0), .v (.slice none 0 0), .v (.slice none 0 0),DI 0, .v (.slice none 0 0), .v (.slice none 0 0), .v (.slice none 0 0), .v (.slice none 0 0), .v (.slice none 0 0)] 30),(4,rE 4 v9 TSlot.c 110),(5,rE 6 v10 TBid.c 108),(6,rE 4 v11 THeard.c 149),(7,rE 5 v12 TLease.c 112),(8,rE 6 v13 TLoan.c 114),(9,rE 4 v14 TSlot.c 110),(10,rE 6 v15 TBid.c 108),(11,rE 4 v16 THeard.c 149),(12,rE 5 v17 TLease.c 112),(13,rE 6 v18 TLoan.c 114),(14, .blk [DI x19,DI x20, .row 4 4, .row 5 6, .row 6 4, .row 7 5, .row 8 6,DI x21, .row 9 4, .row 10 6, .row 11 4, .row 12 5, .row 13 6] 102)],15⟩:Sy):Sy) pl61 [99,106,149,210,211,220] [62] [61,154,155,156,157,158,159,184,188,189,208] Tryz.func61 rfl rfl rfl (SubY.of 3 rfl (tA rfl) ⟨hR rfl,hR rfl,hR rfl,trivial⟩) (fun sv=> ?_) ?_
 have hm:=he30
 refine cy hm (d_muster_Check x) fun x1002 hm=> ?_
 apply vb hm<;>intro _ hm
 cases hm
 exact SubY.of 3 rfl (tA rfl) ⟨hR rfl,hR rfl,hR rfl,trivial⟩
 refine⟨rfl, ?_⟩
 obtain⟨x1005,hx1006,hm⟩:=bd_some hm
 refine .inr (CallM.mk ⟨_,_,dm_muster_copied x.Now _ hx1006, ?_⟩)
 obtain⟨x1007,hx1008,hm⟩:=bd_some hm
 refine .inr (CallM.mk ⟨_,_,dm_muster_copied x.Safe _ hx1008, ?_⟩)
 cases hm
 exact SubY.of 15 rfl (tA rfl) ⟨hR rfl,hR rfl,hR rfl,hW rfl,hW rfl,hW rfl,hW rfl,hW rfl,hW rfl,hW rfl,hW rfl,hW rfl,hW rfl,hR rfl,trivial⟩
 rcases ev29 with x8|⟨v9,v10,v11,v12,v13,v14,v15,v16,v17,v18,x19,x20,x21⟩
 apply vb hm<;>intro _ hm
 cases hm
 exact RetY.le (⟨_,rfl,⟨⟨_,rfl,⟨leD.refl _,leD.refl _,leD.nil,leD.nil,leD.nil,leD.nil,leD.nil,leD.refl _,leD.nil,leD.nil,leD.nil,leD.nil,leD.nil,trivial⟩⟩,leD.refl _,trivial⟩⟩)
 refine⟨rfl, ?_⟩
 refine cy hm (d_muster_isCall c) fun x32 hm=> ?_
 apply vb hm<;>intro _ hm
 cases hm
 exact RetY.le (⟨_,rfl,⟨⟨_,rfl,⟨leD.refl _,leD.refl _,leD.nil,leD.nil,leD.nil,leD.nil,leD.nil,leD.refl _,leD.nil,leD.nil,leD.nil,leD.nil,leD.nil,trivial⟩⟩,leD.refl _,trivial⟩⟩)
 cases hm
 refine⟨rfl, ?_⟩
 refine cy hm (d_muster_isCall c) fun x35 hm=> ?_
 apply vb hm<;>intro _ hm
 cases hm
 exact RetY.le (⟨_,rfl,⟨⟨_,rfl,⟨leD.refl _,leD.refl _,leD.nil,leD.nil,leD.nil,leD.nil,leD.nil,leD.refl _,leD.nil,leD.nil,leD.nil,leD.nil,leD.nil,trivial⟩⟩,leD.refl _,trivial⟩⟩)
 apply vb hm<;>intro _ hm
 cases hm
 exact RetY.le (⟨_,rfl,⟨⟨_,rfl,⟨leD.refl _,leD.refl _,leD.nil,leD.nil,leD.nil,leD.nil,leD.nil,leD.refl _,leD.nil,leD.nil,leD.nil,leD.nil,leD.nil,trivial⟩⟩,leD.refl _,trivial⟩⟩)
 refine⟨rfl, ?_⟩
 refine CallY.det d_muster_does ?_
 cases h39:(c.Kind==1)
 rotate_left
 replace hm:=if_t h39 hm
 refine⟨⟨3,139,by kernel_rfl,by kernel_rfl⟩,154,by simp only [findM,h39], ?_⟩
 obtain⟨ev174,he175,hm⟩:=bd_some hm
 refine CallIn.ofZ pok ⟨[(0, .own 14 0),(1, .agg (TCall.c c)),(1000000, .agg (TStation.c x)),(1000001, .agg (TCall.c c)),(1000002, .own 0 0),(1000003, .own 1 0),(1000004, .own 2 0),(1000005,DI 0),(1000006, .own 14 0),(1000007,DI 0),(1000013,DB false),(1000018,DB (c.To !=x19))], [(0, .blk (TStation.c x) 30),(1, .blk (TCall.c c) 42),(2, .blk [DI 0,DI 0, .v (.slice none 0 0), .v (.slice none 0 0), .v (.slice none 0 0), .v (.slice none 0 0), .v (.slice none 0 0),DI 0, .v (.slice none 0 0), .v (.slice none 0 0), .v (.slice none 0 0), .v (.slice none 0 0), .v (.slice none 0 0)] 30),(4,rE 4 v9 TSlot.c 110),(5,rE 6 v10 TBid.c 108),(6,rE 4 v11 THeard.c 149),(7,rE 5 v12 TLease.c 112),(8,rE 6 v13 TLoan.c 114),(9,rE 4 v14 TSlot.c 110),(10,rE 6 v15 TBid.c 108),(11,rE 4 v16 THeard.c 149),(12,rE 5 v17 TLease.c 112),(13,rE 6 v18 TLoan.c 114),(14, .blk [DI x19,DI x20, .row 4 4, .row 5 6, .row 6 4, .row 7 5, .row 8 6,DI x21, .row 9 4, .row 10 6, .row 11 4, .row 12 5, .row 13 6] 102)],15⟩ (match ev174 with|(v89,x90)=>(⟨[(0, .agg (TStation.c x)),(1, .agg (TCall.c c)),(2, .own 0 0),(3, .own 1 0),(4, .own 2 0),(5,DI 0),(6, .own 14 0),(7,DI 0),(13,DB false),(18,DB (c.To !=x19)),(40,DB x90)], [(0, .blk (TStation.c x) 30),(1, .blk (TCall.c c) 42),(2, .blk [DI 0,DI 0, .v (.slice none 0 0), .v (.slice none 0 0), .v (.slice none 0 0), .v (.slice none 0 0), .v (.slice none 0 0),DI 0, .v (.slice none 0 0), .v (.slice none 0 0), .v (.slice none 0 0), .v (.slice none 0 0), .v (.slice none 0 0)] 30),(4,rE 4 v89 TSlot.c 110),(5,rE 6 v10 TBid.c 108),(6,rE 4 v11 THeard.c 149),(7,rE 5 v12 TLease.c 112),(8,rE 6 v13 TLoan.c 114),(9,rE 4 v14 TSlot.c 110),(10,rE 6 v15 TBid.c 108),(11,rE 4 v16 THeard.c 149),(12,rE 5 v17 TLease.c 112),(13,rE 6 v18 TLoan.c 114),(14, .blk [DI x19,DI x20, .row 4 4, .row 5 6, .row 6 4, .row 7 5, .row 8 6,DI x21, .row 9 4, .row 10 6, .row 11 4, .row 12 5, .row 13 6] 102)],15⟩:Sy):Sy) pl154 [99,106,149,210,211,220] [62] [61,154,155,156,157,158,159,184,188,189,208] Tryz.func154 rfl rfl rfl (SubY.of 15 rfl (tA rfl) ⟨hR rfl,hR rfl,hR rfl,hW rfl,hW rfl,hW rfl,hW rfl,hW rfl,hW rfl,hW rfl,hW rfl,hW rfl,hW rfl,hR rfl,trivial⟩) (fun sv=> ?_) ?_
 have hm:=he175
 obtain⟨ev226,he227,hm⟩:=bd_some hm
 refine CallIn.ofZ pok ⟨[(0, .own 14 0),(1,DI c.Night),(1000000, .own 14 0),(1000001, .agg (TCall.c c)),(1000003, .own 15 0),(1000004,DB false),(1000030, .agg (TStation.c x)),(1000031, .agg (TCall.c c)),(1000032, .own 0 0),(1000033, .own 1 0),(1000034, .own 2 0),(1000035,DI 0),(1000036, .own 14 0),(1000037,DI 0),(1000043,DB false),(1000048,DB (c.To !=x19))], [(0, .blk (TStation.c x) 30),(1, .blk (TCall.c c) 42),(2, .blk [DI 0,DI 0, .v (.slice none 0 0), .v (.slice none 0 0), .v (.slice none 0 0), .v (.slice none 0 0), .v (.slice none 0 0),DI 0, .v (.slice none 0 0), .v (.slice none 0 0), .v (.slice none 0 0), .v (.slice none 0 0), .v (.slice none 0 0)] 30),(4,rE 4 v9 TSlot.c 110),(5,rE 6 v10 TBid.c 108),(6,rE 4 v11 THeard.c 149),(7,rE 5 v12 TLease.c 112),(8,rE 6 v13 TLoan.c 114),(9,rE 4 v14 TSlot.c 110),(10,rE 6 v15 TBid.c 108),(11,rE 4 v16 THeard.c 149),(12,rE 5 v17 TLease.c 112),(13,rE 6 v18 TLoan.c 114),(14, .blk [DI x19,DI x20, .row 4 4, .row 5 6, .row 6 4, .row 7 5, .row 8 6,DI x21, .row 9 4, .row 10 6, .row 11 4, .row 12 5, .row 13 6] 102),(15, .blk (TCall.c c) 42)],16⟩ (match ev226 with| .inl (v197,x198)=>(⟨[(0, .own 14 0),(1, .agg (TCall.c c)),(3, .own 15 0),(4,DB false),(11, .tup [.elr 4 4 (x198).toNat 0,DB true]),(1000000, .agg (TStation.c x)),(1000001, .agg (TCall.c c)),(1000002, .own 0 0),(1000003, .own 1 0),(1000004, .own 2 0),(1000005,DI 0),(1000006, .own 14 0),(1000007,DI 0),(1000013,DB false),(1000018,DB (c.To !=x19))], [(0, .blk (TStation.c x) 30),(1, .blk (TCall.c c) 42),(2, .blk [DI 0,DI 0, .v (.slice none 0 0), .v (.slice none 0 0), .v (.slice none 0 0), .v (.slice none 0 0), .v (.slice none 0 0),DI 0, .v (.slice none 0 0), .v (.slice none 0 0), .v (.slice none 0 0), .v (.slice none 0 0), .v (.slice none 0 0)] 30),(4,rE 4 v197 TSlot.c 110),(5,rE 6 v10 TBid.c 108),(6,rE 4 v11 THeard.c 149),(7,rE 5 v12 TLease.c 112),(8,rE 6 v13 TLoan.c 114),(9,rE 4 v14 TSlot.c 110),(10,rE 6 v15 TBid.c 108),(11,rE 4 v16 THeard.c 149),(12,rE 5 v17 TLease.c 112),(13,rE 6 v18 TLoan.c 114),(14, .blk [DI x19,DI x20, .row 4 4, .row 5 6, .row 6 4, .row 7 5, .row 8 6,DI x21, .row 9 4, .row 10 6, .row 11 4, .row 12 5, .row 13 6] 102),(15, .blk (TCall.c c) 42)],16⟩:Sy)| .inr _=>(⟨[(0, .own 14 0),(1, .agg (TCall.c c)),(3, .own 15 0),(4,DB false),(11, .tup [.v (.pointer none),DB false]),(1000000, .agg (TStation.c x)),(1000001, .agg (TCall.c c)),(1000002, .own 0 0),(1000003, .own 1 0),(1000004, .own 2 0),(1000005,DI 0),(1000006, .own 14 0),(1000007,DI 0),(1000013,DB false),(1000018,DB (c.To !=x19))], [(0, .blk (TStation.c x) 30),(1, .blk (TCall.c c) 42),(2, .blk [DI 0,DI 0, .v (.slice none 0 0), .v (.slice none 0 0), .v (.slice none 0 0), .v (.slice none 0 0), .v (.slice none 0 0),DI 0, .v (.slice none 0 0), .v (.slice none 0 0), .v (.slice none 0 0), .v (.slice none 0 0), .v (.slice none 0 0)] 30),(4,rE 4 v9 TSlot.c 110),(5,rE 6 v10 TBid.c 108),(6,rE 4 v11 THeard.c 149),(7,rE 5 v12 TLease.c 112),(8,rE 6 v13 TLoan.c 114),(9,rE 4 v14 TSlot.c 110),(10,rE 6 v15 TBid.c 108),(11,rE 4 v16 THeard.c 149),(12,rE 5 v17 TLease.c 112),(13,rE 6 v18 TLoan.c 114),(14, .blk [DI x19,DI x20, .row 4 4, .row 5 6, .row 6 4, .row 7 5, .row 8 6,DI x21, .row 9 4, .row 10 6, .row 11 4, .row 12 5, .row 13 6] 102),(15, .blk (TCall.c c) 42)],16⟩:Sy):Sy) [] [99,106,149,210,211,220] [62] [61,154,155,156,157,158,159,184,188,189,208] Tryz.func184 rfl rfl rfl (SubY.of 16 rfl (tA rfl) ⟨hR rfl,hR rfl,hR rfl,hW rfl,hW rfl,hW rfl,hW rfl,hW rfl,hW rfl,hW rfl,hW rfl,hW rfl,hW rfl,hR rfl,hR rfl,trivial⟩) (fun sv=> ?_) ?_
 have hm:=he227
 obtain⟨ev249,he250,hm⟩:=bd_some hm
 refine CallIn.ofZ pok ⟨[(0, .row 4 4),(1, .agg [DI c.Night,DI 0,DI 0,DI 0]),(2,DI 12),(3, .fn 136 [] []),(1000000, .own 14 0),(1000001,DI c.Night),(1000004, .v (.pointer none)),(1000005,DB false),(1000033, .own 14 0),(1000034, .agg (TCall.c c)),(1000036, .own 15 0),(1000037,DB false),(1000063, .agg (TStation.c x)),(1000064, .agg (TCall.c c)),(1000065, .own 0 0),(1000066, .own 1 0),(1000067, .own 2 0),(1000068,DI 0),(1000069, .own 14 0),(1000070,DI 0),(1000076,DB false),(1000081,DB (c.To !=x19))], [(0, .blk (TStation.c x) 30),(1, .blk (TCall.c c) 42),(2, .blk [DI 0,DI 0, .v (.slice none 0 0), .v (.slice none 0 0), .v (.slice none 0 0), .v (.slice none 0 0), .v (.slice none 0 0),DI 0, .v (.slice none 0 0), .v (.slice none 0 0), .v (.slice none 0 0), .v (.slice none 0 0), .v (.slice none 0 0)] 30),(4,rE 4 v9 TSlot.c 110),(5,rE 6 v10 TBid.c 108),(6,rE 4 v11 THeard.c 149),(7,rE 5 v12 TLease.c 112),(8,rE 6 v13 TLoan.c 114),(9,rE 4 v14 TSlot.c 110),(10,rE 6 v15 TBid.c 108),(11,rE 4 v16 THeard.c 149),(12,rE 5 v17 TLease.c 112),(13,rE 6 v18 TLoan.c 114),(14, .blk [DI x19,DI x20, .row 4 4, .row 5 6, .row 6 4, .row 7 5, .row 8 6,DI x21, .row 9 4, .row 10 6, .row 11 4, .row 12 5, .row 13 6] 102),(15, .blk (TCall.c c) 42)],16⟩ (match ev249 with| .inl (v240,x241)=>(⟨[(0, .own 14 0),(1,DI c.Night),(4, .v (.pointer none)),(5,DB false),(18, .tup [.row 4 4,DI x241,DB true]),(1000000, .own 14 0),(1000001, .agg (TCall.c c)),(1000003, .own 15 0),(1000004,DB false),(1000030, .agg (TStation.c x)),(1000031, .agg (TCall.c c)),(1000032, .own 0 0),(1000033, .own 1 0),(1000034, .own 2 0),(1000035,DI 0),(1000036, .own 14 0),(1000037,DI 0),(1000043,DB false),(1000048,DB (c.To !=x19))], [(0, .blk (TStation.c x) 30),(1, .blk (TCall.c c) 42),(2, .blk [DI 0,DI 0, .v (.slice none 0 0), .v (.slice none 0 0), .v (.slice none 0 0), .v (.slice none 0 0), .v (.slice none 0 0),DI 0, .v (.slice none 0 0), .v (.slice none 0 0), .v (.slice none 0 0), .v (.slice none 0 0), .v (.slice none 0 0)] 30),(4,rE 4 v240 TSlot.c 110),(5,rE 6 v10 TBid.c 108),(6,rE 4 v11 THeard.c 149),(7,rE 5 v12 TLease.c 112),(8,rE 6 v13 TLoan.c 114),(9,rE 4 v14 TSlot.c 110),(10,rE 6 v15 TBid.c 108),(11,rE 4 v16 THeard.c 149),(12,rE 5 v17 TLease.c 112),(13,rE 6 v18 TLoan.c 114),(14, .blk [DI x19,DI x20, .bad, .row 5 6, .row 6 4, .row 7 5, .row 8 6,DI x21, .row 9 4, .row 10 6, .row 11 4, .row 12 5, .row 13 6] 102),(15, .blk (TCall.c c) 42)],16⟩:Sy)| .inr _=>(⟨[(0, .own 14 0),(1,DI c.Night),(4, .v (.pointer none)),(5,DB false),(18, .tup [.v (.slice none 0 0),DI 0,DB false]),(1000000, .own 14 0),(1000001, .agg (TCall.c c)),(1000003, .own 15 0),(1000004,DB false),(1000030, .agg (TStation.c x)),(1000031, .agg (TCall.c c)),(1000032, .own 0 0),(1000033, .own 1 0),(1000034, .own 2 0),(1000035,DI 0),(1000036, .own 14 0),(1000037,DI 0),(1000043,DB false),(1000048,DB (c.To !=x19))], [(0, .blk (TStation.c x) 30),(1, .blk (TCall.c c) 42),(2, .blk [DI 0,DI 0, .v (.slice none 0 0), .v (.slice none 0 0), .v (.slice none 0 0), .v (.slice none 0 0), .v (.slice none 0 0),DI 0, .v (.slice none 0 0), .v (.slice none 0 0), .v (.slice none 0 0), .v (.slice none 0 0), .v (.slice none 0 0)] 30),(4,rE 4 v9 TSlot.c 110),(5,rE 6 v10 TBid.c 108),(6,rE 4 v11 THeard.c 149),(7,rE 5 v12 TLease.c 112),(8,rE 6 v13 TLoan.c 114),(9,rE 4 v14 TSlot.c 110),(10,rE 6 v15 TBid.c 108),(11,rE 4 v16 THeard.c 149),(12,rE 5 v17 TLease.c 112),(13,rE 6 v18 TLoan.c 114),(14, .blk [DI x19,DI x20, .row 4 4, .row 5 6, .row 6 4, .row 7 5, .row 8 6,DI x21, .row 9 4, .row 10 6, .row 11 4, .row 12 5, .row 13 6] 102),(15, .blk (TCall.c c) 42)],16⟩:Sy):Sy) [] [99,106,149,210,211,220] [62] [61,154,155,156,157,158,159,184,188,189,208] Tryz.func208 rfl rfl rfl (SubY.of 16 rfl (tA rfl) ⟨hR rfl,hR rfl,hR rfl,hW rfl,hW rfl,hW rfl,hW rfl,hW rfl,hW rfl,hW rfl,hW rfl,hW rfl,hW rfl,hR rfl,hR rfl,trivial⟩) (fun sv=> ?_) ?_
 have hm:=he250
 refine co hm (d_muster_place_api_Slot__muster_compareSlots v9 ((⟨c.Night,0,0,0⟩:TSlot))) ?_
 rintro⟨x253,x254⟩ hm
 apply vb hm<;>intro _ hm
 cases hm
 exact SubY.of 16 rfl (tA rfl) ⟨hR rfl,hR rfl,hR rfl,hW rfl,hW rfl,hW rfl,hW rfl,hW rfl,hW rfl,hW rfl,hW rfl,hW rfl,hW rfl,⟨_,rfl,⟨leD.refl _,leD.refl _,leD.refl _,leD.refl _,leD.refl _,leD.refl _,leD.refl _,leD.refl _,leD.refl _,leD.refl _,leD.refl _,leD.refl _,trivial⟩⟩,hR rfl,trivial⟩
 apply vb hm<;>intro _ hm
 cases hm
 exact SubY.of 16 rfl (tA rfl) ⟨hR rfl,hR rfl,hR rfl,hW rfl,hW rfl,hW rfl,hW rfl,hW rfl,hW rfl,hW rfl,hW rfl,hW rfl,hW rfl,hR rfl,hR rfl,trivial⟩
 refine⟨([(⟨c.Night,0,0,0⟩:TSlot)]:List TSlot).flatMap TSlot.c,([(⟨c.Night,0,0,0⟩:TSlot)]:List TSlot).length,⟨rfl,rfl⟩, ?_⟩
 obtain⟨x258,hx259,hm⟩:=bd_some hm
 refine .inl (CallL.mk ⟨_,_,_,_,_,_,_,rfl,d_slices_Insert_api_Slot_api_Slot v9 x253 (([(⟨c.Night,0,0,0⟩:TSlot)]:List TSlot)) _ hx259, ?_⟩)
 cases hm
 exact SubY.of 16 rfl (tA rfl) ⟨hR rfl,hR rfl,hR rfl,hW rfl,hW rfl,hW rfl,hW rfl,hW rfl,hW rfl,hW rfl,hW rfl,hW rfl,hW rfl,hR rfl,hR rfl,trivial⟩
 rcases ev249 with⟨v240,x241⟩|⟨⟩
 obtain⟨e251,hx252,hm⟩:=bd_some hm
 refine⟨idx_bd hx252, ?_⟩
 cases hm
 exact SubY.of 16 rfl (tA rfl) ⟨hR rfl,hR rfl,hR rfl,hW rfl,hW rfl,hW rfl,hW rfl,hW rfl,hW rfl,hW rfl,hW rfl,hW rfl,hW rfl,hR rfl,hR rfl,trivial⟩
 cases hm
 exact SubY.of 16 rfl (tA rfl) ⟨hR rfl,hR rfl,hR rfl,hW rfl,hW rfl,hW rfl,hW rfl,hW rfl,hW rfl,hW rfl,hW rfl,hW rfl,hW rfl,hR rfl,hR rfl,trivial⟩
 rcases ev226 with⟨v197,x198⟩|⟨⟩
 refine⟨rfl, ?_⟩
 obtain⟨e228,hx229,hm⟩:=bd_some hm
 refine⟨_,el_row (fun _=>rfl) hx229, ?_⟩
 apply vb hm<;>intro _ hm
 obtain⟨e231,hx232,hm⟩:=bd_some hm
 refine⟨_,el_row (fun _=>rfl) hx232,_,set_row (y:=(⟨e231.Night,c.Ballot,e231.Ballot,e231.Value⟩:TSlot)) (fun _=>rfl) hx232, ?_⟩
 cases hm
 exact SubY.of 15 rfl (tA rfl) ⟨hR rfl,hR rfl,hR rfl,hW rfl,hW rfl,hW rfl,hW rfl,hW rfl,hW rfl,hW rfl,hW rfl,hW rfl,hW rfl,hR rfl,trivial⟩
 cases hm
 exact SubY.of 15 rfl (tA rfl) ⟨hR rfl,hR rfl,hR rfl,hW rfl,hW rfl,hW rfl,hW rfl,hW rfl,hW rfl,hW rfl,hW rfl,hW rfl,hW rfl,hR rfl,trivial⟩
 refine⟨rfl, ?_⟩
 cases hm
 exact SubY.of 15 rfl (tA rfl) ⟨hR rfl,hR rfl,hR rfl,hW rfl,hW rfl,hW rfl,hW rfl,hW rfl,hW rfl,hW rfl,hW rfl,hW rfl,hW rfl,hR rfl,trivial⟩
 obtain⟨v89,x90⟩:=ev174
 apply vb hm<;>intro _ hm
 cases hm
 exact RetY.le (⟨_,rfl,⟨⟨_,rfl,⟨leD.refl _,leD.refl _,leD.nil,leD.nil,leD.nil,leD.nil,leD.nil,leD.refl _,leD.nil,leD.nil,leD.nil,leD.nil,leD.nil,trivial⟩⟩,leD.refl _,trivial⟩⟩)
 cases hm
 exact RetY.le (leD.refl _)
 replace hm:=if_f h39 hm
 cases h260:(c.Kind==2)
 rotate_left
 replace hm:=if_t h260 hm
 refine⟨⟨3,139,by kernel_rfl,by kernel_rfl⟩,155,by simp only [findM,h39,h260], ?_⟩
 obtain⟨ev322,he323,hm⟩:=bd_some hm
 refine CallIn.ofZ pok ⟨[(0, .own 14 0),(1, .agg (TCall.c c)),(1000000, .agg (TStation.c x)),(1000001, .agg (TCall.c c)),(1000002, .own 0 0),(1000003, .own 1 0),(1000004, .own 2 0),(1000005,DI 0),(1000006, .own 14 0),(1000007,DI 0),(1000013,DB false),(1000018,DB (c.To !=x19))], [(0, .blk (TStation.c x) 30),(1, .blk (TCall.c c) 42),(2, .blk [DI 0,DI 0, .v (.slice none 0 0), .v (.slice none 0 0), .v (.slice none 0 0), .v (.slice none 0 0), .v (.slice none 0 0),DI 0, .v (.slice none 0 0), .v (.slice none 0 0), .v (.slice none 0 0), .v (.slice none 0 0), .v (.slice none 0 0)] 30),(4,rE 4 v9 TSlot.c 110),(5,rE 6 v10 TBid.c 108),(6,rE 4 v11 THeard.c 149),(7,rE 5 v12 TLease.c 112),(8,rE 6 v13 TLoan.c 114),(9,rE 4 v14 TSlot.c 110),(10,rE 6 v15 TBid.c 108),(11,rE 4 v16 THeard.c 149),(12,rE 5 v17 TLease.c 112),(13,rE 6 v18 TLoan.c 114),(14, .blk [DI x19,DI x20, .row 4 4, .row 5 6, .row 6 4, .row 7 5, .row 8 6,DI x21, .row 9 4, .row 10 6, .row 11 4, .row 12 5, .row 13 6] 102)],15⟩ (match ev322 with|v291=>(⟨[(0, .agg (TStation.c x)),(1, .agg (TCall.c c)),(2, .own 0 0),(3, .own 1 0),(4, .own 2 0),(5,DI 0),(6, .own 14 0),(7,DI 0),(13,DB false),(18,DB (c.To !=x19)),(40,DB true)], [(0, .blk (TStation.c x) 30),(1, .blk (TCall.c c) 42),(2, .blk [DI 0,DI 0, .v (.slice none 0 0), .v (.slice none 0 0), .v (.slice none 0 0), .v (.slice none 0 0), .v (.slice none 0 0),DI 0, .v (.slice none 0 0), .v (.slice none 0 0), .v (.slice none 0 0), .v (.slice none 0 0), .v (.slice none 0 0)] 30),(4,rE 4 v9 TSlot.c 110),(5,rE 6 v291 TBid.c 108),(6,rE 4 v11 THeard.c 149),(7,rE 5 v12 TLease.c 112),(8,rE 6 v13 TLoan.c 114),(9,rE 4 v14 TSlot.c 110),(10,rE 6 v15 TBid.c 108),(11,rE 4 v16 THeard.c 149),(12,rE 5 v17 TLease.c 112),(13,rE 6 v18 TLoan.c 114),(14, .blk [DI x19,DI x20, .row 4 4, .row 5 6, .row 6 4, .row 7 5, .row 8 6,DI x21, .row 9 4, .row 10 6, .row 11 4, .row 12 5, .row 13 6] 102)],15⟩:Sy):Sy) pl155 [99,106,149,210,211,220] [62] [61,154,155,156,157,158,159,184,188,189,208] Tryz.func155 rfl rfl rfl (SubY.of 15 rfl (tA rfl) ⟨hR rfl,hR rfl,hR rfl,hW rfl,hW rfl,hW rfl,hW rfl,hW rfl,hW rfl,hW rfl,hW rfl,hW rfl,hW rfl,hR rfl,trivial⟩) (fun sv=> ?_) ?_
 have hm:=he323
 refine co hm (d_slices_IndexFunc_api_Bid_api_Bid__muster_post_promise_1 v10 c) fun x324 hm=> ?_
 apply vb hm<;>intro _ hm
 cases hm
 exact SubY.of 15 rfl (tA rfl) ⟨hR rfl,hR rfl,hR rfl,hW rfl,hW rfl,hW rfl,hW rfl,hW rfl,hW rfl,hW rfl,hW rfl,hW rfl,hW rfl,hR rfl,trivial⟩
 obtain⟨e327,hx328,hm⟩:=bd_some hm
 refine⟨idx_bd hx328, ?_⟩
 refine⟨rfl, ?_⟩
 obtain⟨e329,hx330,hm⟩:=bd_some hm
 refine⟨_,el_row (fun _=>rfl) hx330, ?_⟩
 apply vb hm<;>intro _ hm
 cases hm
 exact SubY.of 15 rfl (tA rfl) ⟨hR rfl,hR rfl,hR rfl,hW rfl,hW rfl,hW rfl,hW rfl,hW rfl,hW rfl,hW rfl,hW rfl,hW rfl,hW rfl,hR rfl,trivial⟩
 obtain⟨e332,hx333,hm⟩:=bd_some hm
 refine⟨_,el_row (fun _=>rfl) hx333, ?_⟩
 refine cy hm (d_muster_mask_has e332.Mask c.From) fun x334 hm=> ?_
 apply vb hm<;>intro _ hm
 cases hm
 exact SubY.of 15 rfl (tA rfl) ⟨hR rfl,hR rfl,hR rfl,hW rfl,hW rfl,hW rfl,hW rfl,hW rfl,hW rfl,hW rfl,hW rfl,hW rfl,hW rfl,hR rfl,trivial⟩
 refine⟨rfl, ?_⟩
 obtain⟨e337,hx338,hm⟩:=bd_some hm
 refine⟨_,el_row (fun _=>rfl) hx338, ?_⟩
 refine cy hm (d_muster_mask_with e337.Mask c.From) fun x339 hm=> ?_
 refine cy hm (d_muster_mask_quorum x339) fun x341 hm=> ?_
 obtain⟨e343,hx344,hm⟩:=bd_some hm
 refine⟨_,el_row (fun _=>rfl) hx344,_,set_row (y:=(⟨e343.Night,e343.Ballot,e343.Value,e343.Best,x339,e343.Asked⟩:TBid)) (fun _=>rfl) hx344, ?_⟩
 obtain⟨e345,hx346,hm⟩:=bd_some hm
 refine⟨_,el_rowS (fun _=>rfl) hx346 (by first|rfl|simp only [List.length_set]),_,set_row (y:=(⟨e345.Night,e345.Ballot,e345.Value,e345.Best,e345.Mask,x341⟩:TBid)) (fun _=>rfl) hx346, ?_⟩
 refine⟨rfl, ?_⟩
 obtain⟨e347,hx348,hm⟩:=bd_some hm
 refine⟨_,el_rowS (fun _=>rfl) hx348 (by first|rfl|simp only [List.length_set]), ?_⟩
 apply vb hm<;>intro _ hm
 refine⟨rfl, ?_⟩
 obtain⟨e350,hx351,hm⟩:=bd_some hm
 refine⟨_,el_rowS (fun _=>rfl) hx351 (by first|rfl|simp only [List.length_set]),_,set_row (y:=(⟨e350.Night,e350.Ballot,e350.Value,c.Best,e350.Mask,e350.Asked⟩:TBid)) (fun _=>rfl) hx351, ?_⟩
 obtain⟨e352,hx353,hm⟩:=bd_some hm
 refine⟨_,el_rowS (fun _=>rfl) hx353 (by first|rfl|simp only [List.length_set]),_,set_row (y:=(⟨e352.Night,e352.Ballot,c.Value,e352.Best,e352.Mask,e352.Asked⟩:TBid)) (fun _=>rfl) hx353, ?_⟩
 cases hm
 exact SubY.of 15 rfl (tA rfl) ⟨hR rfl,hR rfl,hR rfl,hW rfl,hW rfl,hW rfl,hW rfl,hW rfl,hW rfl,hW rfl,hW rfl,hW rfl,hW rfl,hR rfl,trivial⟩
 cases hm
 exact SubY.of 15 rfl (tA rfl) ⟨hR rfl,hR rfl,hR rfl,hW rfl,hW rfl,hW rfl,hW rfl,hW rfl,hW rfl,hW rfl,hW rfl,hW rfl,hW rfl,hR rfl,trivial⟩
 obtain v291:=ev322
 cases hm
 exact RetY.le (leD.refl _)
 replace hm:=if_f h260 hm
 cases h354:(c.Kind==3)
 rotate_left
 replace hm:=if_t h354 hm
 refine⟨⟨3,139,by kernel_rfl,by kernel_rfl⟩,156,by simp only [findM,h39,h260,h354], ?_⟩
 obtain⟨ev497,he498,hm⟩:=bd_some hm
 refine CallIn.ofZ pok ⟨[(0, .own 14 0),(1, .agg (TCall.c c)),(1000000, .agg (TStation.c x)),(1000001, .agg (TCall.c c)),(1000002, .own 0 0),(1000003, .own 1 0),(1000004, .own 2 0),(1000005,DI 0),(1000006, .own 14 0),(1000007,DI 0),(1000013,DB false),(1000018,DB (c.To !=x19))], [(0, .blk (TStation.c x) 30),(1, .blk (TCall.c c) 42),(2, .blk [DI 0,DI 0, .v (.slice none 0 0), .v (.slice none 0 0), .v (.slice none 0 0), .v (.slice none 0 0), .v (.slice none 0 0),DI 0, .v (.slice none 0 0), .v (.slice none 0 0), .v (.slice none 0 0), .v (.slice none 0 0), .v (.slice none 0 0)] 30),(4,rE 4 v9 TSlot.c 110),(5,rE 6 v10 TBid.c 108),(6,rE 4 v11 THeard.c 149),(7,rE 5 v12 TLease.c 112),(8,rE 6 v13 TLoan.c 114),(9,rE 4 v14 TSlot.c 110),(10,rE 6 v15 TBid.c 108),(11,rE 4 v16 THeard.c 149),(12,rE 5 v17 TLease.c 112),(13,rE 6 v18 TLoan.c 114),(14, .blk [DI x19,DI x20, .row 4 4, .row 5 6, .row 6 4, .row 7 5, .row 8 6,DI x21, .row 9 4, .row 10 6, .row 11 4, .row 12 5, .row 13 6] 102)],15⟩ (match ev497 with|(v408,x409)=>(⟨[(0, .agg (TStation.c x)),(1, .agg (TCall.c c)),(2, .own 0 0),(3, .own 1 0),(4, .own 2 0),(5,DI 0),(6, .own 14 0),(7,DI 0),(13,DB false),(18,DB (c.To !=x19)),(40,DB x409)], [(0, .blk (TStation.c x) 30),(1, .blk (TCall.c c) 42),(2, .blk [DI 0,DI 0, .v (.slice none 0 0), .v (.slice none 0 0), .v (.slice none 0 0), .v (.slice none 0 0), .v (.slice none 0 0),DI 0, .v (.slice none 0 0), .v (.slice none 0 0), .v (.slice none 0 0), .v (.slice none 0 0), .v (.slice none 0 0)] 30),(4,rE 4 v408 TSlot.c 110),(5,rE 6 v10 TBid.c 108),(6,rE 4 v11 THeard.c 149),(7,rE 5 v12 TLease.c 112),(8,rE 6 v13 TLoan.c 114),(9,rE 4 v14 TSlot.c 110),(10,rE 6 v15 TBid.c 108),(11,rE 4 v16 THeard.c 149),(12,rE 5 v17 TLease.c 112),(13,rE 6 v18 TLoan.c 114),(14, .blk [DI x19,DI x20, .row 4 4, .row 5 6, .row 6 4, .row 7 5, .row 8 6,DI x21, .row 9 4, .row 10 6, .row 11 4, .row 12 5, .row 13 6] 102)],15⟩:Sy):Sy) pl156 [99,106,149,210,211,220] [62] [61,154,155,156,157,158,159,184,188,189,208] Tryz.func156 rfl rfl rfl (SubY.of 15 rfl (tA rfl) ⟨hR rfl,hR rfl,hR rfl,hW rfl,hW rfl,hW rfl,hW rfl,hW rfl,hW rfl,hW rfl,hW rfl,hW rfl,hW rfl,hR rfl,trivial⟩) (fun sv=> ?_) ?_
 have hm:=he498
 obtain⟨ev549,he550,hm⟩:=bd_some hm
 refine CallIn.ofZ pok ⟨[(0, .own 14 0),(1,DI c.Night),(1000000, .own 14 0),(1000001, .agg (TCall.c c)),(1000003, .own 15 0),(1000004,DB false),(1000040, .agg (TStation.c x)),(1000041, .agg (TCall.c c)),(1000042, .own 0 0),(1000043, .own 1 0),(1000044, .own 2 0),(1000045,DI 0),(1000046, .own 14 0),(1000047,DI 0),(1000053,DB false),(1000058,DB (c.To !=x19))], [(0, .blk (TStation.c x) 30),(1, .blk (TCall.c c) 42),(2, .blk [DI 0,DI 0, .v (.slice none 0 0), .v (.slice none 0 0), .v (.slice none 0 0), .v (.slice none 0 0), .v (.slice none 0 0),DI 0, .v (.slice none 0 0), .v (.slice none 0 0), .v (.slice none 0 0), .v (.slice none 0 0), .v (.slice none 0 0)] 30),(4,rE 4 v9 TSlot.c 110),(5,rE 6 v10 TBid.c 108),(6,rE 4 v11 THeard.c 149),(7,rE 5 v12 TLease.c 112),(8,rE 6 v13 TLoan.c 114),(9,rE 4 v14 TSlot.c 110),(10,rE 6 v15 TBid.c 108),(11,rE 4 v16 THeard.c 149),(12,rE 5 v17 TLease.c 112),(13,rE 6 v18 TLoan.c 114),(14, .blk [DI x19,DI x20, .row 4 4, .row 5 6, .row 6 4, .row 7 5, .row 8 6,DI x21, .row 9 4, .row 10 6, .row 11 4, .row 12 5, .row 13 6] 102),(15, .blk (TCall.c c) 42)],16⟩ (match ev549 with| .inl (v520,x521)=>(⟨[(0, .own 14 0),(1, .agg (TCall.c c)),(3, .own 15 0),(4,DB false),(11, .tup [.elr 4 4 (x521).toNat 0,DB true]),(1000000, .agg (TStation.c x)),(1000001, .agg (TCall.c c)),(1000002, .own 0 0),(1000003, .own 1 0),(1000004, .own 2 0),(1000005,DI 0),(1000006, .own 14 0),(1000007,DI 0),(1000013,DB false),(1000018,DB (c.To !=x19))], [(0, .blk (TStation.c x) 30),(1, .blk (TCall.c c) 42),(2, .blk [DI 0,DI 0, .v (.slice none 0 0), .v (.slice none 0 0), .v (.slice none 0 0), .v (.slice none 0 0), .v (.slice none 0 0),DI 0, .v (.slice none 0 0), .v (.slice none 0 0), .v (.slice none 0 0), .v (.slice none 0 0), .v (.slice none 0 0)] 30),(4,rE 4 v520 TSlot.c 110),(5,rE 6 v10 TBid.c 108),(6,rE 4 v11 THeard.c 149),(7,rE 5 v12 TLease.c 112),(8,rE 6 v13 TLoan.c 114),(9,rE 4 v14 TSlot.c 110),(10,rE 6 v15 TBid.c 108),(11,rE 4 v16 THeard.c 149),(12,rE 5 v17 TLease.c 112),(13,rE 6 v18 TLoan.c 114),(14, .blk [DI x19,DI x20, .row 4 4, .row 5 6, .row 6 4, .row 7 5, .row 8 6,DI x21, .row 9 4, .row 10 6, .row 11 4, .row 12 5, .row 13 6] 102),(15, .blk (TCall.c c) 42)],16⟩:Sy)| .inr _=>(⟨[(0, .own 14 0),(1, .agg (TCall.c c)),(3, .own 15 0),(4,DB false),(11, .tup [.v (.pointer none),DB false]),(1000000, .agg (TStation.c x)),(1000001, .agg (TCall.c c)),(1000002, .own 0 0),(1000003, .own 1 0),(1000004, .own 2 0),(1000005,DI 0),(1000006, .own 14 0),(1000007,DI 0),(1000013,DB false),(1000018,DB (c.To !=x19))], [(0, .blk (TStation.c x) 30),(1, .blk (TCall.c c) 42),(2, .blk [DI 0,DI 0, .v (.slice none 0 0), .v (.slice none 0 0), .v (.slice none 0 0), .v (.slice none 0 0), .v (.slice none 0 0),DI 0, .v (.slice none 0 0), .v (.slice none 0 0), .v (.slice none 0 0), .v (.slice none 0 0), .v (.slice none 0 0)] 30),(4,rE 4 v9 TSlot.c 110),(5,rE 6 v10 TBid.c 108),(6,rE 4 v11 THeard.c 149),(7,rE 5 v12 TLease.c 112),(8,rE 6 v13 TLoan.c 114),(9,rE 4 v14 TSlot.c 110),(10,rE 6 v15 TBid.c 108),(11,rE 4 v16 THeard.c 149),(12,rE 5 v17 TLease.c 112),(13,rE 6 v18 TLoan.c 114),(14, .blk [DI x19,DI x20, .row 4 4, .row 5 6, .row 6 4, .row 7 5, .row 8 6,DI x21, .row 9 4, .row 10 6, .row 11 4, .row 12 5, .row 13 6] 102),(15, .blk (TCall.c c) 42)],16⟩:Sy):Sy) [] [99,106,149,210,211,220] [62] [61,154,155,156,157,158,159,184,188,189,208] Tryz.func184 rfl rfl rfl (SubY.of 16 rfl (tA rfl) ⟨hR rfl,hR rfl,hR rfl,hW rfl,hW rfl,hW rfl,hW rfl,hW rfl,hW rfl,hW rfl,hW rfl,hW rfl,hW rfl,hR rfl,hR rfl,trivial⟩) (fun sv=> ?_) ?_
 have hm:=he550
 obtain⟨ev576,he577,hm⟩:=bd_some hm
 refine CallIn.ofZ pok ⟨[(0, .row 4 4),(1, .agg [DI c.Night,DI 0,DI 0,DI 0]),(2,DI 12),(3, .fn 136 [] []),(1000000, .own 14 0),(1000001,DI c.Night),(1000004, .v (.pointer none)),(1000005,DB false),(1000033, .own 14 0),(1000034, .agg (TCall.c c)),(1000036, .own 15 0),(1000037,DB false),(1000073, .agg (TStation.c x)),(1000074, .agg (TCall.c c)),(1000075, .own 0 0),(1000076, .own 1 0),(1000077, .own 2 0),(1000078,DI 0),(1000079, .own 14 0),(1000080,DI 0),(1000086,DB false),(1000091,DB (c.To !=x19))], [(0, .blk (TStation.c x) 30),(1, .blk (TCall.c c) 42),(2, .blk [DI 0,DI 0, .v (.slice none 0 0), .v (.slice none 0 0), .v (.slice none 0 0), .v (.slice none 0 0), .v (.slice none 0 0),DI 0, .v (.slice none 0 0), .v (.slice none 0 0), .v (.slice none 0 0), .v (.slice none 0 0), .v (.slice none 0 0)] 30),(4,rE 4 v9 TSlot.c 110),(5,rE 6 v10 TBid.c 108),(6,rE 4 v11 THeard.c 149),(7,rE 5 v12 TLease.c 112),(8,rE 6 v13 TLoan.c 114),(9,rE 4 v14 TSlot.c 110),(10,rE 6 v15 TBid.c 108),(11,rE 4 v16 THeard.c 149),(12,rE 5 v17 TLease.c 112),(13,rE 6 v18 TLoan.c 114),(14, .blk [DI x19,DI x20, .row 4 4, .row 5 6, .row 6 4, .row 7 5, .row 8 6,DI x21, .row 9 4, .row 10 6, .row 11 4, .row 12 5, .row 13 6] 102),(15, .blk (TCall.c c) 42)],16⟩ (match ev576 with| .inl (v567,x568)=>(⟨[(0, .own 14 0),(1,DI c.Night),(4, .v (.pointer none)),(5,DB false),(18, .tup [.row 4 4,DI x568,DB true]),(1000000, .own 14 0),(1000001, .agg (TCall.c c)),(1000003, .own 15 0),(1000004,DB false),(1000040, .agg (TStation.c x)),(1000041, .agg (TCall.c c)),(1000042, .own 0 0),(1000043, .own 1 0),(1000044, .own 2 0),(1000045,DI 0),(1000046, .own 14 0),(1000047,DI 0),(1000053,DB false),(1000058,DB (c.To !=x19))], [(0, .blk (TStation.c x) 30),(1, .blk (TCall.c c) 42),(2, .blk [DI 0,DI 0, .v (.slice none 0 0), .v (.slice none 0 0), .v (.slice none 0 0), .v (.slice none 0 0), .v (.slice none 0 0),DI 0, .v (.slice none 0 0), .v (.slice none 0 0), .v (.slice none 0 0), .v (.slice none 0 0), .v (.slice none 0 0)] 30),(4,rE 4 v567 TSlot.c 110),(5,rE 6 v10 TBid.c 108),(6,rE 4 v11 THeard.c 149),(7,rE 5 v12 TLease.c 112),(8,rE 6 v13 TLoan.c 114),(9,rE 4 v14 TSlot.c 110),(10,rE 6 v15 TBid.c 108),(11,rE 4 v16 THeard.c 149),(12,rE 5 v17 TLease.c 112),(13,rE 6 v18 TLoan.c 114),(14, .blk [DI x19,DI x20, .bad, .row 5 6, .row 6 4, .row 7 5, .row 8 6,DI x21, .row 9 4, .row 10 6, .row 11 4, .row 12 5, .row 13 6] 102),(15, .blk (TCall.c c) 42)],16⟩:Sy)| .inr _=>(⟨[(0, .own 14 0),(1,DI c.Night),(4, .v (.pointer none)),(5,DB false),(18, .tup [.v (.slice none 0 0),DI 0,DB false]),(1000000, .own 14 0),(1000001, .agg (TCall.c c)),(1000003, .own 15 0),(1000004,DB false),(1000040, .agg (TStation.c x)),(1000041, .agg (TCall.c c)),(1000042, .own 0 0),(1000043, .own 1 0),(1000044, .own 2 0),(1000045,DI 0),(1000046, .own 14 0),(1000047,DI 0),(1000053,DB false),(1000058,DB (c.To !=x19))], [(0, .blk (TStation.c x) 30),(1, .blk (TCall.c c) 42),(2, .blk [DI 0,DI 0, .v (.slice none 0 0), .v (.slice none 0 0), .v (.slice none 0 0), .v (.slice none 0 0), .v (.slice none 0 0),DI 0, .v (.slice none 0 0), .v (.slice none 0 0), .v (.slice none 0 0), .v (.slice none 0 0), .v (.slice none 0 0)] 30),(4,rE 4 v9 TSlot.c 110),(5,rE 6 v10 TBid.c 108),(6,rE 4 v11 THeard.c 149),(7,rE 5 v12 TLease.c 112),(8,rE 6 v13 TLoan.c 114),(9,rE 4 v14 TSlot.c 110),(10,rE 6 v15 TBid.c 108),(11,rE 4 v16 THeard.c 149),(12,rE 5 v17 TLease.c 112),(13,rE 6 v18 TLoan.c 114),(14, .blk [DI x19,DI x20, .row 4 4, .row 5 6, .row 6 4, .row 7 5, .row 8 6,DI x21, .row 9 4, .row 10 6, .row 11 4, .row 12 5, .row 13 6] 102),(15, .blk (TCall.c c) 42)],16⟩:Sy):Sy) [] [99,106,149,210,211,220] [62] [61,154,155,156,157,158,159,184,188,189,208] Tryz.func208 rfl rfl rfl (SubY.of 16 rfl (tA rfl) ⟨hR rfl,hR rfl,hR rfl,hW rfl,hW rfl,hW rfl,hW rfl,hW rfl,hW rfl,hW rfl,hW rfl,hW rfl,hW rfl,hR rfl,hR rfl,trivial⟩) (fun sv=> ?_) ?_
 have hm:=he577
 refine co hm (d_muster_place_api_Slot__muster_compareSlots v9 ((⟨c.Night,0,0,0⟩:TSlot))) ?_
 rintro⟨x580,x581⟩ hm
 apply vb hm<;>intro _ hm
 cases hm
 exact SubY.of 16 rfl (tA rfl) ⟨hR rfl,hR rfl,hR rfl,hW rfl,hW rfl,hW rfl,hW rfl,hW rfl,hW rfl,hW rfl,hW rfl,hW rfl,hW rfl,⟨_,rfl,⟨leD.refl _,leD.refl _,leD.refl _,leD.refl _,leD.refl _,leD.refl _,leD.refl _,leD.refl _,leD.refl _,leD.refl _,leD.refl _,leD.refl _,trivial⟩⟩,hR rfl,trivial⟩
 apply vb hm<;>intro _ hm
 cases hm
 exact SubY.of 16 rfl (tA rfl) ⟨hR rfl,hR rfl,hR rfl,hW rfl,hW rfl,hW rfl,hW rfl,hW rfl,hW rfl,hW rfl,hW rfl,hW rfl,hW rfl,hR rfl,hR rfl,trivial⟩
 refine⟨([(⟨c.Night,0,0,0⟩:TSlot)]:List TSlot).flatMap TSlot.c,([(⟨c.Night,0,0,0⟩:TSlot)]:List TSlot).length,⟨rfl,rfl⟩, ?_⟩
 obtain⟨x585,hx586,hm⟩:=bd_some hm
 refine .inl (CallL.mk ⟨_,_,_,_,_,_,_,rfl,d_slices_Insert_api_Slot_api_Slot v9 x580 (([(⟨c.Night,0,0,0⟩:TSlot)]:List TSlot)) _ hx586, ?_⟩)
 cases hm
 exact SubY.of 16 rfl (tA rfl) ⟨hR rfl,hR rfl,hR rfl,hW rfl,hW rfl,hW rfl,hW rfl,hW rfl,hW rfl,hW rfl,hW rfl,hW rfl,hW rfl,hR rfl,hR rfl,trivial⟩
 rcases ev576 with⟨v567,x568⟩|⟨⟩
 obtain⟨e578,hx579,hm⟩:=bd_some hm
 refine⟨idx_bd hx579, ?_⟩
 cases hm
 exact SubY.of 16 rfl (tA rfl) ⟨hR rfl,hR rfl,hR rfl,hW rfl,hW rfl,hW rfl,hW rfl,hW rfl,hW rfl,hW rfl,hW rfl,hW rfl,hW rfl,hR rfl,hR rfl,trivial⟩
 cases hm
 exact SubY.of 16 rfl (tA rfl) ⟨hR rfl,hR rfl,hR rfl,hW rfl,hW rfl,hW rfl,hW rfl,hW rfl,hW rfl,hW rfl,hW rfl,hW rfl,hW rfl,hR rfl,hR rfl,trivial⟩
 rcases ev549 with⟨v520,x521⟩|⟨⟩
 refine⟨rfl, ?_⟩
 obtain⟨e551,hx552,hm⟩:=bd_some hm
 refine⟨_,el_row (fun _=>rfl) hx552, ?_⟩
 apply vb hm<;>intro _ hm
 refine⟨rfl, ?_⟩
 obtain⟨e554,hx555,hm⟩:=bd_some hm
 refine⟨_,el_row (fun _=>rfl) hx555,_,set_row (y:=(⟨e554.Night,c.Ballot,e554.Ballot,e554.Value⟩:TSlot)) (fun _=>rfl) hx555, ?_⟩
 obtain⟨e556,hx557,hm⟩:=bd_some hm
 refine⟨_,el_rowS (fun _=>rfl) hx557 (by first|rfl|simp only [List.length_set]),_,set_row (y:=(⟨e556.Night,e556.Promised,c.Ballot,e556.Value⟩:TSlot)) (fun _=>rfl) hx557, ?_⟩
 obtain⟨e558,hx559,hm⟩:=bd_some hm
 refine⟨_,el_rowS (fun _=>rfl) hx559 (by first|rfl|simp only [List.length_set]),_,set_row (y:=(⟨e558.Night,e558.Promised,e558.Ballot,c.Value⟩:TSlot)) (fun _=>rfl) hx559, ?_⟩
 cases hm
 exact SubY.of 15 rfl (tA rfl) ⟨hR rfl,hR rfl,hR rfl,hW rfl,hW rfl,hW rfl,hW rfl,hW rfl,hW rfl,hW rfl,hW rfl,hW rfl,hW rfl,hR rfl,trivial⟩
 cases hm
 exact SubY.of 15 rfl (tA rfl) ⟨hR rfl,hR rfl,hR rfl,hW rfl,hW rfl,hW rfl,hW rfl,hW rfl,hW rfl,hW rfl,hW rfl,hW rfl,hW rfl,hR rfl,trivial⟩
 refine⟨rfl, ?_⟩
 cases hm
 exact SubY.of 15 rfl (tA rfl) ⟨hR rfl,hR rfl,hR rfl,hW rfl,hW rfl,hW rfl,hW rfl,hW rfl,hW rfl,hW rfl,hW rfl,hW rfl,hW rfl,hR rfl,trivial⟩
 obtain⟨v408,x409⟩:=ev497
 apply vb hm<;>intro _ hm
 cases hm
 exact RetY.le (⟨_,rfl,⟨⟨_,rfl,⟨leD.refl _,leD.refl _,leD.nil,leD.nil,leD.nil,leD.nil,leD.nil,leD.refl _,leD.nil,leD.nil,leD.nil,leD.nil,leD.nil,trivial⟩⟩,leD.refl _,trivial⟩⟩)
 cases hm
 exact RetY.le (leD.refl _)
 replace hm:=if_f h354 hm
 cases h587:(c.Kind==4)
 rotate_left
 replace hm:=if_t h587 hm
 refine⟨⟨3,139,by kernel_rfl,by kernel_rfl⟩,157,by simp only [findM,h39,h260,h354,h587], ?_⟩
 obtain⟨ev663,he664,hm⟩:=bd_some hm
 refine CallIn.ofZ pok ⟨[(0, .own 14 0),(1, .agg (TCall.c c)),(1000000, .agg (TStation.c x)),(1000001, .agg (TCall.c c)),(1000002, .own 0 0),(1000003, .own 1 0),(1000004, .own 2 0),(1000005,DI 0),(1000006, .own 14 0),(1000007,DI 0),(1000013,DB false),(1000018,DB (c.To !=x19))], [(0, .blk (TStation.c x) 30),(1, .blk (TCall.c c) 42),(2, .blk [DI 0,DI 0, .v (.slice none 0 0), .v (.slice none 0 0), .v (.slice none 0 0), .v (.slice none 0 0), .v (.slice none 0 0),DI 0, .v (.slice none 0 0), .v (.slice none 0 0), .v (.slice none 0 0), .v (.slice none 0 0), .v (.slice none 0 0)] 30),(4,rE 4 v9 TSlot.c 110),(5,rE 6 v10 TBid.c 108),(6,rE 4 v11 THeard.c 149),(7,rE 5 v12 TLease.c 112),(8,rE 6 v13 TLoan.c 114),(9,rE 4 v14 TSlot.c 110),(10,rE 6 v15 TBid.c 108),(11,rE 4 v16 THeard.c 149),(12,rE 5 v17 TLease.c 112),(13,rE 6 v18 TLoan.c 114),(14, .blk [DI x19,DI x20, .row 4 4, .row 5 6, .row 6 4, .row 7 5, .row 8 6,DI x21, .row 9 4, .row 10 6, .row 11 4, .row 12 5, .row 13 6] 102)],15⟩ (match ev663 with|(v621,x622)=>(⟨[(0, .agg (TStation.c x)),(1, .agg (TCall.c c)),(2, .own 0 0),(3, .own 1 0),(4, .own 2 0),(5,DI 0),(6, .own 14 0),(7,DI 0),(13,DB false),(18,DB (c.To !=x19)),(40,DB x622)], [(0, .blk (TStation.c x) 30),(1, .blk (TCall.c c) 42),(2, .blk [DI 0,DI 0, .v (.slice none 0 0), .v (.slice none 0 0), .v (.slice none 0 0), .v (.slice none 0 0), .v (.slice none 0 0),DI 0, .v (.slice none 0 0), .v (.slice none 0 0), .v (.slice none 0 0), .v (.slice none 0 0), .v (.slice none 0 0)] 30),(4,rE 4 v9 TSlot.c 110),(5,rE 6 v10 TBid.c 108),(6,rE 4 v621 THeard.c 149),(7,rE 5 v12 TLease.c 112),(8,rE 6 v13 TLoan.c 114),(9,rE 4 v14 TSlot.c 110),(10,rE 6 v15 TBid.c 108),(11,rE 4 v16 THeard.c 149),(12,rE 5 v17 TLease.c 112),(13,rE 6 v18 TLoan.c 114),(14, .blk [DI x19,DI x20, .row 4 4, .row 5 6, .row 6 4, .row 7 5, .row 8 6,DI x21, .row 9 4, .row 10 6, .row 11 4, .row 12 5, .row 13 6] 102)],15⟩:Sy):Sy) pl157 [99,106,149,210,211,220] [62] [61,154,155,156,157,158,159,184,188,189,208] Tryz.func157 rfl rfl rfl (SubY.of 15 rfl (tA rfl) ⟨hR rfl,hR rfl,hR rfl,hW rfl,hW rfl,hW rfl,hW rfl,hW rfl,hW rfl,hW rfl,hW rfl,hW rfl,hW rfl,hR rfl,trivial⟩) (fun sv=> ?_) ?_
 have hm:=he664
 refine⟨rfl, ?_⟩
 obtain⟨ev682,he683,hm⟩:=bd_some hm
 refine CallIn.ofZ pok ⟨[(0, .row 6 4),(1, .agg [DI c.Night,DI c.Ballot,DI c.Value,DI 0]),(2,DI 60),(3, .fn 139 [] []),(1000000, .own 14 0),(1000001, .agg (TCall.c c)),(1000003, .own 15 0),(1000004,DB false),(1000054, .agg (TStation.c x)),(1000055, .agg (TCall.c c)),(1000056, .own 0 0),(1000057, .own 1 0),(1000058, .own 2 0),(1000059,DI 0),(1000060, .own 14 0),(1000061,DI 0),(1000067,DB false),(1000072,DB (c.To !=x19))], [(0, .blk (TStation.c x) 30),(1, .blk (TCall.c c) 42),(2, .blk [DI 0,DI 0, .v (.slice none 0 0), .v (.slice none 0 0), .v (.slice none 0 0), .v (.slice none 0 0), .v (.slice none 0 0),DI 0, .v (.slice none 0 0), .v (.slice none 0 0), .v (.slice none 0 0), .v (.slice none 0 0), .v (.slice none 0 0)] 30),(4,rE 4 v9 TSlot.c 110),(5,rE 6 v10 TBid.c 108),(6,rE 4 v11 THeard.c 149),(7,rE 5 v12 TLease.c 112),(8,rE 6 v13 TLoan.c 114),(9,rE 4 v14 TSlot.c 110),(10,rE 6 v15 TBid.c 108),(11,rE 4 v16 THeard.c 149),(12,rE 5 v17 TLease.c 112),(13,rE 6 v18 TLoan.c 114),(14, .blk [DI x19,DI x20, .row 4 4, .row 5 6, .row 6 4, .row 7 5, .row 8 6,DI x21, .row 9 4, .row 10 6, .row 11 4, .row 12 5, .row 13 6] 102),(15, .blk (TCall.c c) 42)],16⟩ (match ev682 with| .inl (v673,x674)=>(⟨[(0, .own 14 0),(1, .agg (TCall.c c)),(3, .own 15 0),(4,DB false),(22, .tup [.row 6 4,DI x674,DB true]),(1000000, .agg (TStation.c x)),(1000001, .agg (TCall.c c)),(1000002, .own 0 0),(1000003, .own 1 0),(1000004, .own 2 0),(1000005,DI 0),(1000006, .own 14 0),(1000007,DI 0),(1000013,DB false),(1000018,DB (c.To !=x19))], [(0, .blk (TStation.c x) 30),(1, .blk (TCall.c c) 42),(2, .blk [DI 0,DI 0, .v (.slice none 0 0), .v (.slice none 0 0), .v (.slice none 0 0), .v (.slice none 0 0), .v (.slice none 0 0),DI 0, .v (.slice none 0 0), .v (.slice none 0 0), .v (.slice none 0 0), .v (.slice none 0 0), .v (.slice none 0 0)] 30),(4,rE 4 v9 TSlot.c 110),(5,rE 6 v10 TBid.c 108),(6,rE 4 v673 THeard.c 149),(7,rE 5 v12 TLease.c 112),(8,rE 6 v13 TLoan.c 114),(9,rE 4 v14 TSlot.c 110),(10,rE 6 v15 TBid.c 108),(11,rE 4 v16 THeard.c 149),(12,rE 5 v17 TLease.c 112),(13,rE 6 v18 TLoan.c 114),(14, .blk [DI x19,DI x20, .row 4 4, .row 5 6, .bad, .row 7 5, .row 8 6,DI x21, .row 9 4, .row 10 6, .row 11 4, .row 12 5, .row 13 6] 102),(15, .blk (TCall.c c) 42)],16⟩:Sy)| .inr _=>(⟨[(0, .own 14 0),(1, .agg (TCall.c c)),(3, .own 15 0),(4,DB false),(22, .tup [.v (.slice none 0 0),DI 0,DB false]),(1000000, .agg (TStation.c x)),(1000001, .agg (TCall.c c)),(1000002, .own 0 0),(1000003, .own 1 0),(1000004, .own 2 0),(1000005,DI 0),(1000006, .own 14 0),(1000007,DI 0),(1000013,DB false),(1000018,DB (c.To !=x19))], [(0, .blk (TStation.c x) 30),(1, .blk (TCall.c c) 42),(2, .blk [DI 0,DI 0, .v (.slice none 0 0), .v (.slice none 0 0), .v (.slice none 0 0), .v (.slice none 0 0), .v (.slice none 0 0),DI 0, .v (.slice none 0 0), .v (.slice none 0 0), .v (.slice none 0 0), .v (.slice none 0 0), .v (.slice none 0 0)] 30),(4,rE 4 v9 TSlot.c 110),(5,rE 6 v10 TBid.c 108),(6,rE 4 v11 THeard.c 149),(7,rE 5 v12 TLease.c 112),(8,rE 6 v13 TLoan.c 114),(9,rE 4 v14 TSlot.c 110),(10,rE 6 v15 TBid.c 108),(11,rE 4 v16 THeard.c 149),(12,rE 5 v17 TLease.c 112),(13,rE 6 v18 TLoan.c 114),(14, .blk [DI x19,DI x20, .row 4 4, .row 5 6, .row 6 4, .row 7 5, .row 8 6,DI x21, .row 9 4, .row 10 6, .row 11 4, .row 12 5, .row 13 6] 102),(15, .blk (TCall.c c) 42)],16⟩:Sy):Sy) [] [99,106,149,210,211,220] [62] [61,154,155,156,157,158,159,184,188,189,208] Tryz.func188 rfl rfl rfl (SubY.of 16 rfl (tA rfl) ⟨hR rfl,hR rfl,hR rfl,hW rfl,hW rfl,hW rfl,hW rfl,hW rfl,hW rfl,hW rfl,hW rfl,hW rfl,hW rfl,hR rfl,hR rfl,trivial⟩) (fun sv=> ?_) ?_
 have hm:=he683
 refine co hm (d_muster_place_api_Heard__muster_compareHeard v11 ((⟨c.Night,c.Ballot,c.Value,0⟩:THeard))) ?_
 rintro⟨x699,x700⟩ hm
 apply vb hm<;>intro _ hm
 cases hm
 exact SubY.of 16 rfl (tA rfl) ⟨hR rfl,hR rfl,hR rfl,hW rfl,hW rfl,hW rfl,hW rfl,hW rfl,hW rfl,hW rfl,hW rfl,hW rfl,hW rfl,⟨_,rfl,⟨leD.refl _,leD.refl _,leD.refl _,leD.refl _,leD.refl _,leD.refl _,leD.refl _,leD.refl _,leD.refl _,leD.refl _,leD.refl _,leD.refl _,trivial⟩⟩,hR rfl,trivial⟩
 apply vb hm<;>intro _ hm
 cases hm
 exact SubY.of 16 rfl (tA rfl) ⟨hR rfl,hR rfl,hR rfl,hW rfl,hW rfl,hW rfl,hW rfl,hW rfl,hW rfl,hW rfl,hW rfl,hW rfl,hW rfl,hR rfl,hR rfl,trivial⟩
 refine⟨([(⟨c.Night,c.Ballot,c.Value,0⟩:THeard)]:List THeard).flatMap THeard.c,([(⟨c.Night,c.Ballot,c.Value,0⟩:THeard)]:List THeard).length,⟨rfl,rfl⟩, ?_⟩
 obtain⟨x704,hx705,hm⟩:=bd_some hm
 refine .inl (CallL.mk ⟨_,_,_,_,_,_,_,rfl,d_slices_Insert_api_Heard_api_Heard v11 x699 (([(⟨c.Night,c.Ballot,c.Value,0⟩:THeard)]:List THeard)) _ hx705, ?_⟩)
 cases hm
 exact SubY.of 16 rfl (tA rfl) ⟨hR rfl,hR rfl,hR rfl,hW rfl,hW rfl,hW rfl,hW rfl,hW rfl,hW rfl,hW rfl,hW rfl,hW rfl,hW rfl,hR rfl,hR rfl,trivial⟩
 rcases ev682 with⟨v673,x674⟩|⟨⟩
 refine⟨rfl, ?_⟩
 obtain⟨e684,hx685,hm⟩:=bd_some hm
 refine⟨idx_bd hx685, ?_⟩
 obtain⟨e686,hx687,hm⟩:=bd_some hm
 refine⟨_,el_row (fun _=>rfl) hx687, ?_⟩
 apply vb hm<;>intro _ hm
 refine⟨rfl, ?_⟩
 obtain⟨e689,hx690,hm⟩:=bd_some hm
 refine⟨idx_bd hx690, ?_⟩
 obtain⟨e691,hx692,hm⟩:=bd_some hm
 refine⟨_,el_row (fun _=>rfl) hx692, ?_⟩
 refine cy hm (d_muster_mask_with e691.Mask c.From) fun x693 hm=> ?_
 obtain⟨e695,hx696,hm⟩:=bd_some hm
 refine⟨idx_bd hx696, ?_⟩
 obtain⟨e697,hx698,hm⟩:=bd_some hm
 refine⟨_,el_row (fun _=>rfl) hx698,_,set_row (y:=(⟨e697.Night,e697.Ballot,e697.Value,x693⟩:THeard)) (fun _=>rfl) hx698, ?_⟩
 cases hm
 exact SubY.of 15 rfl (tA rfl) ⟨hR rfl,hR rfl,hR rfl,hW rfl,hW rfl,hW rfl,hW rfl,hW rfl,hW rfl,hW rfl,hW rfl,hW rfl,hW rfl,hR rfl,trivial⟩
 cases hm
 exact SubY.of 15 rfl (tA rfl) ⟨hR rfl,hR rfl,hR rfl,hW rfl,hW rfl,hW rfl,hW rfl,hW rfl,hW rfl,hW rfl,hW rfl,hW rfl,hW rfl,hR rfl,trivial⟩
 cases hm
 exact SubY.of 15 rfl (tA rfl) ⟨hR rfl,hR rfl,hR rfl,hW rfl,hW rfl,hW rfl,hW rfl,hW rfl,hW rfl,hW rfl,hW rfl,hW rfl,hW rfl,hR rfl,trivial⟩
 obtain⟨v621,x622⟩:=ev663
 apply vb hm<;>intro _ hm
 cases hm
 exact RetY.le (⟨_,rfl,⟨⟨_,rfl,⟨leD.refl _,leD.refl _,leD.nil,leD.nil,leD.nil,leD.nil,leD.nil,leD.refl _,leD.nil,leD.nil,leD.nil,leD.nil,leD.nil,trivial⟩⟩,leD.refl _,trivial⟩⟩)
 cases hm
 exact RetY.le (leD.refl _)
 replace hm:=if_f h587 hm
 cases h706:(c.Kind==5)
 rotate_left
 replace hm:=if_t h706 hm
 refine⟨⟨3,139,by kernel_rfl,by kernel_rfl⟩,158,by simp only [findM,h39,h260,h354,h587,h706], ?_⟩
 obtain⟨ev752,he753,hm⟩:=bd_some hm
 refine CallIn.ofZ pok ⟨[(0, .own 14 0),(1, .agg (TCall.c c)),(1000000, .agg (TStation.c x)),(1000001, .agg (TCall.c c)),(1000002, .own 0 0),(1000003, .own 1 0),(1000004, .own 2 0),(1000005,DI 0),(1000006, .own 14 0),(1000007,DI 0),(1000013,DB false),(1000018,DB (c.To !=x19))], [(0, .blk (TStation.c x) 30),(1, .blk (TCall.c c) 42),(2, .blk [DI 0,DI 0, .v (.slice none 0 0), .v (.slice none 0 0), .v (.slice none 0 0), .v (.slice none 0 0), .v (.slice none 0 0),DI 0, .v (.slice none 0 0), .v (.slice none 0 0), .v (.slice none 0 0), .v (.slice none 0 0), .v (.slice none 0 0)] 30),(4,rE 4 v9 TSlot.c 110),(5,rE 6 v10 TBid.c 108),(6,rE 4 v11 THeard.c 149),(7,rE 5 v12 TLease.c 112),(8,rE 6 v13 TLoan.c 114),(9,rE 4 v14 TSlot.c 110),(10,rE 6 v15 TBid.c 108),(11,rE 4 v16 THeard.c 149),(12,rE 5 v17 TLease.c 112),(13,rE 6 v18 TLoan.c 114),(14, .blk [DI x19,DI x20, .row 4 4, .row 5 6, .row 6 4, .row 7 5, .row 8 6,DI x21, .row 9 4, .row 10 6, .row 11 4, .row 12 5, .row 13 6] 102)],15⟩ (match ev752 with|(v725,x726)=>(⟨[(0, .agg (TStation.c x)),(1, .agg (TCall.c c)),(2, .own 0 0),(3, .own 1 0),(4, .own 2 0),(5,DI 0),(6, .own 14 0),(7,DI 0),(13,DB false),(18,DB (c.To !=x19)),(40,DB x726)], [(0, .blk (TStation.c x) 30),(1, .blk (TCall.c c) 42),(2, .blk [DI 0,DI 0, .v (.slice none 0 0), .v (.slice none 0 0), .v (.slice none 0 0), .v (.slice none 0 0), .v (.slice none 0 0),DI 0, .v (.slice none 0 0), .v (.slice none 0 0), .v (.slice none 0 0), .v (.slice none 0 0), .v (.slice none 0 0)] 30),(4,rE 4 v9 TSlot.c 110),(5,rE 6 v10 TBid.c 108),(6,rE 4 v11 THeard.c 149),(7,rE 5 v12 TLease.c 112),(8,rE 6 v725 TLoan.c 114),(9,rE 4 v14 TSlot.c 110),(10,rE 6 v15 TBid.c 108),(11,rE 4 v16 THeard.c 149),(12,rE 5 v17 TLease.c 112),(13,rE 6 v18 TLoan.c 114),(14, .blk [DI x19,DI x20, .row 4 4, .row 5 6, .row 6 4, .row 7 5, .row 8 6,DI x21, .row 9 4, .row 10 6, .row 11 4, .row 12 5, .row 13 6] 102)],15⟩:Sy):Sy) pl158 [99,106,149,210,211,220] [62] [61,154,155,156,157,158,159,184,188,189,208] Tryz.func158 rfl rfl rfl (SubY.of 15 rfl (tA rfl) ⟨hR rfl,hR rfl,hR rfl,hW rfl,hW rfl,hW rfl,hW rfl,hW rfl,hW rfl,hW rfl,hW rfl,hW rfl,hW rfl,hR rfl,trivial⟩) (fun sv=> ?_) ?_
 have hm:=he753
 refine⟨rfl, ?_⟩
 obtain⟨ev771,he772,hm⟩:=bd_some hm
 refine CallIn.ofZ pok ⟨[(0, .row 8 6),(1, .agg [DI c.From,DI c.No,DI c.Thing,DI c.Start,DI c.Until,DB false]),(2,DI 60),(3, .fn 95 [] []),(1000000, .own 14 0),(1000001, .agg (TCall.c c)),(1000003, .own 15 0),(1000004,DB false),(1000038, .agg (TStation.c x)),(1000039, .agg (TCall.c c)),(1000040, .own 0 0),(1000041, .own 1 0),(1000042, .own 2 0),(1000043,DI 0),(1000044, .own 14 0),(1000045,DI 0),(1000051,DB false),(1000056,DB (c.To !=x19))], [(0, .blk (TStation.c x) 30),(1, .blk (TCall.c c) 42),(2, .blk [DI 0,DI 0, .v (.slice none 0 0), .v (.slice none 0 0), .v (.slice none 0 0), .v (.slice none 0 0), .v (.slice none 0 0),DI 0, .v (.slice none 0 0), .v (.slice none 0 0), .v (.slice none 0 0), .v (.slice none 0 0), .v (.slice none 0 0)] 30),(4,rE 4 v9 TSlot.c 110),(5,rE 6 v10 TBid.c 108),(6,rE 4 v11 THeard.c 149),(7,rE 5 v12 TLease.c 112),(8,rE 6 v13 TLoan.c 114),(9,rE 4 v14 TSlot.c 110),(10,rE 6 v15 TBid.c 108),(11,rE 4 v16 THeard.c 149),(12,rE 5 v17 TLease.c 112),(13,rE 6 v18 TLoan.c 114),(14, .blk [DI x19,DI x20, .row 4 4, .row 5 6, .row 6 4, .row 7 5, .row 8 6,DI x21, .row 9 4, .row 10 6, .row 11 4, .row 12 5, .row 13 6] 102),(15, .blk (TCall.c c) 42)],16⟩ (match ev771 with| .inl (v762,x763)=>(⟨[(0, .own 14 0),(1, .agg (TCall.c c)),(3, .own 15 0),(4,DB false),(26, .tup [.row 8 6,DI x763,DB true]),(1000000, .agg (TStation.c x)),(1000001, .agg (TCall.c c)),(1000002, .own 0 0),(1000003, .own 1 0),(1000004, .own 2 0),(1000005,DI 0),(1000006, .own 14 0),(1000007,DI 0),(1000013,DB false),(1000018,DB (c.To !=x19))], [(0, .blk (TStation.c x) 30),(1, .blk (TCall.c c) 42),(2, .blk [DI 0,DI 0, .v (.slice none 0 0), .v (.slice none 0 0), .v (.slice none 0 0), .v (.slice none 0 0), .v (.slice none 0 0),DI 0, .v (.slice none 0 0), .v (.slice none 0 0), .v (.slice none 0 0), .v (.slice none 0 0), .v (.slice none 0 0)] 30),(4,rE 4 v9 TSlot.c 110),(5,rE 6 v10 TBid.c 108),(6,rE 4 v11 THeard.c 149),(7,rE 5 v12 TLease.c 112),(8,rE 6 v762 TLoan.c 114),(9,rE 4 v14 TSlot.c 110),(10,rE 6 v15 TBid.c 108),(11,rE 4 v16 THeard.c 149),(12,rE 5 v17 TLease.c 112),(13,rE 6 v18 TLoan.c 114),(14, .blk [DI x19,DI x20, .row 4 4, .row 5 6, .row 6 4, .row 7 5, .bad,DI x21, .row 9 4, .row 10 6, .row 11 4, .row 12 5, .row 13 6] 102),(15, .blk (TCall.c c) 42)],16⟩:Sy)| .inr _=>(⟨[(0, .own 14 0),(1, .agg (TCall.c c)),(3, .own 15 0),(4,DB false),(26, .tup [.v (.slice none 0 0),DI 0,DB false]),(1000000, .agg (TStation.c x)),(1000001, .agg (TCall.c c)),(1000002, .own 0 0),(1000003, .own 1 0),(1000004, .own 2 0),(1000005,DI 0),(1000006, .own 14 0),(1000007,DI 0),(1000013,DB false),(1000018,DB (c.To !=x19))], [(0, .blk (TStation.c x) 30),(1, .blk (TCall.c c) 42),(2, .blk [DI 0,DI 0, .v (.slice none 0 0), .v (.slice none 0 0), .v (.slice none 0 0), .v (.slice none 0 0), .v (.slice none 0 0),DI 0, .v (.slice none 0 0), .v (.slice none 0 0), .v (.slice none 0 0), .v (.slice none 0 0), .v (.slice none 0 0)] 30),(4,rE 4 v9 TSlot.c 110),(5,rE 6 v10 TBid.c 108),(6,rE 4 v11 THeard.c 149),(7,rE 5 v12 TLease.c 112),(8,rE 6 v13 TLoan.c 114),(9,rE 4 v14 TSlot.c 110),(10,rE 6 v15 TBid.c 108),(11,rE 4 v16 THeard.c 149),(12,rE 5 v17 TLease.c 112),(13,rE 6 v18 TLoan.c 114),(14, .blk [DI x19,DI x20, .row 4 4, .row 5 6, .row 6 4, .row 7 5, .row 8 6,DI x21, .row 9 4, .row 10 6, .row 11 4, .row 12 5, .row 13 6] 102),(15, .blk (TCall.c c) 42)],16⟩:Sy):Sy) [] [99,106,149,210,211,220] [62] [61,154,155,156,157,158,159,184,188,189,208] Tryz.func189 rfl rfl rfl (SubY.of 16 rfl (tA rfl) ⟨hR rfl,hR rfl,hR rfl,hW rfl,hW rfl,hW rfl,hW rfl,hW rfl,hW rfl,hW rfl,hW rfl,hW rfl,hW rfl,hR rfl,hR rfl,trivial⟩) (fun sv=> ?_) ?_
 have hm:=he772
 refine co hm (d_muster_place_api_Loan__muster_compareLoans v13 ((⟨c.From,c.No,c.Thing,c.Start,c.Until,false⟩:TLoan))) ?_
 rintro⟨x773,x774⟩ hm
 apply vb hm<;>intro _ hm
 cases hm
 exact SubY.of 16 rfl (tA rfl) ⟨hR rfl,hR rfl,hR rfl,hW rfl,hW rfl,hW rfl,hW rfl,hW rfl,hW rfl,hW rfl,hW rfl,hW rfl,hW rfl,⟨_,rfl,⟨leD.refl _,leD.refl _,leD.refl _,leD.refl _,leD.refl _,leD.refl _,leD.refl _,leD.refl _,leD.refl _,leD.refl _,leD.refl _,leD.refl _,trivial⟩⟩,hR rfl,trivial⟩
 apply vb hm<;>intro _ hm
 cases hm
 exact SubY.of 16 rfl (tA rfl) ⟨hR rfl,hR rfl,hR rfl,hW rfl,hW rfl,hW rfl,hW rfl,hW rfl,hW rfl,hW rfl,hW rfl,hW rfl,hW rfl,hR rfl,hR rfl,trivial⟩
 refine⟨([(⟨c.From,c.No,c.Thing,c.Start,c.Until,false⟩:TLoan)]:List TLoan).flatMap TLoan.c,([(⟨c.From,c.No,c.Thing,c.Start,c.Until,false⟩:TLoan)]:List TLoan).length,⟨rfl,rfl⟩, ?_⟩
 obtain⟨x778,hx779,hm⟩:=bd_some hm
 refine .inl (CallL.mk ⟨_,_,_,_,_,_,_,rfl,d_slices_Insert_api_Loan_api_Loan v13 x773 (([(⟨c.From,c.No,c.Thing,c.Start,c.Until,false⟩:TLoan)]:List TLoan)) _ hx779, ?_⟩)
 cases hm
 exact SubY.of 16 rfl (tA rfl) ⟨hR rfl,hR rfl,hR rfl,hW rfl,hW rfl,hW rfl,hW rfl,hW rfl,hW rfl,hW rfl,hW rfl,hW rfl,hW rfl,hR rfl,hR rfl,trivial⟩
 rcases ev771 with⟨v762,x763⟩|⟨⟩
 cases hm
 exact SubY.of 15 rfl (tA rfl) ⟨hR rfl,hR rfl,hR rfl,hW rfl,hW rfl,hW rfl,hW rfl,hW rfl,hW rfl,hW rfl,hW rfl,hW rfl,hW rfl,hR rfl,trivial⟩
 cases hm
 exact SubY.of 15 rfl (tA rfl) ⟨hR rfl,hR rfl,hR rfl,hW rfl,hW rfl,hW rfl,hW rfl,hW rfl,hW rfl,hW rfl,hW rfl,hW rfl,hW rfl,hR rfl,trivial⟩
 obtain⟨v725,x726⟩:=ev752
 apply vb hm<;>intro _ hm
 cases hm
 exact RetY.le (⟨_,rfl,⟨⟨_,rfl,⟨leD.refl _,leD.refl _,leD.nil,leD.nil,leD.nil,leD.nil,leD.nil,leD.refl _,leD.nil,leD.nil,leD.nil,leD.nil,leD.nil,trivial⟩⟩,leD.refl _,trivial⟩⟩)
 cases hm
 exact RetY.le (leD.refl _)
 replace hm:=if_f h706 hm
 cases h780:(c.Kind==6)
 rotate_left
 replace hm:=if_t h780 hm
 refine⟨⟨3,139,by kernel_rfl,by kernel_rfl⟩,159,by simp only [findM,h39,h260,h354,h587,h706,h780], ?_⟩
 obtain⟨ev920,he921,hm⟩:=bd_some hm
 refine CallIn.ofZ pok ⟨[(0, .own 14 0),(1, .agg (TCall.c c)),(1000000, .agg (TStation.c x)),(1000001, .agg (TCall.c c)),(1000002, .own 0 0),(1000003, .own 1 0),(1000004, .own 2 0),(1000005,DI 0),(1000006, .own 14 0),(1000007,DI 0),(1000013,DB false),(1000018,DB (c.To !=x19))], [(0, .blk (TStation.c x) 30),(1, .blk (TCall.c c) 42),(2, .blk [DI 0,DI 0, .v (.slice none 0 0), .v (.slice none 0 0), .v (.slice none 0 0), .v (.slice none 0 0), .v (.slice none 0 0),DI 0, .v (.slice none 0 0), .v (.slice none 0 0), .v (.slice none 0 0), .v (.slice none 0 0), .v (.slice none 0 0)] 30),(4,rE 4 v9 TSlot.c 110),(5,rE 6 v10 TBid.c 108),(6,rE 4 v11 THeard.c 149),(7,rE 5 v12 TLease.c 112),(8,rE 6 v13 TLoan.c 114),(9,rE 4 v14 TSlot.c 110),(10,rE 6 v15 TBid.c 108),(11,rE 4 v16 THeard.c 149),(12,rE 5 v17 TLease.c 112),(13,rE 6 v18 TLoan.c 114),(14, .blk [DI x19,DI x20, .row 4 4, .row 5 6, .row 6 4, .row 7 5, .row 8 6,DI x21, .row 9 4, .row 10 6, .row 11 4, .row 12 5, .row 13 6] 102)],15⟩ (match ev920 with|v839=>(⟨[(0, .agg (TStation.c x)),(1, .agg (TCall.c c)),(2, .own 0 0),(3, .own 1 0),(4, .own 2 0),(5,DI 0),(6, .own 14 0),(7,DI 0),(13,DB false),(18,DB (c.To !=x19)),(40,DB true)], [(0, .blk (TStation.c x) 30),(1, .blk (TCall.c c) 42),(2, .blk [DI 0,DI 0, .v (.slice none 0 0), .v (.slice none 0 0), .v (.slice none 0 0), .v (.slice none 0 0), .v (.slice none 0 0),DI 0, .v (.slice none 0 0), .v (.slice none 0 0), .v (.slice none 0 0), .v (.slice none 0 0), .v (.slice none 0 0)] 30),(4,rE 4 v9 TSlot.c 110),(5,rE 6 v10 TBid.c 108),(6,rE 4 v11 THeard.c 149),(7,rE 5 v839 TLease.c 112),(8,rE 6 v13 TLoan.c 114),(9,rE 4 v14 TSlot.c 110),(10,rE 6 v15 TBid.c 108),(11,rE 4 v16 THeard.c 149),(12,rE 5 v17 TLease.c 112),(13,rE 6 v18 TLoan.c 114),(14, .blk [DI x19,DI x20, .row 4 4, .row 5 6, .row 6 4, .row 7 5, .row 8 6,DI x21, .row 9 4, .row 10 6, .row 11 4, .row 12 5, .row 13 6] 102)],15⟩:Sy):Sy) pl159 [99,106,149,210,211,220] [62] [61,154,155,156,157,158,159,184,188,189,208] Tryz.func159 rfl rfl rfl (SubY.of 15 rfl (tA rfl) ⟨hR rfl,hR rfl,hR rfl,hW rfl,hW rfl,hW rfl,hW rfl,hW rfl,hW rfl,hW rfl,hW rfl,hW rfl,hW rfl,hR rfl,trivial⟩) (fun sv=> ?_) ?_
 have hm:=he921
 obtain⟨ev980,he,hk981⟩:=bd_some hm
 refine LoopY.ofL (m_IN_muster_post_back_L1 c v12) (fun(v940,v941)=>⟨[(0, .own 14 0),(1, .agg (TCall.c c)),(3, .own 15 0),(4,DB false),(13,DI (v12.length:Int)),(14,DI v940),(1000000, .agg (TStation.c x)),(1000001, .agg (TCall.c c)),(1000002, .own 0 0),(1000003, .own 1 0),(1000004, .own 2 0),(1000005,DI 0),(1000006, .own 14 0),(1000007,DI 0),(1000013,DB false),(1000018,DB (c.To !=x19))], [(0, .blk (TStation.c x) 30),(1, .blk (TCall.c c) 42),(2, .blk [DI 0,DI 0, .v (.slice none 0 0), .v (.slice none 0 0), .v (.slice none 0 0), .v (.slice none 0 0), .v (.slice none 0 0),DI 0, .v (.slice none 0 0), .v (.slice none 0 0), .v (.slice none 0 0), .v (.slice none 0 0), .v (.slice none 0 0)] 30),(4,rE 4 v9 TSlot.c 110),(5,rE 6 v10 TBid.c 108),(6,rE 4 v11 THeard.c 149),(7,rE 5 v941 TLease.c 112),(8,rE 6 v13 TLoan.c 114),(9,rE 4 v14 TSlot.c 110),(10,rE 6 v15 TBid.c 108),(11,rE 4 v16 THeard.c 149),(12,rE 5 v17 TLease.c 112),(13,rE 6 v18 TLoan.c 114),(14, .blk [DI x19,DI x20, .row 4 4, .row 5 6, .row 6 4, .row 7 5, .row 8 6,DI x21, .row 9 4, .row 10 6, .row 11 4, .row 12 5, .row 13 6] 102),(15, .blk (TCall.c c) 42)],16⟩) (0,v12) (SubY.of 16 rfl (tA rfl) ⟨hR rfl,hR rfl,hR rfl,hW rfl,hW rfl,hW rfl,hW rfl,hW rfl,hW rfl,hW rfl,hW rfl,hW rfl,hW rfl,hR rfl,hR rfl,trivial⟩) he ?_
 rintro fu982 ⟨v940,v941⟩ b hm hi983
 apply vb hm<;>intro _ hm
 obtain⟨e985,hx986,hm⟩:=bd_some hm
 refine⟨idx_bd hx986, ?_⟩
 refine⟨rfl, ?_⟩
 obtain⟨e987,hx988,hm⟩:=bd_some hm
 refine⟨_,el_row (fun _=>rfl) hx988, ?_⟩
 apply vb hm<;>intro _ hm
 obtain⟨e990,hx991,hm⟩:=bd_some hm
 refine⟨_,el_row (fun _=>rfl) hx991, ?_⟩
 apply vb hm<;>intro _ hm
 obtain⟨e993,hx994,hm⟩:=bd_some hm
 refine⟨_,el_row (fun _=>rfl) hx994, ?_⟩
 apply vb hm<;>intro _ hm
 refine⟨rfl, ?_⟩
 obtain⟨e996,hx997,hm⟩:=bd_some hm
 refine⟨_,el_row (fun _=>rfl) hx997, ?_⟩
 obtain⟨e998,hx999,hm⟩:=bd_some hm
 refine⟨_,el_row (fun _=>rfl) hx999, ?_⟩
 obtain⟨e1000,hx1001,hm⟩:=bd_some hm
 refine⟨_,el_row (fun _=>rfl) hx1001,_,set_row (y:=(⟨e1000.No,e1000.Thing,e1000.To,e1000.From,(if(if e998.From>c.Until then e998.From else c.Until)<e996.Until then(if e998.From>c.Until then e998.From else c.Until)else e996.Until)⟩:TLease)) (fun _=>rfl) hx1001, ?_⟩
 cases hm
 exact⟨(_,((W (v940+1)),(v941.set v940.toNat (⟨e1000.No,e1000.Thing,e1000.To,e1000.From,(if(if e998.From>c.Until then e998.From else c.Until)<e996.Until then(if e998.From>c.Until then e998.From else c.Until)else e996.Until)⟩:TLease)))),SubY.of 16 rfl (tA rfl) ⟨hR rfl,hR rfl,hR rfl,hW rfl,hW rfl,hW rfl,hW rfl,hW rfl,hW rfl,hW rfl,hW rfl,hW rfl,hW rfl,hR rfl,hR rfl,trivial⟩,hi983,Nat.lt_succ_self _⟩
 cases hm
 exact⟨(_,((W (v940+1)),v941)),SubY.of 16 rfl (tA rfl) ⟨hR rfl,hR rfl,hR rfl,hW rfl,hW rfl,hW rfl,hW rfl,hW rfl,hW rfl,hW rfl,hW rfl,hW rfl,hW rfl,hR rfl,hR rfl,trivial⟩,hi983,Nat.lt_succ_self _⟩
 cases hm
 exact⟨(_,((W (v940+1)),v941)),SubY.of 16 rfl (tA rfl) ⟨hR rfl,hR rfl,hR rfl,hW rfl,hW rfl,hW rfl,hW rfl,hW rfl,hW rfl,hW rfl,hW rfl,hW rfl,hW rfl,hR rfl,hR rfl,trivial⟩,hi983,Nat.lt_succ_self _⟩
 cases hm
 exact⟨(_,((W (v940+1)),v941)),SubY.of 16 rfl (tA rfl) ⟨hR rfl,hR rfl,hR rfl,hW rfl,hW rfl,hW rfl,hW rfl,hW rfl,hW rfl,hW rfl,hW rfl,hW rfl,hW rfl,hR rfl,hR rfl,trivial⟩,hi983,Nat.lt_succ_self _⟩
 cases hm
 cases hi983
 have hm:=hk981
 cases hm
 exact SubY.of 15 rfl (tA rfl) ⟨hR rfl,hR rfl,hR rfl,hW rfl,hW rfl,hW rfl,hW rfl,hW rfl,hW rfl,hW rfl,hW rfl,hW rfl,hW rfl,hR rfl,trivial⟩
 obtain v839:=ev920
 cases hm
 exact RetY.le (leD.refl _)
 replace hm:=if_f h780 hm
 cases hm
def m_muster_post_has_1 (l:TLease) (c_0:Int) (c_1:Int):Option Bool:=
 if(l.Thing==c_0)=true then
  if(decide (l.From≤c_1))=true then
   some (decide (c_1<l.Until))
  else
   some false
 else
  some false
theorem d_muster_post_has_1 (l:TLease) (c_0:Int) (c_1:Int) (r:Bool) (hm:m_muster_post_has_1 l c_0 c_1=some r):Does Tryz.prog 164 [.agg (TLease.c l), .ptr [DI c_0] 0, .ptr [DI c_1] 0] (fun x=>x=DB r):=by
 refine zn Tryz.func164 rfl ?_
 apply vb hm<;>intro _ hm
 apply vb hm<;>intro _ hm
 exact hm.rr
 exact hm.rr
 exact hm.rr
def m_slices_IndexFunc_api_Lease_api_Lease__muster_post_has_1_L1 (s:(List TLease)) (c1_0:Int) (c1_1:Int):Int→Option (Sum Int (Sum Int Int)):=fun v7=>
 if(decide (v7<(s.length:Int)))=true then
  Option.bind (idx s v7) fun e15=>
  Option.bind (m_muster_post_has_1 e15 c1_0 c1_1) fun x17=>
  if x17=true then
   some (.inr (.inr v7))
  else
   some (.inl (W (v7+1)))
 else
  some (.inr (.inl v7))
def m_slices_IndexFunc_api_Lease_api_Lease__muster_post_has_1 (s:(List TLease)) (c1_0:Int) (c1_1:Int):Option Int:=
 Option.bind (loopF (m_slices_IndexFunc_api_Lease_api_Lease__muster_post_has_1_L1 s c1_0 c1_1) 0) fun e=>
 match e with
 | .inl v20=>
  some (-1)
 | .inr rr21=>
  some rr21
theorem d_slices_IndexFunc_api_Lease_api_Lease__muster_post_has_1 (s:(List TLease)) (c1_0:Int) (c1_1:Int) (r:Int) (hm:m_slices_IndexFunc_api_Lease_api_Lease__muster_post_has_1 s c1_0 c1_1=some r):Does Tryz.prog 179 [lD 5 s TLease.c, .fn 164 [] [.ptr [DI c1_0] 0, .ptr [DI c1_1] 0]] (fun x=>x=DI r):=by
 refine zn Tryz.func179 rfl ?_
 obtain⟨ev22,he,hk23⟩:=bd_some hm
 refine LoopY.ofL (m_slices_IndexFunc_api_Lease_api_Lease__muster_post_has_1_L1 s c1_0 c1_1) (fun v7=>⟨[(0,lD 5 s TLease.c),(1, .fn 164 [] [.ptr [DI c1_0] 0, .ptr [DI c1_1] 0]),(4,DI 0),(7,DI (s.length:Int)),(8,DI v7)], [],0⟩) 0 (SubY.of 0 rfl (tA rfl) trivial) he ?_
 rintro fu24 v7 b hm hi25
 apply vb hm<;>intro _ hm
 obtain⟨e27,hx28,hm⟩:=bd_some hm
 refine⟨_,el_idx (fun _=>rfl) hx28, ?_⟩
 refine cy hm (d_muster_post_has_1 e27 c1_0 c1_1) fun x29 hm=> ?_
 apply vb hm<;>intro _ hm
 cases hm
 cases hi25
 have hm:=hk23
 exact hm.rr
 cases hm
 exact⟨(_,(W (v7+1))),SubY.of 0 rfl (tA rfl) trivial,hi25,Nat.lt_succ_self _⟩
 cases hm
 cases hi25
 have hm:=hk23
 exact hm.rr
def m_slices_ContainsFunc_api_Lease_api_Lease__muster_post_has_1 (s:(List TLease)) (c1_0:Int) (c1_1:Int):Option Bool:=
 Option.bind (m_slices_IndexFunc_api_Lease_api_Lease__muster_post_has_1 s c1_0 c1_1) fun x1=>
 some (decide (x1≥0))
theorem d_slices_ContainsFunc_api_Lease_api_Lease__muster_post_has_1 (s:(List TLease)) (c1_0:Int) (c1_1:Int) (r:Bool) (hm:m_slices_ContainsFunc_api_Lease_api_Lease__muster_post_has_1 s c1_0 c1_1=some r):Does Tryz.prog 143 [lD 5 s TLease.c, .fn 164 [] [.ptr [DI c1_0] 0, .ptr [DI c1_1] 0]] (fun x=>x=DB r):=by
 refine zn Tryz.func143 rfl ?_
 refine cy hm (d_slices_IndexFunc_api_Lease_api_Lease__muster_post_has_1 s c1_0 c1_1) fun x1 hm=> ?_
 exact hm.rr
def m_muster_post_has_2 (l:TLoan) (c_0:Int) (c_1:Int):Option Bool:=
 if(l.Thing==c_0)=true then
  if(decide (l.From≤c_1))=true then
   some (decide (c_1<l.Until))
  else
   some false
 else
  some false
theorem d_muster_post_has_2 (l:TLoan) (c_0:Int) (c_1:Int) (r:Bool) (hm:m_muster_post_has_2 l c_0 c_1=some r):Does Tryz.prog 166 [.agg (TLoan.c l), .ptr [DI c_0] 0, .ptr [DI c_1] 0] (fun x=>x=DB r):=by
 refine zn Tryz.func166 rfl ?_
 apply vb hm<;>intro _ hm
 apply vb hm<;>intro _ hm
 exact hm.rr
 exact hm.rr
 exact hm.rr
def m_slices_IndexFunc_api_Loan_api_Loan__muster_post_has_2_L1 (s:(List TLoan)) (c1_0:Int) (c1_1:Int):Int→Option (Sum Int (Sum Int Int)):=fun v7=>
 if(decide (v7<(s.length:Int)))=true then
  Option.bind (idx s v7) fun e15=>
  Option.bind (m_muster_post_has_2 e15 c1_0 c1_1) fun x17=>
  if x17=true then
   some (.inr (.inr v7))
  else
   some (.inl (W (v7+1)))
 else
  some (.inr (.inl v7))
def m_slices_IndexFunc_api_Loan_api_Loan__muster_post_has_2 (s:(List TLoan)) (c1_0:Int) (c1_1:Int):Option Int:=
 Option.bind (loopF (m_slices_IndexFunc_api_Loan_api_Loan__muster_post_has_2_L1 s c1_0 c1_1) 0) fun e=>
 match e with
 | .inl v20=>
  some (-1)
 | .inr rr21=>
  some rr21
theorem d_slices_IndexFunc_api_Loan_api_Loan__muster_post_has_2 (s:(List TLoan)) (c1_0:Int) (c1_1:Int) (r:Int) (hm:m_slices_IndexFunc_api_Loan_api_Loan__muster_post_has_2 s c1_0 c1_1=some r):Does Tryz.prog 190 [lD 6 s TLoan.c, .fn 166 [] [.ptr [DI c1_0] 0, .ptr [DI c1_1] 0]] (fun x=>x=DI r):=by
 refine zn Tryz.func190 rfl ?_
 obtain⟨ev22,he,hk23⟩:=bd_some hm
 refine LoopY.ofL (m_slices_IndexFunc_api_Loan_api_Loan__muster_post_has_2_L1 s c1_0 c1_1) (fun v7=>⟨[(0,lD 6 s TLoan.c),(1, .fn 166 [] [.ptr [DI c1_0] 0, .ptr [DI c1_1] 0]),(4,DI 0),(7,DI (s.length:Int)),(8,DI v7)], [],0⟩) 0 (SubY.of 0 rfl (tA rfl) trivial) he ?_
 rintro fu24 v7 b hm hi25
 apply vb hm<;>intro _ hm
 obtain⟨e27,hx28,hm⟩:=bd_some hm
 refine⟨_,el_idx (fun _=>rfl) hx28, ?_⟩
 refine cy hm (d_muster_post_has_2 e27 c1_0 c1_1) fun x29 hm=> ?_
 apply vb hm<;>intro _ hm
 cases hm
 cases hi25
 have hm:=hk23
 exact hm.rr
 cases hm
 exact⟨(_,(W (v7+1))),SubY.of 0 rfl (tA rfl) trivial,hi25,Nat.lt_succ_self _⟩
 cases hm
 cases hi25
 have hm:=hk23
 exact hm.rr
def m_slices_ContainsFunc_api_Loan_api_Loan__muster_post_has_2 (s:(List TLoan)) (c1_0:Int) (c1_1:Int):Option Bool:=
 Option.bind (m_slices_IndexFunc_api_Loan_api_Loan__muster_post_has_2 s c1_0 c1_1) fun x1=>
 some (decide (x1≥0))
theorem d_slices_ContainsFunc_api_Loan_api_Loan__muster_post_has_2 (s:(List TLoan)) (c1_0:Int) (c1_1:Int) (r:Bool) (hm:m_slices_ContainsFunc_api_Loan_api_Loan__muster_post_has_2 s c1_0 c1_1=some r):Does Tryz.prog 165 [lD 6 s TLoan.c, .fn 166 [] [.ptr [DI c1_0] 0, .ptr [DI c1_1] 0]] (fun x=>x=DB r):=by
 refine zn Tryz.func165 rfl ?_
 refine cy hm (d_slices_IndexFunc_api_Loan_api_Loan__muster_post_has_2 s c1_0 c1_1) fun x1 hm=> ?_
 exact hm.rr
def m_muster_post_has (p:Tpost) (thing:Int) (moment:Int):Option Bool:=
 Option.bind (m_muster_depotOf thing) fun x1=>
 if(x1==p.Station.Me)=true then
  Option.bind (m_slices_ContainsFunc_api_Lease_api_Lease__muster_post_has_1 p.Station.Now.Leases thing moment) fun x4=>
  some (!x4)
 else
  Option.bind (m_slices_ContainsFunc_api_Loan_api_Loan__muster_post_has_2 p.Station.Now.Loans thing moment) fun x6=>
  some x6
theorem d_muster_post_has (p:Tpost) (thing:Int) (moment:Int) (r:Bool) (hm:m_muster_post_has p thing moment=some r):Does Tryz.prog 98 [.ptr (Tpost.c p) 0,DI thing,DI moment] (fun x=>x=DB r):=by
 refine zy pl98 [] [] [] Tryz.func98 rfl ?_
 refine⟨rfl, ?_⟩
 refine cy hm (d_muster_depotOf thing) fun x1 hm=> ?_
 apply vb hm<;>intro _ hm
 refine co hm (d_slices_ContainsFunc_api_Lease_api_Lease__muster_post_has_1 p.Station.Now.Leases thing moment) fun x4 hm=> ?_
 exact hm.rr
 refine co hm (d_slices_ContainsFunc_api_Loan_api_Loan__muster_post_has_2 p.Station.Now.Loans thing moment) fun x6 hm=> ?_
 exact hm.rr
def m_muster_Has (x:TStation) (thing:Int) (moment:Int):Option (Bool×Int):=
 Option.bind (m_muster_open x) fun⟨x1,x2⟩=>
 optM x1 (
  if(x2 !=0)=true then
   some (false,x2)
  else
   Option.bind (m_muster_isThing thing) fun x6=>
   if(!x6)=true then
    some (false,1)
   else
    Option.bind (m_muster_isMoment moment) fun x9=>
    if(!x9)=true then
     some (false,95)
    else
     none) fun p4=>
 if(x2 !=0)=true then
  some (false,x2)
 else
  Option.bind (m_muster_isThing thing) fun x13=>
  if(!x13)=true then
   some (false,1)
  else
   Option.bind (m_muster_isMoment moment) fun x16=>
   if(!x16)=true then
    some (false,95)
   else
    Option.bind (m_muster_post_has p4 thing moment) fun x19=>
    some (x19,0)
theorem d_muster_Has (x:TStation) (thing:Int) (moment:Int) (r:(Bool×Int)) (hm:m_muster_Has x thing moment=some r):Does Tryz.prog 41 [.agg (TStation.c x),DI thing,DI moment] (fun x=>x= .tup [DB r.1,DI r.2]):=by
 refine zn Tryz.func41 rfl ?_
 refine cy hm (d_muster_open x) ?_
 rintro⟨x1,x2⟩ hm
 rcases x1 with _|p4
 replace hm:=opt_none hm
 apply vb hm<;>intro _ hm
 cases hm
 exact RetY.le (leD.refl _)
 refine cy hm (d_muster_isThing thing) fun x6 hm=> ?_
 apply vb hm<;>intro _ hm
 cases hm
 exact RetY.le (leD.refl _)
 refine cy hm (d_muster_isMoment moment) fun x9 hm=> ?_
 apply vb hm<;>intro _ hm
 cases hm
 exact RetY.le (leD.refl _)
 cases hm
 replace hm:=opt_some hm
 apply vb hm<;>intro _ hm
 cases hm
 exact RetY.le (leD.refl _)
 refine cy hm (d_muster_isThing thing) fun x13 hm=> ?_
 apply vb hm<;>intro _ hm
 cases hm
 exact RetY.le (leD.refl _)
 refine cy hm (d_muster_isMoment moment) fun x16 hm=> ?_
 apply vb hm<;>intro _ hm
 cases hm
 exact RetY.le (leD.refl _)
 refine cy hm (d_muster_post_has p4 thing moment) fun x19 hm=> ?_
 cases hm
 exact RetY.le (leD.refl _)
def m_slices_Sort_int_int (x:List Int):Option (List Int):=gd (x.length<4611686018427387904) (some (sortI x))
theorem d_slices_Sort_int_int (x r:List Int) (hm:m_slices_Sort_int_int x=some r):DoesS Tryz.prog 99 1 x.length (x.flatMap cI) 3 [] r.length (r.flatMap cI):=by
 obtain⟨hg,hm⟩:=gd_some hm
 cases hm
 exact does_sort lay_sort x 3 hg
def m_muster_Free_L1 (thing:Int) (from_:Int) (p4:Tpost):(Int×(List Int))→Option (Sum (Int×(List Int)) (Int×(List Int))):=fun(v34,v35)=>
 if(decide (v34<(p4.Station.Now.Leases.length:Int)))=true then
  Option.bind (idx p4.Station.Now.Leases v34) fun e42=>
  if(e42.Thing==thing)=true then
   if(decide (e42.Until>from_))=true then
    gd ((v35.length+([e42.Until]:List Int).length)*8≤140737488355328∧v35.length+([e42.Until]:List Int).length≤9223372036854775807)<|
    some (.inl ((W (v34+1)),(v35++([e42.Until]:List Int))))
   else
    some (.inl ((W (v34+1)),v35))
  else
   some (.inl ((W (v34+1)),v35))
 else
  some (.inr (v34,v35))
def m_muster_Free_L2 (thing:Int) (from_:Int) (until_:Int) (p4:Tpost) (x49:(List Int)):Int→Option (Sum Int (Sum Int (Int×Int))):=fun v61=>
 if(decide (v61<(x49.length:Int)))=true then
  Option.bind (idx x49 v61) fun e74=>
  Option.bind (idx x49 v61) fun e76=>
  Option.bind (m_muster_isMoment (W ((W (e76+until_))-from_))) fun x78=>
  if x78=true then
   Option.bind (m_muster_post_lent p4 (⟨0,thing,0,e76,(W ((W (e76+until_))-from_))⟩:TLease)) fun x81=>
   if(!x81)=true then
    some (.inr (.inr (e76,0)))
   else
    some (.inl (W (v61+1)))
  else
   some (.inl (W (v61+1)))
 else
  some (.inr (.inl v61))
def m_muster_Free (x:TStation) (thing:Int) (from_:Int) (until_:Int):Option (Int×Int):=
 Option.bind (m_muster_open x) fun⟨x1,x2⟩=>
 optM x1 (
  if(x2 !=0)=true then
   some (0,x2)
  else
   Option.bind (m_muster_isThing thing) fun x6=>
   if(!x6)=true then
    some (0,1)
   else
    Option.bind (m_muster_isMoment from_) fun x9=>
    if(!x9)=true then
     some (0,95)
    else
     Option.bind (m_muster_isMoment until_) fun x12=>
     if(!x12)=true then
      some (0,95)
     else
      none) fun p4=>
 if(x2 !=0)=true then
  some (0,x2)
 else
  Option.bind (m_muster_isThing thing) fun x16=>
  if(!x16)=true then
   some (0,1)
  else
   Option.bind (m_muster_isMoment from_) fun x19=>
   if(!x19)=true then
    some (0,95)
   else
    Option.bind (m_muster_isMoment until_) fun x22=>
    if(!x22)=true then
     some (0,95)
    else
     Option.bind (m_muster_depotOf thing) fun x25=>
     if(x25 !=p4.Station.Me)=true then
      some (0,92)
     else
      if(decide (from_>until_))=true then
       some (0,95)
      else
       Option.bind (loopF (m_muster_Free_L1 thing from_ p4) (0,([from_]:List Int))) fun(v46,v47)=>
       Option.bind (m_slices_Sort_int_int v47) fun x49=>
       Option.bind (loopF (m_muster_Free_L2 thing from_ until_ p4 x49) 0) fun e=>
       match e with
       | .inl v84=>
        some (0,3)
       | .inr rr85=>
        some rr85
theorem d_muster_Free (x:TStation) (thing:Int) (from_:Int) (until_:Int) (r:(Int×Int)) (hm:m_muster_Free x thing from_ until_=some r):Does Tryz.prog 42 [.agg (TStation.c x),DI thing,DI from_,DI until_] (fun x=>x= .tup [DI r.1,DI r.2]):=by
 refine zy pl42 [99,106,149,210,211,220] [] [] Tryz.func42 rfl ?_
 refine cy hm (d_muster_open x) ?_
 rintro⟨x1,x2⟩ hm
 rcases x1 with _|p4
 replace hm:=opt_none hm
 apply vb hm<;>intro _ hm
 cases hm
 exact RetY.le (leD.refl _)
 refine cy hm (d_muster_isThing thing) fun x6 hm=> ?_
 apply vb hm<;>intro _ hm
 cases hm
 exact RetY.le (leD.refl _)
 refine cy hm (d_muster_isMoment from_) fun x9 hm=> ?_
 apply vb hm<;>intro _ hm
 cases hm
 exact RetY.le (leD.refl _)
 refine cy hm (d_muster_isMoment until_) fun x12 hm=> ?_
 apply vb hm<;>intro _ hm
 cases hm
 exact RetY.le (leD.refl _)
 refine⟨rfl, ?_⟩
 cases hm
 replace hm:=opt_some hm
 apply vb hm<;>intro _ hm
 cases hm
 exact RetY.le (leD.refl _)
 refine cy hm (d_muster_isThing thing) fun x16 hm=> ?_
 apply vb hm<;>intro _ hm
 cases hm
 exact RetY.le (leD.refl _)
 refine cy hm (d_muster_isMoment from_) fun x19 hm=> ?_
 apply vb hm<;>intro _ hm
 cases hm
 exact RetY.le (leD.refl _)
 refine cy hm (d_muster_isMoment until_) fun x22 hm=> ?_
 apply vb hm<;>intro _ hm
 cases hm
 exact RetY.le (leD.refl _)
 refine⟨rfl, ?_⟩
 refine cy hm (d_muster_depotOf thing) fun x25 hm=> ?_
 apply vb hm<;>intro _ hm
 cases hm
 exact RetY.le (leD.refl _)
 apply vb hm<;>intro _ hm
 cases hm
 exact RetY.le (leD.refl _)
 refine⟨([from_]:List Int).flatMap cI,([from_]:List Int).length,⟨rfl,rfl⟩, ?_⟩
 obtain⟨ev101,he,hk102⟩:=bd_some hm
 refine LoopY.ofL (m_muster_Free_L1 thing from_ p4) (fun(v34,v35)=>⟨[(0, .agg (TStation.c x)),(1,DI thing),(2,DI from_),(3,DI until_),(4, .own 0 0),(8,DI 0),(9,DI 0),(10, .ptr (Tpost.c p4) 0),(11,DI x2),(12, .row 1 1),(23,DB (x2 !=0)),(27,DB (!x16)),(31,DB (!x22)),(40,DB (x25 !=p4.Station.Me)),(49,DB (decide (from_>until_))),(60,lD 5 p4.Station.Now.Leases TLease.c),(61,DI (p4.Station.Now.Leases.length:Int)),(62,DI v34)], [(0, .blk (TStation.c x) 30),(1,rE 1 v35 cI 3)],2⟩) (0,([from_]:List Int)) (SubY.of 2 rfl (tA rfl) ⟨hR rfl,hW rfl,trivial⟩) he ?_
 rintro fu103 ⟨v34,v35⟩ b hm hi104
 apply vb hm<;>intro _ hm
 obtain⟨e106,hx107,hm⟩:=bd_some hm
 refine⟨_,el_idx (fun _=>rfl) hx107, ?_⟩
 apply vb hm<;>intro _ hm
 apply vb hm<;>intro _ hm
 refine⟨([e106.Until]:List Int).flatMap cI,([e106.Until]:List Int).length,⟨rfl,rfl⟩, ?_⟩
 obtain⟨hg,hm⟩:=gd_some hm
 refine⟨hg,_,_,flat_app (c:=cI) (l:=(v35:List Int)) (r:=(([e106.Until]:List Int):List Int)), ?_⟩
 cases hm
 exact⟨(_,((W (v34+1)),(v35++([e106.Until]:List Int)))),SubY.of 2 rfl (tA rfl) ⟨hR rfl,hW rfl,trivial⟩,hi104,Nat.lt_succ_self _⟩
 cases hm
 exact⟨(_,((W (v34+1)),v35)),SubY.of 2 rfl (tA rfl) ⟨hR rfl,hW rfl,trivial⟩,hi104,Nat.lt_succ_self _⟩
 cases hm
 exact⟨(_,((W (v34+1)),v35)),SubY.of 2 rfl (tA rfl) ⟨hR rfl,hW rfl,trivial⟩,hi104,Nat.lt_succ_self _⟩
 cases hm
 cases hi104
 have hm:=hk102
 obtain⟨x111,hx110,hm⟩:=bd_some hm
 refine .inr (CallS.mk ⟨_,_,_,_,_,_,rfl,d_slices_Sort_int_int v35 _ hx110, ?_⟩)
 obtain⟨ev148,he,hk149⟩:=bd_some hm
 refine LoopY.ofL (m_muster_Free_L2 thing from_ until_ p4 x111) (fun v123=>⟨[(0, .agg (TStation.c x)),(1,DI thing),(2,DI from_),(3,DI until_),(4, .own 0 0),(8,DI 0),(9,DI 0),(10, .ptr (Tpost.c p4) 0),(11,DI x2),(12, .row 1 1),(23,DB (x2 !=0)),(27,DB (!x16)),(31,DB (!x22)),(40,DB (x25 !=p4.Station.Me)),(49,DB (decide (from_>until_))),(60,lD 5 p4.Station.Now.Leases TLease.c),(61,DI (p4.Station.Now.Leases.length:Int)),(62,DI v34),(63,DB (decide (v34<(p4.Station.Now.Leases.length:Int)))),(84, .row 1 1),(85,DI (x111.length:Int)),(86,DI v123)], [(0, .blk (TStation.c x) 30),(1,rE 1 x111 cI 3)],2⟩) 0 (SubY.of 2 rfl (tA rfl) ⟨hR rfl,hW rfl,trivial⟩) he ?_
 rintro fu150 v123 b hm hi151
 apply vb hm<;>intro _ hm
 obtain⟨e153,hx154,hm⟩:=bd_some hm
 refine⟨idx_bd hx154, ?_⟩
 obtain⟨e155,hx156,hm⟩:=bd_some hm
 refine⟨_,el_row (fun _=>rfl) hx156, ?_⟩
 refine cy hm (d_muster_isMoment (W ((W (e155+until_))-from_))) fun x157 hm=> ?_
 apply vb hm<;>intro _ hm
 refine cy hm (d_muster_post_lent p4 ((⟨0,thing,0,e155,(W ((W (e155+until_))-from_))⟩:TLease))) fun x160 hm=> ?_
 apply vb hm<;>intro _ hm
 cases hm
 cases hi151
 have hm:=hk149
 cases hm
 exact RetY.le (leD.refl _)
 cases hm
 exact⟨(_,(W (v123+1))),SubY.of 2 rfl (tA rfl) ⟨hR rfl,hW rfl,trivial⟩,hi151,Nat.lt_succ_self _⟩
 cases hm
 exact⟨(_,(W (v123+1))),SubY.of 2 rfl (tA rfl) ⟨hR rfl,hW rfl,trivial⟩,hi151,Nat.lt_succ_self _⟩
 cases hm
 cases hi151
 have hm:=hk149
 cases hm
 exact RetY.le (leD.refl _)
def m_slices_Insert_api_Bid_api_Bid (s:(List TBid)) (i:Int) (v:(List TBid)):Option (List TBid):=
 gd (0≤i∧i.toNat≤s.length)<|
 if((v.length:Int)==0)=true then
  some s
 else
  if(i==(s.length:Int))=true then
   gd ((s.length+v.length)*48≤140737488355328∧s.length+v.length≤9223372036854775807)<|
   some (s++v)
  else
   gd (0≤i∧i.toNat<s.length∧0<v.length∧(s.length+v.length)*48≤140737488355328∧s.length+v.length≤9223372036854775807) (some (s.take i.toNat++v++s.drop i.toNat))
theorem d_slices_Insert_api_Bid_api_Bid (s:(List TBid)) (i:Int) (v:(List TBid)) (r:(List TBid)) (hm:m_slices_Insert_api_Bid_api_Bid s i v=some r):DoesL Tryz.prog 149 6 s.length (s.flatMap TBid.c) 108 [DI i,lD 6 v TBid.c] 6 r.length (r.flatMap TBid.c):=by
 obtain⟨hg0,hm⟩:=gd_some hm
 refine does_zins (X:=⟨Tryz.prog,tt,Tryz.f149.ntmps, [], [], [], [], [], []⟩) (t:=23) (tI:=3) (tB:=4) (ov:=181) (ty:=108) (args:= [lD 6 v TBid.c]) pok Tryz.func149 rfl rfl .mk .mk (Nat.le_of_ble_eq_true rfl) hg0 rfl rfl rfl rfl rfl rfl (by kernel_rfl) ⟨⟨_,4,Tryz.func181,by kernel_rfl,by kernel_rfl,by kernel_rfl,by kernel_rfl⟩⟩ (by decide) ?_
 apply vb hm<;>intro _ hm
 cases hm
 exact⟨rfl,rfl⟩
 apply vb hm<;>intro _ hm
 obtain⟨hg,hm⟩:=gd_some hm
 refine⟨hg,_,_,flat_app (c:=TBid.c) (l:=(s:List TBid)) (r:=(v:List TBid)), ?_⟩
 cases hm
 exact⟨rfl,rfl⟩
 obtain⟨hg,hm⟩:=gd_some hm
 cases hm
 exact ins_k (fun _=>rfl) hg
def m_slices_BinarySearchFunc_api_Bid_api_Bid_api_Bid__muster_compareBids_L1 (x:(List TBid)) (target:TBid):(Int×Int)→Option (Sum (Int×Int) (Int×Int)):=fun(i7,j8)=>
 if(decide (i7<j8))=true then
  Option.bind (idx x (W ((IntKind.u64.wrap (W (i7+j8))).fdiv (2^(min (1:Int).toNat IntKind.u64.bits))))) fun e16=>
  Option.bind (m_muster_compareBids e16 target) fun x18=>
  if(decide (x18<0))=true then
   some (.inl ((W ((W ((IntKind.u64.wrap (W (i7+j8))).fdiv (2^(min (1:Int).toNat IntKind.u64.bits))))+1)),j8))
  else
   some (.inl (i7,(W ((IntKind.u64.wrap (W (i7+j8))).fdiv (2^(min (1:Int).toNat IntKind.u64.bits))))))
 else
  some (.inr (i7,j8))
def m_slices_BinarySearchFunc_api_Bid_api_Bid_api_Bid__muster_compareBids (x:(List TBid)) (target:TBid):Option (Int×Bool):=
 Option.bind (loopF (m_slices_BinarySearchFunc_api_Bid_api_Bid_api_Bid__muster_compareBids_L1 x target) (0,(x.length:Int))) fun(i21,j22)=>
 if(decide (i21<(x.length:Int)))=true then
  Option.bind (idx x i21) fun e24=>
  Option.bind (m_muster_compareBids e24 target) fun x26=>
  some (i21,(x26==0))
 else
  some (i21,false)
theorem d_slices_BinarySearchFunc_api_Bid_api_Bid_api_Bid__muster_compareBids (x:(List TBid)) (target:TBid) (r:(Int×Bool)) (hm:m_slices_BinarySearchFunc_api_Bid_api_Bid_api_Bid__muster_compareBids x target=some r):Does Tryz.prog 180 [lD 6 x TBid.c, .agg (TBid.c target), .fn 89 [] []] (fun x=>x= .tup [DI r.1,DB r.2]):=by
 refine zy pl180 [] [] [] Tryz.func180 rfl ?_
 obtain⟨ev28,he,hk29⟩:=bd_some hm
 refine LoopY.ofL (m_slices_BinarySearchFunc_api_Bid_api_Bid_api_Bid__muster_compareBids_L1 x target) (fun(i7,j8)=>⟨[(0,lD 6 x TBid.c),(1, .agg (TBid.c target)),(2, .fn 89 [] []),(4, .own 0 0),(6,DI 0),(7,DB false),(8,DI (x.length:Int)),(9,DI i7),(10,DI j8)], [(0, .blk (TBid.c target) 108)],1⟩) (0,(x.length:Int)) (SubY.of 1 rfl (tA rfl) ⟨hR rfl,trivial⟩) he ?_
 rintro fu30 ⟨i7,j8⟩ b hm hi31
 apply vb hm<;>intro _ hm
 refine⟨by decide, ?_⟩
 refine⟨rfl, ?_⟩
 obtain⟨e33,hx34,hm⟩:=bd_some hm
 refine⟨_,el_idx (fun _=>rfl) hx34, ?_⟩
 refine cy hm (d_muster_compareBids e33 target) fun x35 hm=> ?_
 apply vb hm<;>intro _ hm
 cases hm
 exact⟨(_,((W ((W ((IntKind.u64.wrap (W (i7+j8))).fdiv (2^(min (1:Int).toNat IntKind.u64.bits))))+1)),j8)),SubY.of 1 rfl (tA rfl) ⟨hR rfl,trivial⟩,hi31,Nat.lt_succ_self _⟩
 cases hm
 exact⟨(_,(i7,(W ((IntKind.u64.wrap (W (i7+j8))).fdiv (2^(min (1:Int).toNat IntKind.u64.bits)))))),SubY.of 1 rfl (tA rfl) ⟨hR rfl,trivial⟩,hi31,Nat.lt_succ_self _⟩
 cases hm
 cases hi31
 have hm:=hk29
 refine⟨rfl, ?_⟩
 apply vb hm<;>intro _ hm
 obtain⟨e39,hx40,hm⟩:=bd_some hm
 refine⟨_,el_idx (fun _=>rfl) hx40, ?_⟩
 refine cy hm (d_muster_compareBids e39 target) fun x41 hm=> ?_
 cases hm
 exact RetY.le (leD.refl _)
 cases hm
 exact RetY.le (leD.refl _)
def m_muster_place_api_Bid__muster_compareBids (l:(List TBid)) (x:TBid):Option (Int×Bool):=
 Option.bind (m_slices_BinarySearchFunc_api_Bid_api_Bid_api_Bid__muster_compareBids l x) fun⟨x1,x2⟩=>
 some (x1,x2)
theorem d_muster_place_api_Bid__muster_compareBids (l:(List TBid)) (x:TBid) (r:(Int×Bool)) (hm:m_muster_place_api_Bid__muster_compareBids l x=some r):Does Tryz.prog 148 [lD 6 l TBid.c, .agg (TBid.c x), .fn 89 [] []] (fun x=>x= .tup [DI r.1,DB r.2]):=by
 refine zn Tryz.func148 rfl ?_
 refine cy hm (d_slices_BinarySearchFunc_api_Bid_api_Bid_api_Bid__muster_compareBids l x) ?_
 rintro⟨x1,x2⟩ hm
 cases hm
 exact RetY.le (leD.refl _)
def m_IN_muster_put_api_Bid (night:Int) (value:Int) (v10:(List TBid)) (x19:Int) (x20:Int):Option (Sum ((List TBid)×Int) Unit):=
 Option.bind (m_muster_place_api_Bid__muster_compareBids v10 (⟨night,(W ((W (6*(W (x20+1))))+x19)),value,0,0,false⟩:TBid)) fun⟨x54,x55⟩=>
 if x55=true then
  some (.inl (v10,x54))
 else
  if((v10.length:Int)==12)=true then
   some (.inr ())
  else
   Option.bind (m_slices_Insert_api_Bid_api_Bid v10 x54 ([(⟨night,(W ((W (6*(W (x20+1))))+x19)),value,0,0,false⟩:TBid)]:List TBid)) fun x59=>
   some (.inl (x59,x54))
def m_muster_Propose (x:TStation) (night:Int) (value:Int):Option (TStation×Int):=
 Option.bind (m_IN_muster_open x) fun e=>
 match e with
 | .inl x8=>
  if(x8 !=0)=true then
   some ((⟨0,(⟨0, [], [], [], [], []⟩:TState),(⟨0, [], [], [], [], []⟩:TState)⟩:TStation),x8)
  else
   Option.bind (m_muster_isNight night) fun x32=>
   if(!x32)=true then
    some ((⟨0,(⟨0, [], [], [], [], []⟩:TState),(⟨0, [], [], [], [], []⟩:TState)⟩:TStation),6)
   else
    Option.bind (m_muster_isValue value) fun x35=>
    if(!x35)=true then
     some ((⟨0,(⟨0, [], [], [], [], []⟩:TState),(⟨0, [], [], [], [], []⟩:TState)⟩:TStation),1)
    else
     none
 | .inr (v9,v10,v11,v12,v13,v14,v15,v16,v17,v18,x19,x20,x21)=>
  Option.bind (m_muster_isNight night) fun x38=>
  if(!x38)=true then
   some ((⟨0,(⟨0, [], [], [], [], []⟩:TState),(⟨0, [], [], [], [], []⟩:TState)⟩:TStation),6)
  else
   Option.bind (m_muster_isValue value) fun x41=>
   if(!x41)=true then
    some ((⟨0,(⟨0, [], [], [], [], []⟩:TState),(⟨0, [], [], [], [], []⟩:TState)⟩:TStation),1)
   else
    if(x20==9999)=true then
     some ((⟨0,(⟨0, [], [], [], [], []⟩:TState),(⟨0, [], [], [], [], []⟩:TState)⟩:TStation),2)
    else
     Option.bind (m_IN_muster_put_api_Bid night value v10 x19 x20) fun e=>
     match e with
     | .inl (v52,x53)=>
      Option.bind (idx v52 x53) fun e63=>
      Option.bind (idx v52 x53) fun e65=>
      some ((⟨x19,(⟨(W (x20+1)),v9,(v52.set x53.toNat (⟨night,(W ((W (6*(W (x20+1))))+x19)),value,0,0,false⟩:TBid)),v11,v12,v13⟩:TState),(⟨x21,v14,v15,v16,v17,v18⟩:TState)⟩:TStation),0)
     | .inr _=>
      some ((⟨0,(⟨0, [], [], [], [], []⟩:TState),(⟨0, [], [], [], [], []⟩:TState)⟩:TStation),2)
theorem d_muster_Propose (x:TStation) (night:Int) (value:Int) (r:(TStation×Int)) (hm:m_muster_Propose x night value=some r):Does Tryz.prog 31 [.agg (TStation.c x),DI night,DI value] (fun x=>x= .tup [.agg (TStation.c r.1),DI r.2]):=by
 refine zy pl31 [99,106,149,210,211,220] [62] [61,88] Tryz.func31 rfl ?_
 obtain⟨ev29,he30,hm⟩:=bd_some hm
 refine CallIn.ofZ pok ⟨[(0, .agg (TStation.c x)),(1000000, .agg (TStation.c x)),(1000001,DI night),(1000002,DI value),(1000003, .own 0 0),(1000006, .own 1 0),(1000007,DI 0)], [(0, .blk (TStation.c x) 30),(1, .blk [DI 0,DI 0, .v (.slice none 0 0), .v (.slice none 0 0), .v (.slice none 0 0), .v (.slice none 0 0), .v (.slice none 0 0),DI 0, .v (.slice none 0 0), .v (.slice none 0 0), .v (.slice none 0 0), .v (.slice none 0 0), .v (.slice none 0 0)] 30)],2⟩ (match ev29 with| .inl x8=>(⟨[(0, .agg (TStation.c x)),(1,DI night),(2,DI value),(3, .own 0 0),(6, .own 1 0),(7,DI 0),(16, .tup [.v (.pointer none),DI x8])], [(0, .blk (TStation.c x) 30),(1, .blk [DI 0,DI 0, .v (.slice none 0 0), .v (.slice none 0 0), .v (.slice none 0 0), .v (.slice none 0 0), .v (.slice none 0 0),DI 0, .v (.slice none 0 0), .v (.slice none 0 0), .v (.slice none 0 0), .v (.slice none 0 0), .v (.slice none 0 0)] 30)],2⟩:Sy)| .inr (v9,v10,v11,v12,v13,v14,v15,v16,v17,v18,x19,x20,x21)=>(⟨[(0, .agg (TStation.c x)),(1,DI night),(2,DI value),(3, .own 0 0),(6, .own 1 0),(7,DI 0),(16, .tup [.own 13 0,DI 0])], [(0, .blk (TStation.c x) 30),(1, .blk [DI 0,DI 0, .v (.slice none 0 0), .v (.slice none 0 0), .v (.slice none 0 0), .v (.slice none 0 0), .v (.slice none 0 0),DI 0, .v (.slice none 0 0), .v (.slice none 0 0), .v (.slice none 0 0), .v (.slice none 0 0), .v (.slice none 0 0)] 30),(3,rE 4 v9 TSlot.c 110),(4,rE 6 v10 TBid.c 108),(5,rE 4 v11 THeard.c 149),(6,rE 5 v12 TLease.c 112),(7,rE 6 v13 TLoan.c 114),(8,rE 4 v14 TSlot.c 110),(9,rE 6 v15 TBid.c 108),(10,rE 4 v16 THeard.c 149),(11,rE 5 v17 TLease.c 112),(12,rE 6 v18 TLoan.c 114),(13, .blk [DI x19,DI x20, .row 3 4, .row 4 6, .row 5 4, .row 6 5, .row 7 6,DI x21, .row 8 4, .row 9 6, .row 10 4, .row 11 5, .row 12 6] 102)],14⟩:Sy):Sy) pl61 [99,106,149,210,211,220] [62] [61,88] Tryz.func61 rfl rfl rfl (SubY.of 2 rfl (tA rfl) ⟨hR rfl,hR rfl,trivial⟩) (fun sv=> ?_) ?_
 have hm:=he30
 refine cy hm (d_muster_Check x) fun x74 hm=> ?_
 apply vb hm<;>intro _ hm
 cases hm
 exact SubY.of 2 rfl (tA rfl) ⟨hR rfl,hR rfl,trivial⟩
 refine⟨rfl, ?_⟩
 obtain⟨x77,hx78,hm⟩:=bd_some hm
 refine .inr (CallM.mk ⟨_,_,dm_muster_copied x.Now _ hx78, ?_⟩)
 obtain⟨x79,hx80,hm⟩:=bd_some hm
 refine .inr (CallM.mk ⟨_,_,dm_muster_copied x.Safe _ hx80, ?_⟩)
 cases hm
 exact SubY.of 14 rfl (tA rfl) ⟨hR rfl,hR rfl,hW rfl,hW rfl,hW rfl,hW rfl,hW rfl,hW rfl,hW rfl,hW rfl,hW rfl,hW rfl,hR rfl,trivial⟩
 rcases ev29 with x8|⟨v9,v10,v11,v12,v13,v14,v15,v16,v17,v18,x19,x20,x21⟩
 apply vb hm<;>intro _ hm
 cases hm
 exact RetY.le (⟨_,rfl,⟨⟨_,rfl,⟨leD.refl _,leD.refl _,leD.nil,leD.nil,leD.nil,leD.nil,leD.nil,leD.refl _,leD.nil,leD.nil,leD.nil,leD.nil,leD.nil,trivial⟩⟩,leD.refl _,trivial⟩⟩)
 refine cy hm (d_muster_isNight night) fun x32 hm=> ?_
 apply vb hm<;>intro _ hm
 cases hm
 exact RetY.le (⟨_,rfl,⟨⟨_,rfl,⟨leD.refl _,leD.refl _,leD.nil,leD.nil,leD.nil,leD.nil,leD.nil,leD.refl _,leD.nil,leD.nil,leD.nil,leD.nil,leD.nil,trivial⟩⟩,leD.refl _,trivial⟩⟩)
 refine cy hm (d_muster_isValue value) fun x35 hm=> ?_
 apply vb hm<;>intro _ hm
 cases hm
 exact RetY.le (⟨_,rfl,⟨⟨_,rfl,⟨leD.refl _,leD.refl _,leD.nil,leD.nil,leD.nil,leD.nil,leD.nil,leD.refl _,leD.nil,leD.nil,leD.nil,leD.nil,leD.nil,trivial⟩⟩,leD.refl _,trivial⟩⟩)
 cases hm
 refine cy hm (d_muster_isNight night) fun x38 hm=> ?_
 apply vb hm<;>intro _ hm
 cases hm
 exact RetY.le (⟨_,rfl,⟨⟨_,rfl,⟨leD.refl _,leD.refl _,leD.nil,leD.nil,leD.nil,leD.nil,leD.nil,leD.refl _,leD.nil,leD.nil,leD.nil,leD.nil,leD.nil,trivial⟩⟩,leD.refl _,trivial⟩⟩)
 refine cy hm (d_muster_isValue value) fun x41 hm=> ?_
 apply vb hm<;>intro _ hm
 cases hm
 exact RetY.le (⟨_,rfl,⟨⟨_,rfl,⟨leD.refl _,leD.refl _,leD.nil,leD.nil,leD.nil,leD.nil,leD.nil,leD.refl _,leD.nil,leD.nil,leD.nil,leD.nil,leD.nil,trivial⟩⟩,leD.refl _,trivial⟩⟩)
 apply vb hm<;>intro _ hm
 cases hm
 exact RetY.le (⟨_,rfl,⟨⟨_,rfl,⟨leD.refl _,leD.refl _,leD.nil,leD.nil,leD.nil,leD.nil,leD.nil,leD.refl _,leD.nil,leD.nil,leD.nil,leD.nil,leD.nil,trivial⟩⟩,leD.refl _,trivial⟩⟩)
 refine⟨rfl, ?_⟩
 refine⟨rfl, ?_⟩
 obtain⟨ev61,he62,hm⟩:=bd_some hm
 refine CallIn.ofZ pok ⟨[(0, .row 4 6),(1, .agg [DI night,DI (W ((W (6*(W (x20+1))))+x19)),DI value,DI 0,DI 0,DB false]),(2,DI 12),(3, .fn 89 [] []),(1000000, .agg (TStation.c x)),(1000001,DI night),(1000002,DI value),(1000003, .own 0 0),(1000006, .own 1 0),(1000007,DI 0),(1000008, .own 13 0),(1000009,DI 0),(1000010, .own 14 0),(1000019,DB false),(1000024,DB (!x38)),(1000029,DB (!x41)),(1000034,DB (x20==9999))], [(0, .blk (TStation.c x) 30),(1, .blk [DI 0,DI 0, .v (.slice none 0 0), .v (.slice none 0 0), .v (.slice none 0 0), .v (.slice none 0 0), .v (.slice none 0 0),DI 0, .v (.slice none 0 0), .v (.slice none 0 0), .v (.slice none 0 0), .v (.slice none 0 0), .v (.slice none 0 0)] 30),(3,rE 4 v9 TSlot.c 110),(4,rE 6 v10 TBid.c 108),(5,rE 4 v11 THeard.c 149),(6,rE 5 v12 TLease.c 112),(7,rE 6 v13 TLoan.c 114),(8,rE 4 v14 TSlot.c 110),(9,rE 6 v15 TBid.c 108),(10,rE 4 v16 THeard.c 149),(11,rE 5 v17 TLease.c 112),(12,rE 6 v18 TLoan.c 114),(13, .blk [DI x19,DI (W (x20+1)), .row 3 4, .row 4 6, .row 5 4, .row 6 5, .row 7 6,DI x21, .row 8 4, .row 9 6, .row 10 4, .row 11 5, .row 12 6] 102),(14, .blk [DI night,DI (W ((W (6*(W (x20+1))))+x19)),DI value,DI 0,DI 0,DB false] 108)],15⟩ (match ev61 with| .inl (v52,x53)=>(⟨[(0, .agg (TStation.c x)),(1,DI night),(2,DI value),(3, .own 0 0),(6, .own 1 0),(7,DI 0),(8, .own 13 0),(9,DI 0),(10, .own 14 0),(19,DB false),(24,DB (!x38)),(29,DB (!x41)),(34,DB (x20==9999)),(78, .tup [.row 4 6,DI x53,DB true])], [(0, .blk (TStation.c x) 30),(1, .blk [DI 0,DI 0, .v (.slice none 0 0), .v (.slice none 0 0), .v (.slice none 0 0), .v (.slice none 0 0), .v (.slice none 0 0),DI 0, .v (.slice none 0 0), .v (.slice none 0 0), .v (.slice none 0 0), .v (.slice none 0 0), .v (.slice none 0 0)] 30),(3,rE 4 v9 TSlot.c 110),(4,rE 6 v52 TBid.c 108),(5,rE 4 v11 THeard.c 149),(6,rE 5 v12 TLease.c 112),(7,rE 6 v13 TLoan.c 114),(8,rE 4 v14 TSlot.c 110),(9,rE 6 v15 TBid.c 108),(10,rE 4 v16 THeard.c 149),(11,rE 5 v17 TLease.c 112),(12,rE 6 v18 TLoan.c 114),(13, .blk [DI x19,DI (W (x20+1)), .row 3 4, .bad, .row 5 4, .row 6 5, .row 7 6,DI x21, .row 8 4, .row 9 6, .row 10 4, .row 11 5, .row 12 6] 102),(14, .blk [DI night,DI (W ((W (6*(W (x20+1))))+x19)),DI value,DI 0,DI 0,DB false] 108)],15⟩:Sy)| .inr _=>(⟨[(0, .agg (TStation.c x)),(1,DI night),(2,DI value),(3, .own 0 0),(6, .own 1 0),(7,DI 0),(8, .own 13 0),(9,DI 0),(10, .own 14 0),(19,DB false),(24,DB (!x38)),(29,DB (!x41)),(34,DB (x20==9999)),(78, .tup [.v (.slice none 0 0),DI 0,DB false])], [(0, .blk (TStation.c x) 30),(1, .blk [DI 0,DI 0, .v (.slice none 0 0), .v (.slice none 0 0), .v (.slice none 0 0), .v (.slice none 0 0), .v (.slice none 0 0),DI 0, .v (.slice none 0 0), .v (.slice none 0 0), .v (.slice none 0 0), .v (.slice none 0 0), .v (.slice none 0 0)] 30),(3,rE 4 v9 TSlot.c 110),(4,rE 6 v10 TBid.c 108),(5,rE 4 v11 THeard.c 149),(6,rE 5 v12 TLease.c 112),(7,rE 6 v13 TLoan.c 114),(8,rE 4 v14 TSlot.c 110),(9,rE 6 v15 TBid.c 108),(10,rE 4 v16 THeard.c 149),(11,rE 5 v17 TLease.c 112),(12,rE 6 v18 TLoan.c 114),(13, .blk [DI x19,DI (W (x20+1)), .row 3 4, .row 4 6, .row 5 4, .row 6 5, .row 7 6,DI x21, .row 8 4, .row 9 6, .row 10 4, .row 11 5, .row 12 6] 102),(14, .blk [DI night,DI (W ((W (6*(W (x20+1))))+x19)),DI value,DI 0,DI 0,DB false] 108)],15⟩:Sy):Sy) [] [99,106,149,210,211,220] [62] [61,88] Tryz.func88 rfl rfl rfl (SubY.of 15 rfl (tA rfl) ⟨hR rfl,hR rfl,hW rfl,hW rfl,hW rfl,hW rfl,hW rfl,hW rfl,hW rfl,hW rfl,hW rfl,hW rfl,hR rfl,hR rfl,trivial⟩) (fun sv=> ?_) ?_
 have hm:=he62
 refine co hm (d_muster_place_api_Bid__muster_compareBids v10 ((⟨night,(W ((W (6*(W (x20+1))))+x19)),value,0,0,false⟩:TBid))) ?_
 rintro⟨x67,x68⟩ hm
 apply vb hm<;>intro _ hm
 cases hm
 exact SubY.of 15 rfl (tA rfl) ⟨hR rfl,hR rfl,hW rfl,hW rfl,hW rfl,hW rfl,hW rfl,hW rfl,hW rfl,hW rfl,hW rfl,hW rfl,⟨_,rfl,⟨leD.refl _,leD.refl _,leD.refl _,leD.refl _,leD.refl _,leD.refl _,leD.refl _,leD.refl _,leD.refl _,leD.refl _,leD.refl _,leD.refl _,trivial⟩⟩,hR rfl,trivial⟩
 apply vb hm<;>intro _ hm
 cases hm
 exact SubY.of 15 rfl (tA rfl) ⟨hR rfl,hR rfl,hW rfl,hW rfl,hW rfl,hW rfl,hW rfl,hW rfl,hW rfl,hW rfl,hW rfl,hW rfl,hR rfl,hR rfl,trivial⟩
 refine⟨([(⟨night,(W ((W (6*(W (x20+1))))+x19)),value,0,0,false⟩:TBid)]:List TBid).flatMap TBid.c,([(⟨night,(W ((W (6*(W (x20+1))))+x19)),value,0,0,false⟩:TBid)]:List TBid).length,⟨rfl,rfl⟩, ?_⟩
 obtain⟨x72,hx73,hm⟩:=bd_some hm
 refine .inl (CallL.mk ⟨_,_,_,_,_,_,_,rfl,d_slices_Insert_api_Bid_api_Bid v10 x67 (([(⟨night,(W ((W (6*(W (x20+1))))+x19)),value,0,0,false⟩:TBid)]:List TBid)) _ hx73, ?_⟩)
 cases hm
 exact SubY.of 15 rfl (tA rfl) ⟨hR rfl,hR rfl,hW rfl,hW rfl,hW rfl,hW rfl,hW rfl,hW rfl,hW rfl,hW rfl,hW rfl,hW rfl,hR rfl,hR rfl,trivial⟩
 rcases ev61 with⟨v52,x53⟩|⟨⟩
 obtain⟨e63,hx64,hm⟩:=bd_some hm
 refine⟨idx_bd hx64, ?_⟩
 obtain⟨e65,hx66,hm⟩:=bd_some hm
 refine⟨_,el_row (fun _=>rfl) hx66,_,set_row (y:=(⟨night,(W ((W (6*(W (x20+1))))+x19)),value,0,0,false⟩:TBid)) (fun _=>rfl) hx66, ?_⟩
 cases hm
 exact RetY.le (by first|exact leD.refl _|(simp only [TStation.c,lD,List.length_set];exact leD.refl _))
 cases hm
 exact RetY.le (⟨_,rfl,⟨⟨_,rfl,⟨leD.refl _,leD.refl _,leD.nil,leD.nil,leD.nil,leD.nil,leD.nil,leD.refl _,leD.nil,leD.nil,leD.nil,leD.nil,leD.nil,trivial⟩⟩,leD.refl _,trivial⟩⟩)
def m_L09_bid_L1:(Bool×Int×Int×Int×(List TSlot)×(List TBid)×(List THeard)×(List TLease)×(List TLoan)×Int×(List TSlot)×(List TBid)×(List THeard)×(List TLease)×(List TLoan))→Option (Sum (Bool×Int×Int×Int×(List TSlot)×(List TBid)×(List THeard)×(List TLease)×(List TLoan)×Int×(List TSlot)×(List TBid)×(List THeard)×(List TLease)×(List TLoan)) (Bool×Int×Int×Int×(List TSlot)×(List TBid)×(List THeard)×(List TLease)×(List TLoan)×Int×(List TSlot)×(List TBid)×(List THeard)×(List TLease)×(List TLoan))):=fun(ok12,d13,v14,v15,v16,v17,v18,v19,v20,v21,v22,v23,v24,v25,v26)=>
 if(decide (d13≤3))=true then
  Option.bind (m_muster_Hear (⟨v14,(⟨v15,v16,v17,v18,v19,v20⟩:TState),(⟨v21,v22,v23,v24,v25,v26⟩:TState)⟩:TStation) (⟨2,d13,1,4,7,0,0,0,0,0,0⟩:TCall)) fun⟨x33,x34⟩=>
  if ok12=true then
   some (.inl ((x34==0),(W (d13+1)),x33.Me,x33.Now.Round,x33.Now.Slots,x33.Now.Bids,x33.Now.Heard,x33.Now.Leases,x33.Now.Loans,x33.Safe.Round,x33.Safe.Slots,x33.Safe.Bids,x33.Safe.Heard,x33.Safe.Leases,x33.Safe.Loans))
  else
   some (.inl (false,(W (d13+1)),x33.Me,x33.Now.Round,x33.Now.Slots,x33.Now.Bids,x33.Now.Heard,x33.Now.Leases,x33.Now.Loans,x33.Safe.Round,x33.Safe.Slots,x33.Safe.Bids,x33.Safe.Heard,x33.Safe.Leases,x33.Safe.Loans))
 else
  some (.inr (ok12,d13,v14,v15,v16,v17,v18,v19,v20,v21,v22,v23,v24,v25,v26))
def m_L09_bid_L2:(Int×Int×Int×(List TSlot)×(List TBid)×(List THeard)×(List TLease)×(List TLoan)×Int×(List TSlot)×(List TBid)×(List THeard)×(List TLease)×(List TLoan))→Option (Sum (Int×Int×Int×(List TSlot)×(List TBid)×(List THeard)×(List TLease)×(List TLoan)×Int×(List TSlot)×(List TBid)×(List THeard)×(List TLease)×(List TLoan)) (Int×Int×Int×(List TSlot)×(List TBid)×(List THeard)×(List TLease)×(List TLoan)×Int×(List TSlot)×(List TBid)×(List THeard)×(List TLease)×(List TLoan))):=fun(d64,v65,v66,v67,v68,v69,v70,v71,v72,v73,v74,v75,v76,v77)=>
 if(decide (d64≤3))=true then
  Option.bind (m_muster_Hear (⟨v65,(⟨v66,v67,v68,v69,v70,v71⟩:TState),(⟨v72,v73,v74,v75,v76,v77⟩:TState)⟩:TStation) (⟨2,d64,1,4,7,0,0,0,0,0,0⟩:TCall)) fun⟨x83,x84⟩=>
  some (.inl ((W (d64+1)),x83.Me,x83.Now.Round,x83.Now.Slots,x83.Now.Bids,x83.Now.Heard,x83.Now.Leases,x83.Now.Loans,x83.Safe.Round,x83.Safe.Slots,x83.Safe.Bids,x83.Safe.Heard,x83.Safe.Leases,x83.Safe.Loans))
 else
  some (.inr (d64,v65,v66,v67,v68,v69,v70,v71,v72,v73,v74,v75,v76,v77))
def m_L09_bid:Option (TStation×Bool):=
 Option.bind (m_muster_New 1) fun⟨x1,x2⟩=>
 Option.bind (m_muster_Propose x1 4 77) fun⟨x4,x5⟩=>
 if(x2==0)=true then
  Option.bind (loopF m_L09_bid_L1 ((x5==0),1,x4.Me,x4.Now.Round,x4.Now.Slots,x4.Now.Bids,x4.Now.Heard,x4.Now.Leases,x4.Now.Loans,x4.Safe.Round,x4.Safe.Slots,x4.Safe.Bids,x4.Safe.Heard,x4.Safe.Leases,x4.Safe.Loans)) fun(ok37,d38,v39,v40,v41,v42,v43,v44,v45,v46,v47,v48,v49,v50,v51)=>
  some ((⟨v39,(⟨v40,v41,v42,v43,v44,v45⟩:TState),(⟨v46,v47,v48,v49,v50,v51⟩:TState)⟩:TStation),ok37)
 else
  Option.bind (loopF m_L09_bid_L2 (1,x4.Me,x4.Now.Round,x4.Now.Slots,x4.Now.Bids,x4.Now.Heard,x4.Now.Leases,x4.Now.Loans,x4.Safe.Round,x4.Safe.Slots,x4.Safe.Bids,x4.Safe.Heard,x4.Safe.Leases,x4.Safe.Loans)) fun(d86,v87,v88,v89,v90,v91,v92,v93,v94,v95,v96,v97,v98,v99)=>
  some ((⟨v87,(⟨v88,v89,v90,v91,v92,v93⟩:TState),(⟨v94,v95,v96,v97,v98,v99⟩:TState)⟩:TStation),false)
theorem d_L09_bid (r:(TStation×Bool)) (hm:m_L09_bid=some r):Does Tryz.prog 68 [] (fun x=>x= .tup [.agg (TStation.c r.1),DB r.2]):=by
 refine zn Tryz.func68 rfl ?_
 refine cy hm (d_muster_New 1) ?_
 rintro⟨x1,x2⟩ hm
 refine cy hm (d_muster_Propose x1 4 77) ?_
 rintro⟨x4,x5⟩ hm
 apply vb hm<;>intro _ hm
 obtain⟨ev52,he,hk53⟩:=bd_some hm
 refine LoopY.ofL m_L09_bid_L1 (fun(ok12,d13,v14,v15,v16,v17,v18,v19,v20,v21,v22,v23,v24,v25,v26)=>⟨[(0, .own 0 0),(1,DB false),(2, .own 1 0),(3,DI x2),(4, .own 2 0),(5,DI x5),(6,DB ok12),(7,DI d13)], [(0, .blk [DI 0,DI 0, .v (.slice none 0 0), .v (.slice none 0 0), .v (.slice none 0 0), .v (.slice none 0 0), .v (.slice none 0 0),DI 0, .v (.slice none 0 0), .v (.slice none 0 0), .v (.slice none 0 0), .v (.slice none 0 0), .v (.slice none 0 0)] 30),(1, .blk (TStation.c x1) 30),(2, .blk [DI v14,DI v15,lD 4 v16 TSlot.c,lD 6 v17 TBid.c,lD 4 v18 THeard.c,lD 5 v19 TLease.c,lD 6 v20 TLoan.c,DI v21,lD 4 v22 TSlot.c,lD 6 v23 TBid.c,lD 4 v24 THeard.c,lD 5 v25 TLease.c,lD 6 v26 TLoan.c] 30)],3⟩) ((x5==0),1,x4.Me,x4.Now.Round,x4.Now.Slots,x4.Now.Bids,x4.Now.Heard,x4.Now.Leases,x4.Now.Loans,x4.Safe.Round,x4.Safe.Slots,x4.Safe.Bids,x4.Safe.Heard,x4.Safe.Leases,x4.Safe.Loans) (SubY.of 3 rfl (tA rfl) ⟨hR rfl,hR rfl,hR rfl,trivial⟩) he ?_
 rintro fu54 ⟨ok12,d13,v14,v15,v16,v17,v18,v19,v20,v21,v22,v23,v24,v25,v26⟩ b hm hi55
 apply vb hm<;>intro _ hm
 refine cy hm (d_muster_Hear ((⟨v14,(⟨v15,v16,v17,v18,v19,v20⟩:TState),(⟨v21,v22,v23,v24,v25,v26⟩:TState)⟩:TStation)) ((⟨2,d13,1,4,7,0,0,0,0,0,0⟩:TCall))) ?_
 rintro⟨x57,x58⟩ hm
 apply vb hm<;>intro _ hm
 cases hm
 exact⟨(_,((x58==0),(W (d13+1)),x57.Me,x57.Now.Round,x57.Now.Slots,x57.Now.Bids,x57.Now.Heard,x57.Now.Leases,x57.Now.Loans,x57.Safe.Round,x57.Safe.Slots,x57.Safe.Bids,x57.Safe.Heard,x57.Safe.Leases,x57.Safe.Loans)),SubY.of 3 rfl (tA rfl) ⟨hR rfl,hR rfl,hR rfl,trivial⟩,hi55,Nat.lt_succ_self _⟩
 cases hm
 exact⟨(_,(false,(W (d13+1)),x57.Me,x57.Now.Round,x57.Now.Slots,x57.Now.Bids,x57.Now.Heard,x57.Now.Leases,x57.Now.Loans,x57.Safe.Round,x57.Safe.Slots,x57.Safe.Bids,x57.Safe.Heard,x57.Safe.Leases,x57.Safe.Loans)),SubY.of 3 rfl (tA rfl) ⟨hR rfl,hR rfl,hR rfl,trivial⟩,hi55,Nat.lt_succ_self _⟩
 cases hm
 cases hi55
 have hm:=hk53
 cases hm
 exact RetY.le (leD.refl _)
 obtain⟨ev100,he,hk101⟩:=bd_some hm
 refine LoopY.ofL m_L09_bid_L2 (fun(d64,v65,v66,v67,v68,v69,v70,v71,v72,v73,v74,v75,v76,v77)=>⟨[(0, .own 0 0),(1,DB false),(2, .own 1 0),(3,DI x2),(4, .own 2 0),(5,DI x5),(6,DB false),(7,DI d64)], [(0, .blk [DI 0,DI 0, .v (.slice none 0 0), .v (.slice none 0 0), .v (.slice none 0 0), .v (.slice none 0 0), .v (.slice none 0 0),DI 0, .v (.slice none 0 0), .v (.slice none 0 0), .v (.slice none 0 0), .v (.slice none 0 0), .v (.slice none 0 0)] 30),(1, .blk (TStation.c x1) 30),(2, .blk [DI v65,DI v66,lD 4 v67 TSlot.c,lD 6 v68 TBid.c,lD 4 v69 THeard.c,lD 5 v70 TLease.c,lD 6 v71 TLoan.c,DI v72,lD 4 v73 TSlot.c,lD 6 v74 TBid.c,lD 4 v75 THeard.c,lD 5 v76 TLease.c,lD 6 v77 TLoan.c] 30)],3⟩) (1,x4.Me,x4.Now.Round,x4.Now.Slots,x4.Now.Bids,x4.Now.Heard,x4.Now.Leases,x4.Now.Loans,x4.Safe.Round,x4.Safe.Slots,x4.Safe.Bids,x4.Safe.Heard,x4.Safe.Leases,x4.Safe.Loans) (SubY.of 3 rfl (tA rfl) ⟨hR rfl,hR rfl,hR rfl,trivial⟩) he ?_
 rintro fu102 ⟨d64,v65,v66,v67,v68,v69,v70,v71,v72,v73,v74,v75,v76,v77⟩ b hm hi103
 apply vb hm<;>intro _ hm
 refine cy hm (d_muster_Hear ((⟨v65,(⟨v66,v67,v68,v69,v70,v71⟩:TState),(⟨v72,v73,v74,v75,v76,v77⟩:TState)⟩:TStation)) ((⟨2,d64,1,4,7,0,0,0,0,0,0⟩:TCall))) ?_
 rintro⟨x105,x106⟩ hm
 cases hm
 exact⟨(_,((W (d64+1)),x105.Me,x105.Now.Round,x105.Now.Slots,x105.Now.Bids,x105.Now.Heard,x105.Now.Leases,x105.Now.Loans,x105.Safe.Round,x105.Safe.Slots,x105.Safe.Bids,x105.Safe.Heard,x105.Safe.Leases,x105.Safe.Loans)),SubY.of 3 rfl (tA rfl) ⟨hR rfl,hR rfl,hR rfl,trivial⟩,hi103,Nat.lt_succ_self _⟩
 cases hm
 cases hi103
 have hm:=hk101
 cases hm
 exact RetY.le (leD.refl _)
def m_strconv_Itoa (n:Int):Option ByteArray:=gd (0≤n∧n<100) (some (itoaS n))
theorem d_strconv_Itoa (n:Int) (r:ByteArray) (hm:m_strconv_Itoa n=some r):Does Tryz.prog 170 [DI n] (fun x=>x= .v (.string r)):=by
 obtain⟨hg,hm⟩:=gd_some hm
 cases hm
 exact does_itoa lay_itoa n hg
def m_muster_row_L1 (l:(List Int)):(ByteArray×Int)→Option (Sum (ByteArray×Int) (ByteArray×Int)):=fun(word6,v7)=>
 if(decide (v7<(l.length:Int)))=true then
  Option.bind (idx l v7) fun e14=>
  Option.bind (m_strconv_Itoa e14) fun x16=>
  gd ((((⟨#[32]⟩:ByteArray).size+x16.size:Nat):Int)≤9223372036854775807)<|
  gd (((word6.size+((⟨#[32]⟩:ByteArray)++x16).size:Nat):Int)≤9223372036854775807)<|
  some (.inl ((word6++((⟨#[32]⟩:ByteArray)++x16)),(W (v7+1))))
 else
  some (.inr (word6,v7))
def m_muster_row (word:ByteArray) (l:(List Int)):Option ByteArray:=
 Option.bind (loopF (m_muster_row_L1 l) (word,0)) fun(word18,v19)=>
 gd (((word18.size+(⟨#[10]⟩:ByteArray).size:Nat):Int)≤9223372036854775807)<|
 some (word18++(⟨#[10]⟩:ByteArray))
theorem d_muster_row (word:ByteArray) (l:(List Int)) (r:ByteArray) (hm:m_muster_row word l=some r):Does Tryz.prog 120 [.v (.string word),lD 1 l cI] (fun x=>x= .v (.string r)):=by
 refine zn Tryz.func120 rfl ?_
 obtain⟨ev20,he,hk21⟩:=bd_some hm
 refine LoopY.ofL (m_muster_row_L1 l) (fun(word6,v7)=>⟨[(0, .v (.string word6)),(1,lD 1 l cI),(4, .v (.string (⟨#[]⟩:ByteArray))),(7,lD 1 l cI),(8,DI (l.length:Int)),(9,DI v7)], [],0⟩) (word,0) (SubY.of 0 rfl (tA rfl) trivial) he ?_
 rintro fu22 ⟨word6,v7⟩ b hm hi23
 apply vb hm<;>intro _ hm
 obtain⟨e25,hx26,hm⟩:=bd_some hm
 refine⟨_,el_idx (fun _=>rfl) hx26, ?_⟩
 refine cy hm (d_strconv_Itoa e25) fun x27 hm=> ?_
 obtain⟨hg,hm⟩:=gd_some hm
 refine⟨hg, ?_⟩
 obtain⟨hg,hm⟩:=gd_some hm
 refine⟨hg, ?_⟩
 cases hm
 exact⟨(_,((word6++((⟨#[32]⟩:ByteArray)++x27)),(W (v7+1)))),SubY.of 0 rfl (tA rfl) trivial,hi23,Nat.lt_succ_self _⟩
 cases hm
 cases hi23
 have hm:=hk21
 obtain⟨hg,hm⟩:=gd_some hm
 refine⟨hg, ?_⟩
 cases hm
 exact RetY.le (leD.refl _)
def m_muster_bit (is:Bool):Option Int:=
 if is=true then
  some 1
 else
  some 0
theorem d_muster_bit (is:Bool) (r:Int) (hm:m_muster_bit is=some r):Does Tryz.prog 121 [DB is] (fun x=>x=DI r):=by
 refine zn Tryz.func121 rfl ?_
 apply vb hm<;>intro _ hm
 exact hm.rr
 exact hm.rr
def m_muster_Print_L1 (s:TState):(Bool×Int)→Option (Sum (Bool×Int) (Bool×Int)):=fun(some_3,v4)=>
 if(decide (v4<6))=true then
  if some_3=true then
   some (.inl (true,(W (v4+1))))
  else
   Option.bind (m_muster_isState v4 s) fun x11=>
   some (.inl (x11,(W (v4+1))))
 else
  some (.inr (some_3,v4))
def m_muster_Print_L2 (s:TState):(ByteArray×Int)→Option (Sum (ByteArray×Int) (ByteArray×Int)):=fun(out23,v24)=>
 if(decide (v24<(s.Slots.length:Int)))=true then
  Option.bind (idx s.Slots v24) fun e31=>
  Option.bind (m_muster_row (⟨#[115,108,111,116]⟩:ByteArray) ([e31.Night,e31.Promised,e31.Ballot,e31.Value]:List Int)) fun x33=>
  gd (((out23.size+x33.size:Nat):Int)≤9223372036854775807)<|
  some (.inl ((out23++x33),(W (v24+1))))
 else
  some (.inr (out23,v24))
def m_muster_Print_L3 (s:TState):(ByteArray×Int)→Option (Sum (ByteArray×Int) (ByteArray×Int)):=fun(out44,v45)=>
 if(decide (v45<(s.Bids.length:Int)))=true then
  Option.bind (idx s.Bids v45) fun e54=>
  Option.bind (m_muster_bit e54.Asked) fun x56=>
  Option.bind (m_muster_row (⟨#[98,105,100]⟩:ByteArray) ([e54.Night,e54.Ballot,e54.Value,e54.Best,e54.Mask,x56]:List Int)) fun x58=>
  gd (((out44.size+x58.size:Nat):Int)≤9223372036854775807)<|
  some (.inl ((out44++x58),(W (v45+1))))
 else
  some (.inr (out44,v45))
def m_muster_Print_L4 (s:TState):(ByteArray×Int)→Option (Sum (ByteArray×Int) (ByteArray×Int)):=fun(out67,v68)=>
 if(decide (v68<(s.Heard.length:Int)))=true then
  Option.bind (idx s.Heard v68) fun e75=>
  Option.bind (m_muster_row (⟨#[104,101,97,114,100]⟩:ByteArray) ([e75.Night,e75.Ballot,e75.Value,e75.Mask]:List Int)) fun x77=>
  gd (((out67.size+x77.size:Nat):Int)≤9223372036854775807)<|
  some (.inl ((out67++x77),(W (v68+1))))
 else
  some (.inr (out67,v68))
def m_muster_Print_L5 (s:TState):(ByteArray×Int)→Option (Sum (ByteArray×Int) (ByteArray×Int)):=fun(out86,v87)=>
 if(decide (v87<(s.Leases.length:Int)))=true then
  Option.bind (idx s.Leases v87) fun e94=>
  Option.bind (m_muster_row (⟨#[108,101,97,115,101]⟩:ByteArray) ([e94.No,e94.Thing,e94.To,e94.From,e94.Until]:List Int)) fun x96=>
  gd (((out86.size+x96.size:Nat):Int)≤9223372036854775807)<|
  some (.inl ((out86++x96),(W (v87+1))))
 else
  some (.inr (out86,v87))
def m_muster_Print_L6 (s:TState):(ByteArray×Int)→Option (Sum (ByteArray×Int) (ByteArray×Int)):=fun(out107,v108)=>
 if(decide (v108<(s.Loans.length:Int)))=true then
  Option.bind (idx s.Loans v108) fun e117=>
  Option.bind (m_muster_bit e117.Back) fun x119=>
  Option.bind (m_muster_row (⟨#[108,111,97,110]⟩:ByteArray) ([e117.Owner,e117.No,e117.Thing,e117.From,e117.Until,x119]:List Int)) fun x121=>
  gd (((out107.size+x121.size:Nat):Int)≤9223372036854775807)<|
  some (.inl ((out107++x121),(W (v108+1))))
 else
  some (.inr (out107,v108))
def m_muster_Print (s:TState):Option (ByteArray×Int):=
 Option.bind (loopF (m_muster_Print_L1 s) (false,0)) fun(some_13,v14)=>
 if(!some_13)=true then
  some ((⟨#[]⟩:ByteArray),90)
 else
  Option.bind (m_muster_row (⟨#[114,111,117,110,100]⟩:ByteArray) ([s.Round]:List Int)) fun x16=>
  Option.bind (loopF (m_muster_Print_L2 s) (x16,0)) fun(out35,v36)=>
  Option.bind (loopF (m_muster_Print_L3 s) (out35,0)) fun(out60,v61)=>
  Option.bind (loopF (m_muster_Print_L4 s) (out60,0)) fun(out79,v80)=>
  Option.bind (loopF (m_muster_Print_L5 s) (out79,0)) fun(out98,v99)=>
  Option.bind (loopF (m_muster_Print_L6 s) (out98,0)) fun(out123,v124)=>
  some (out123,0)
theorem d_muster_Print (s:TState) (r:(ByteArray×Int)) (hm:m_muster_Print s=some r):Does Tryz.prog 69 [.agg (TState.c s)] (fun x=>x= .tup [.v (.string r.1),DI r.2]):=by
 refine zy pl69 [] [] [] Tryz.func69 rfl ?_
 obtain⟨ev1030,he,hk1031⟩:=bd_some hm
 refine LoopY.ofL (m_muster_Print_L1 s) (fun(some_3,v4)=>⟨[(0, .agg (TState.c s)),(1, .own 0 0),(2, .v (.string (⟨#[]⟩:ByteArray))),(3,DI 0),(4,DB some_3),(17,DI v4)], [(0, .blk (TState.c s) 28)],1⟩) (false,0) (SubY.of 1 rfl (tA rfl) ⟨hR rfl,trivial⟩) he ?_
 rintro fu1032 ⟨some_3,v4⟩ b hm hi1033
 apply vb hm<;>intro _ hm
 apply vb hm<;>intro _ hm
 cases hm
 exact⟨(_,(true,(W (v4+1)))),SubY.of 1 rfl (tA rfl) ⟨hR rfl,trivial⟩,hi1033,Nat.lt_succ_self _⟩
 refine cy hm (d_muster_isState v4 s) fun x1036 hm=> ?_
 cases hm
 exact⟨(_,(x1036,(W (v4+1)))),SubY.of 1 rfl (tA rfl) ⟨hR rfl,trivial⟩,hi1033,Nat.lt_succ_self _⟩
 cases hm
 cases hi1033
 have hm:=hk1031
 apply vb hm<;>intro _ hm
 cases hm
 exact RetY.le (leD.refl _)
 refine⟨([s.Round]:List Int).flatMap cI,([s.Round]:List Int).length,⟨rfl,rfl⟩, ?_⟩
 refine co hm (d_muster_row ((⟨#[114,111,117,110,100]⟩:ByteArray)) (([s.Round]:List Int))) fun x1039 hm=> ?_
 obtain⟨ev1552,he,hk1553⟩:=bd_some hm
 refine LoopY.ofL (m_muster_Print_L2 s) (fun(out1046,v1047)=>⟨[(0, .agg (TState.c s)),(1, .own 0 0),(2, .v (.string (⟨#[]⟩:ByteArray))),(3,DI 0),(4,DB some_3),(6, .v (.string out1046)),(17,DI v4),(18,DB (decide (v4<6))),(28,DB (!some_3)),(34,lD 4 s.Slots TSlot.c),(35,DI (s.Slots.length:Int)),(36,DI v1047)], [(0, .blk (TState.c s) 28),(1,rE 1 ([s.Round]:List Int) cI 3)],2⟩) (x1039,0) (SubY.of 2 rfl (tA rfl) ⟨hR rfl,hW rfl,trivial⟩) he ?_
 rintro fu1554 ⟨out1046,v1047⟩ b hm hi1555
 apply vb hm<;>intro _ hm
 obtain⟨e1557,hx1558,hm⟩:=bd_some hm
 refine⟨_,el_idx (fun _=>rfl) hx1558, ?_⟩
 refine⟨([e1557.Night,e1557.Promised,e1557.Ballot,e1557.Value]:List Int).flatMap cI,([e1557.Night,e1557.Promised,e1557.Ballot,e1557.Value]:List Int).length,⟨rfl,rfl⟩, ?_⟩
 refine co hm (d_muster_row ((⟨#[115,108,111,116]⟩:ByteArray)) (([e1557.Night,e1557.Promised,e1557.Ballot,e1557.Value]:List Int))) fun x1559 hm=> ?_
 obtain⟨hg,hm⟩:=gd_some hm
 refine⟨hg, ?_⟩
 cases hm
 exact⟨(_,((out1046++x1559),(W (v1047+1)))),SubY.of 2 rfl (tA rfl) ⟨hR rfl,hW rfl,trivial⟩,hi1555,Nat.lt_succ_self _⟩
 cases hm
 cases hi1555
 have hm:=hk1553
 obtain⟨ev1814,he,hk1815⟩:=bd_some hm
 refine LoopY.ofL (m_muster_Print_L3 s) (fun(out1568,v1569)=>⟨[(0, .agg (TState.c s)),(1, .own 0 0),(2, .v (.string (⟨#[]⟩:ByteArray))),(3,DI 0),(4,DB some_3),(6, .v (.string out1568)),(17,DI v4),(18,DB (decide (v4<6))),(28,DB (!some_3)),(34,lD 4 s.Slots TSlot.c),(35,DI (s.Slots.length:Int)),(36,DI v1047),(37,DB (decide (v1047<(s.Slots.length:Int)))),(54,lD 6 s.Bids TBid.c),(55,DI (s.Bids.length:Int)),(56,DI v1569)], [(0, .blk (TState.c s) 28),(1,rE 1 ([s.Round]:List Int) cI 3)],2⟩) (out1046,0) (SubY.of 2 rfl (tA rfl) ⟨hR rfl,hW rfl,trivial⟩) he ?_
 rintro fu1816 ⟨out1568,v1569⟩ b hm hi1817
 apply vb hm<;>intro _ hm
 obtain⟨e1819,hx1820,hm⟩:=bd_some hm
 refine⟨_,el_idx (fun _=>rfl) hx1820, ?_⟩
 refine⟨rfl, ?_⟩
 refine cy hm (d_muster_bit e1819.Asked) fun x1821 hm=> ?_
 refine⟨([e1819.Night,e1819.Ballot,e1819.Value,e1819.Best,e1819.Mask,x1821]:List Int).flatMap cI,([e1819.Night,e1819.Ballot,e1819.Value,e1819.Best,e1819.Mask,x1821]:List Int).length,⟨rfl,rfl⟩, ?_⟩
 refine co hm (d_muster_row ((⟨#[98,105,100]⟩:ByteArray)) (([e1819.Night,e1819.Ballot,e1819.Value,e1819.Best,e1819.Mask,x1821]:List Int))) fun x1823 hm=> ?_
 obtain⟨hg,hm⟩:=gd_some hm
 refine⟨hg, ?_⟩
 cases hm
 exact⟨(_,((out1568++x1823),(W (v1569+1)))),SubY.of 2 rfl (tA rfl) ⟨hR rfl,hW rfl,trivial⟩,hi1817,Nat.lt_succ_self _⟩
 cases hm
 cases hi1817
 have hm:=hk1815
 obtain⟨ev1944,he,hk1945⟩:=bd_some hm
 refine LoopY.ofL (m_muster_Print_L4 s) (fun(out1830,v1831)=>⟨[(0, .agg (TState.c s)),(1, .own 0 0),(2, .v (.string (⟨#[]⟩:ByteArray))),(3,DI 0),(4,DB some_3),(6, .v (.string out1830)),(17,DI v4),(18,DB (decide (v4<6))),(28,DB (!some_3)),(34,lD 4 s.Slots TSlot.c),(35,DI (s.Slots.length:Int)),(36,DI v1047),(37,DB (decide (v1047<(s.Slots.length:Int)))),(54,lD 6 s.Bids TBid.c),(55,DI (s.Bids.length:Int)),(56,DI v1569),(57,DB (decide (v1569<(s.Bids.length:Int)))),(79,lD 4 s.Heard THeard.c),(80,DI (s.Heard.length:Int)),(81,DI v1831)], [(0, .blk (TState.c s) 28),(1,rE 1 ([s.Round]:List Int) cI 3)],2⟩) (out1568,0) (SubY.of 2 rfl (tA rfl) ⟨hR rfl,hW rfl,trivial⟩) he ?_
 rintro fu1946 ⟨out1830,v1831⟩ b hm hi1947
 apply vb hm<;>intro _ hm
 obtain⟨e1949,hx1950,hm⟩:=bd_some hm
 refine⟨_,el_idx (fun _=>rfl) hx1950, ?_⟩
 refine⟨([e1949.Night,e1949.Ballot,e1949.Value,e1949.Mask]:List Int).flatMap cI,([e1949.Night,e1949.Ballot,e1949.Value,e1949.Mask]:List Int).length,⟨rfl,rfl⟩, ?_⟩
 refine co hm (d_muster_row ((⟨#[104,101,97,114,100]⟩:ByteArray)) (([e1949.Night,e1949.Ballot,e1949.Value,e1949.Mask]:List Int))) fun x1951 hm=> ?_
 obtain⟨hg,hm⟩:=gd_some hm
 refine⟨hg, ?_⟩
 cases hm
 exact⟨(_,((out1830++x1951),(W (v1831+1)))),SubY.of 2 rfl (tA rfl) ⟨hR rfl,hW rfl,trivial⟩,hi1947,Nat.lt_succ_self _⟩
 cases hm
 cases hi1947
 have hm:=hk1945
 obtain⟨ev2008,he,hk2009⟩:=bd_some hm
 refine LoopY.ofL (m_muster_Print_L5 s) (fun(out1958,v1959)=>⟨[(0, .agg (TState.c s)),(1, .own 0 0),(2, .v (.string (⟨#[]⟩:ByteArray))),(3,DI 0),(4,DB some_3),(6, .v (.string out1958)),(17,DI v4),(18,DB (decide (v4<6))),(28,DB (!some_3)),(34,lD 4 s.Slots TSlot.c),(35,DI (s.Slots.length:Int)),(36,DI v1047),(37,DB (decide (v1047<(s.Slots.length:Int)))),(54,lD 6 s.Bids TBid.c),(55,DI (s.Bids.length:Int)),(56,DI v1569),(57,DB (decide (v1569<(s.Bids.length:Int)))),(79,lD 4 s.Heard THeard.c),(80,DI (s.Heard.length:Int)),(81,DI v1831),(82,DB (decide (v1831<(s.Heard.length:Int)))),(99,lD 5 s.Leases TLease.c),(100,DI (s.Leases.length:Int)),(101,DI v1959)], [(0, .blk (TState.c s) 28),(1,rE 1 ([s.Round]:List Int) cI 3)],2⟩) (out1830,0) (SubY.of 2 rfl (tA rfl) ⟨hR rfl,hW rfl,trivial⟩) he ?_
 rintro fu2010 ⟨out1958,v1959⟩ b hm hi2011
 apply vb hm<;>intro _ hm
 obtain⟨e2013,hx2014,hm⟩:=bd_some hm
 refine⟨_,el_idx (fun _=>rfl) hx2014, ?_⟩
 refine⟨([e2013.No,e2013.Thing,e2013.To,e2013.From,e2013.Until]:List Int).flatMap cI,([e2013.No,e2013.Thing,e2013.To,e2013.From,e2013.Until]:List Int).length,⟨rfl,rfl⟩, ?_⟩
 refine co hm (d_muster_row ((⟨#[108,101,97,115,101]⟩:ByteArray)) (([e2013.No,e2013.Thing,e2013.To,e2013.From,e2013.Until]:List Int))) fun x2015 hm=> ?_
 obtain⟨hg,hm⟩:=gd_some hm
 refine⟨hg, ?_⟩
 cases hm
 exact⟨(_,((out1958++x2015),(W (v1959+1)))),SubY.of 2 rfl (tA rfl) ⟨hR rfl,hW rfl,trivial⟩,hi2011,Nat.lt_succ_self _⟩
 cases hm
 cases hi2011
 have hm:=hk2009
 obtain⟨ev2042,he,hk2043⟩:=bd_some hm
 refine LoopY.ofL (m_muster_Print_L6 s) (fun(out2024,v2025)=>⟨[(0, .agg (TState.c s)),(1, .own 0 0),(2, .v (.string (⟨#[]⟩:ByteArray))),(3,DI 0),(4,DB some_3),(6, .v (.string out2024)),(17,DI v4),(18,DB (decide (v4<6))),(28,DB (!some_3)),(34,lD 4 s.Slots TSlot.c),(35,DI (s.Slots.length:Int)),(36,DI v1047),(37,DB (decide (v1047<(s.Slots.length:Int)))),(54,lD 6 s.Bids TBid.c),(55,DI (s.Bids.length:Int)),(56,DI v1569),(57,DB (decide (v1569<(s.Bids.length:Int)))),(79,lD 4 s.Heard THeard.c),(80,DI (s.Heard.length:Int)),(81,DI v1831),(82,DB (decide (v1831<(s.Heard.length:Int)))),(99,lD 5 s.Leases TLease.c),(100,DI (s.Leases.length:Int)),(101,DI v1959),(102,DB (decide (v1959<(s.Leases.length:Int)))),(121,lD 6 s.Loans TLoan.c),(122,DI (s.Loans.length:Int)),(123,DI v2025)], [(0, .blk (TState.c s) 28),(1,rE 1 ([s.Round]:List Int) cI 3)],2⟩) (out1958,0) (SubY.of 2 rfl (tA rfl) ⟨hR rfl,hW rfl,trivial⟩) he ?_
 rintro fu2044 ⟨out2024,v2025⟩ b hm hi2045
 apply vb hm<;>intro _ hm
 obtain⟨e2047,hx2048,hm⟩:=bd_some hm
 refine⟨_,el_idx (fun _=>rfl) hx2048, ?_⟩
 refine⟨rfl, ?_⟩
 refine cy hm (d_muster_bit e2047.Back) fun x2049 hm=> ?_
 refine⟨([e2047.Owner,e2047.No,e2047.Thing,e2047.From,e2047.Until,x2049]:List Int).flatMap cI,([e2047.Owner,e2047.No,e2047.Thing,e2047.From,e2047.Until,x2049]:List Int).length,⟨rfl,rfl⟩, ?_⟩
 refine co hm (d_muster_row ((⟨#[108,111,97,110]⟩:ByteArray)) (([e2047.Owner,e2047.No,e2047.Thing,e2047.From,e2047.Until,x2049]:List Int))) fun x2051 hm=> ?_
 obtain⟨hg,hm⟩:=gd_some hm
 refine⟨hg, ?_⟩
 cases hm
 exact⟨(_,((out2024++x2051),(W (v2025+1)))),SubY.of 2 rfl (tA rfl) ⟨hR rfl,hW rfl,trivial⟩,hi2045,Nat.lt_succ_self _⟩
 cases hm
 cases hi2045
 have hm:=hk2043
 cases hm
 exact RetY.le (leD.refl _)
def m_L09_sane:Option Bool:=
 Option.bind (m_L09_bid) fun⟨x1,x2⟩=>
 Option.bind (m_muster_Hear x1 (⟨2,5,1,4,7,0,0,0,0,0,0⟩:TCall)) fun⟨x4,x5⟩=>
 Option.bind (m_muster_Write x4) fun⟨x7,x8⟩=>
 Option.bind (m_muster_Calls x7 2) fun⟨x10,x11⟩=>
 if(!x2)=true then
  some false
 else
  if(x5 !=0)=true then
   some false
  else
   if(x8 !=0)=true then
    some false
   else
    if(x11 !=0)=true then
     some false
    else
     if((x1.Now.Bids.length:Int) !=1)=true then
      some false
     else
      if((x4.Now.Bids.length:Int) !=1)=true then
       some false
      else
       Option.bind (idx x1.Now.Bids 0) fun e19=>
       if((e19.Night==4)&&((e19.Ballot==7)&&((e19.Value==77)&&((e19.Best==0)&&((e19.Mask==14)&&(e19.Asked==false))))))=true then
        Option.bind (idx x4.Now.Bids 0) fun e22=>
        Option.bind (m_R09_SameCalls x10 ([(⟨3,1,2,4,7,0,77,0,0,0,0⟩:TCall)]:List TCall)) fun x24=>
        Option.bind (m_muster_New 2) fun⟨x26,x27⟩=>
        Option.bind (m_muster_Lend x26 8 0 100 200) fun⟨x29,x30⟩=>
        Option.bind (m_muster_Has x29 8 150) fun⟨x32,x33⟩=>
        Option.bind (m_muster_Has x29 8 200) fun⟨x35,x36⟩=>
        Option.bind (m_muster_Lend x29 8 1 150 250) fun⟨x38,x39⟩=>
        Option.bind (m_muster_Free x29 8 150 250) fun⟨x41,x42⟩=>
        Option.bind (m_muster_Print x1.Now) fun⟨x44,x45⟩=>
        if(x27==0)=true then
         if(x30==0)=true then
          if(x33==0)=true then
           if(x36==0)=true then
            if(x39==93)=true then
             if(x42==0)=true then
              if((e22.Night==4)&&((e22.Ballot==7)&&((e22.Value==77)&&((e22.Best==0)&&((e22.Mask==46)&&(e22.Asked==true))))))=true then
               if x24=true then
                if(x45==0)=true then
                 if(!x32)=true then
                  if x35=true then
                   if(x41==200)=true then
                    some (x44.toList==(⟨#[114,111,117,110,100,32,49,10,98,105,100,32,52,32,55,32,55,55,32,48,32,49,52,32,48,10]⟩:ByteArray).toList)
                   else
                    some false
                  else
                   some false
                 else
                  some false
                else
                 some false
               else
                some false
              else
               some false
             else
              if((e22.Night==4)&&((e22.Ballot==7)&&((e22.Value==77)&&((e22.Best==0)&&((e22.Mask==46)&&(e22.Asked==true))))))=true then
               if x24=true then
                some false
               else
                some false
              else
               some false
            else
             if((e22.Night==4)&&((e22.Ballot==7)&&((e22.Value==77)&&((e22.Best==0)&&((e22.Mask==46)&&(e22.Asked==true))))))=true then
              if x24=true then
               some false
              else
               some false
             else
              some false
           else
            if((e22.Night==4)&&((e22.Ballot==7)&&((e22.Value==77)&&((e22.Best==0)&&((e22.Mask==46)&&(e22.Asked==true))))))=true then
             if x24=true then
              some false
             else
              some false
            else
             some false
          else
           if((e22.Night==4)&&((e22.Ballot==7)&&((e22.Value==77)&&((e22.Best==0)&&((e22.Mask==46)&&(e22.Asked==true))))))=true then
            if x24=true then
             some false
            else
             some false
           else
            some false
         else
          if((e22.Night==4)&&((e22.Ballot==7)&&((e22.Value==77)&&((e22.Best==0)&&((e22.Mask==46)&&(e22.Asked==true))))))=true then
           if x24=true then
            some false
           else
            some false
          else
           some false
        else
         if((e22.Night==4)&&((e22.Ballot==7)&&((e22.Value==77)&&((e22.Best==0)&&((e22.Mask==46)&&(e22.Asked==true))))))=true then
          if x24=true then
           some false
          else
           some false
         else
          some false
       else
        Option.bind (m_R09_SameCalls x10 ([(⟨3,1,2,4,7,0,77,0,0,0,0⟩:TCall)]:List TCall)) fun x71=>
        Option.bind (m_muster_New 2) fun⟨x73,x74⟩=>
        Option.bind (m_muster_Lend x73 8 0 100 200) fun⟨x76,x77⟩=>
        Option.bind (m_muster_Has x76 8 150) fun⟨x79,x80⟩=>
        Option.bind (m_muster_Has x76 8 200) fun⟨x82,x83⟩=>
        Option.bind (m_muster_Lend x76 8 1 150 250) fun⟨x85,x86⟩=>
        Option.bind (m_muster_Free x76 8 150 250) fun⟨x88,x89⟩=>
        Option.bind (m_muster_Print x1.Now) fun⟨x91,x92⟩=>
        if(x74==0)=true then
         if(x77==0)=true then
          if(x80==0)=true then
           if(x83==0)=true then
            if(x86==93)=true then
             if(x89==0)=true then
              some false
             else
              some false
            else
             some false
           else
            some false
          else
           some false
         else
          some false
        else
         some false
theorem d_L09_sane (r:Bool) (hm:m_L09_sane=some r):Does Tryz.prog 20 [] (fun x=>x=DB r):=by
 refine zn Tryz.func20 rfl ?_
 refine cy hm (d_L09_bid) ?_
 rintro⟨x1,x2⟩ hm
 refine cy hm (d_muster_Hear x1 ((⟨2,5,1,4,7,0,0,0,0,0,0⟩:TCall))) ?_
 rintro⟨x4,x5⟩ hm
 refine cy hm (d_muster_Write x4) ?_
 rintro⟨x7,x8⟩ hm
 refine cy hm (d_muster_Calls x7 2) ?_
 rintro⟨x10,x11⟩ hm
 apply vb hm<;>intro _ hm
 exact hm.rr
 apply vb hm<;>intro _ hm
 exact hm.rr
 apply vb hm<;>intro _ hm
 exact hm.rr
 apply vb hm<;>intro _ hm
 exact hm.rr
 apply vb hm<;>intro _ hm
 exact hm.rr
 apply vb hm<;>intro _ hm
 exact hm.rr
 obtain⟨e19,hx20,hm⟩:=bd_some hm
 refine⟨_,el_idx (fun _=>rfl) hx20, ?_⟩
 apply vb hm<;>intro _ hm
 obtain⟨e22,hx23,hm⟩:=bd_some hm
 refine⟨_,el_idx (fun _=>rfl) hx23, ?_⟩
 refine⟨([(⟨3,1,2,4,7,0,77,0,0,0,0⟩:TCall)]:List TCall).flatMap TCall.c,([(⟨3,1,2,4,7,0,77,0,0,0,0⟩:TCall)]:List TCall).length,⟨rfl,rfl⟩, ?_⟩
 refine co hm (d_R09_SameCalls x10 (([(⟨3,1,2,4,7,0,77,0,0,0,0⟩:TCall)]:List TCall))) fun x24 hm=> ?_
 refine cy hm (d_muster_New 2) ?_
 rintro⟨x26,x27⟩ hm
 refine cy hm (d_muster_Lend x26 8 0 100 200) ?_
 rintro⟨x29,x30⟩ hm
 refine cy hm (d_muster_Has x29 8 150) ?_
 rintro⟨x32,x33⟩ hm
 refine cy hm (d_muster_Has x29 8 200) ?_
 rintro⟨x35,x36⟩ hm
 refine cy hm (d_muster_Lend x29 8 1 150 250) ?_
 rintro⟨x38,x39⟩ hm
 refine cy hm (d_muster_Free x29 8 150 250) ?_
 rintro⟨x41,x42⟩ hm
 refine cy hm (d_muster_Print x1.Now) ?_
 rintro⟨x44,x45⟩ hm
 apply vb hm<;>intro _ hm
 apply vb hm<;>intro _ hm
 apply vb hm<;>intro _ hm
 apply vb hm<;>intro _ hm
 apply vb hm<;>intro _ hm
 apply vb hm<;>intro _ hm
 apply vb hm<;>intro _ hm
 apply vb hm<;>intro _ hm
 apply vb hm<;>intro _ hm
 apply vb hm<;>intro _ hm
 apply vb hm<;>intro _ hm
 apply vb hm<;>intro _ hm
 exact hm.rr
 exact hm.rr
 exact hm.rr
 exact hm.rr
 exact hm.rr
 exact hm.rr
 exact hm.rr
 apply vb hm<;>intro _ hm
 apply vb hm<;>intro _ hm
 exact hm.rr
 exact hm.rr
 exact hm.rr
 apply vb hm<;>intro _ hm
 apply vb hm<;>intro _ hm
 exact hm.rr
 exact hm.rr
 exact hm.rr
 apply vb hm<;>intro _ hm
 apply vb hm<;>intro _ hm
 exact hm.rr
 exact hm.rr
 exact hm.rr
 apply vb hm<;>intro _ hm
 apply vb hm<;>intro _ hm
 exact hm.rr
 exact hm.rr
 exact hm.rr
 apply vb hm<;>intro _ hm
 apply vb hm<;>intro _ hm
 exact hm.rr
 exact hm.rr
 exact hm.rr
 apply vb hm<;>intro _ hm
 apply vb hm<;>intro _ hm
 exact hm.rr
 exact hm.rr
 exact hm.rr
 refine⟨([(⟨3,1,2,4,7,0,77,0,0,0,0⟩:TCall)]:List TCall).flatMap TCall.c,([(⟨3,1,2,4,7,0,77,0,0,0,0⟩:TCall)]:List TCall).length,⟨rfl,rfl⟩, ?_⟩
 refine co hm (d_R09_SameCalls x10 (([(⟨3,1,2,4,7,0,77,0,0,0,0⟩:TCall)]:List TCall))) fun x71 hm=> ?_
 refine cy hm (d_muster_New 2) ?_
 rintro⟨x73,x74⟩ hm
 refine cy hm (d_muster_Lend x73 8 0 100 200) ?_
 rintro⟨x76,x77⟩ hm
 refine cy hm (d_muster_Has x76 8 150) ?_
 rintro⟨x79,x80⟩ hm
 refine cy hm (d_muster_Has x76 8 200) ?_
 rintro⟨x82,x83⟩ hm
 refine cy hm (d_muster_Lend x76 8 1 150 250) ?_
 rintro⟨x85,x86⟩ hm
 refine cy hm (d_muster_Free x76 8 150 250) ?_
 rintro⟨x88,x89⟩ hm
 refine cy hm (d_muster_Print x1.Now) ?_
 rintro⟨x91,x92⟩ hm
 apply vb hm<;>intro _ hm
 apply vb hm<;>intro _ hm
 apply vb hm<;>intro _ hm
 apply vb hm<;>intro _ hm
 apply vb hm<;>intro _ hm
 apply vb hm<;>intro _ hm
 exact hm.rr
 exact hm.rr
 exact hm.rr
 exact hm.rr
 exact hm.rr
 exact hm.rr
 exact hm.rr
def m_L09_MusterCalls (x:TStation) (to_:Int):Option Bool:=
 Option.bind (m_muster_Write x) fun⟨x1,x2⟩=>
 Option.bind (m_R09_Write x) fun⟨x4,x5⟩=>
 Option.bind (m_muster_Fail x) fun⟨x7,x8⟩=>
 Option.bind (m_R09_Fail x) fun⟨x10,x11⟩=>
 Option.bind (m_muster_Calls x to_) fun⟨x13,x14⟩=>
 Option.bind (m_R09_Calls x to_) fun⟨x16,x17⟩=>
 Option.bind (m_R09_Same x1 x4) fun x19=>
 if x19=true then
  if(x2==x5)=true then
   Option.bind (m_R09_Same x7 x10) fun x23=>
   if x23=true then
    if(x8==x11)=true then
     Option.bind (m_R09_SameCalls x13 x16) fun x27=>
     if x27=true then
      if(x14==x17)=true then
       Option.bind (m_L09_sane) fun x31=>
       some x31
      else
       some false
     else
      some false
    else
     some false
   else
    some false
  else
   some false
 else
  some false
theorem d_L09_MusterCalls (x:TStation) (to_:Int) (r:Bool) (hm:m_L09_MusterCalls x to_=some r):Does Tryz.prog 3 [.agg (TStation.c x),DI to_] (fun x=>x=DB r):=by
 refine zn Tryz.func3 rfl ?_
 refine cy hm (d_muster_Write x) ?_
 rintro⟨x1,x2⟩ hm
 refine cy hm (d_R09_Write x) ?_
 rintro⟨x4,x5⟩ hm
 refine cy hm (d_muster_Fail x) ?_
 rintro⟨x7,x8⟩ hm
 refine cy hm (d_R09_Fail x) ?_
 rintro⟨x10,x11⟩ hm
 refine cy hm (d_muster_Calls x to_) ?_
 rintro⟨x13,x14⟩ hm
 refine cy hm (d_R09_Calls x to_) ?_
 rintro⟨x16,x17⟩ hm
 refine cy hm (d_R09_Same x1 x4) fun x19 hm=> ?_
 apply vb hm<;>intro _ hm
 apply vb hm<;>intro _ hm
 refine cy hm (d_R09_Same x7 x10) fun x23 hm=> ?_
 apply vb hm<;>intro _ hm
 apply vb hm<;>intro _ hm
 refine cy hm (d_R09_SameCalls x13 x16) fun x27 hm=> ?_
 apply vb hm<;>intro _ hm
 apply vb hm<;>intro _ hm
 refine cy hm (d_L09_sane) fun x31 hm=> ?_
 exact hm.rr
 exact hm.rr
 exact hm.rr
 exact hm.rr
 exact hm.rr
 exact hm.rr
 exact hm.rr
end Go.Proofs.YtcedmbakcchkiaaGreatDoor
