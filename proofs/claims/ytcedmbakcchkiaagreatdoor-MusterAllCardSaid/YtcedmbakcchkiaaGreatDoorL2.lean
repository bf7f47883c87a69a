/- Functions of the program as pure Lean functions, and that calls do what these say. Printed by a program out of the given form. -/
import Derived.Test.YtcedmbakcchkiaaGreatDoorL1
set_option linter.unusedVariables false
set_option linter.unusedSimpArgs false
namespace Go.Proofs.YtcedmbakcchkiaaGreatDoor
open Go Go.RowKit Go.Sx
set_option maxRecDepth 100000
set_option maxHeartbeats 20000000
def Y7 (x:a6) (c:b7):Option (a6×Int):=
 Option.bind (a1n x) fun e=>
 match e with
 | .inl x8=>
  if(x8 !=0)=true then
   some ((⟨0,(⟨0, [], [], [], [], []⟩:b5),(⟨0, [], [], [], [], []⟩:b5)⟩:a6),x8)
  else
   Option.bind (a1P c) fun x32=>
   if(!x32)=true then
    some ((⟨0,(⟨0, [], [], [], [], []⟩:b5),(⟨0, [], [], [], [], []⟩:b5)⟩:a6),91)
   else
    none
 | .inr (v9,v10,v11,v12,v13,v14,v15,v16,v17,v18,x19,x20,x21)=>
  Option.bind (a1P c) fun x35=>
  if(!x35)=true then
   some ((⟨0,(⟨0, [], [], [], [], []⟩:b5),(⟨0, [], [], [], [], []⟩:b5)⟩:a6),91)
  else
   if(c.To !=x19)=true then
    some ((⟨0,(⟨0, [], [], [], [], []⟩:b5),(⟨0, [], [], [], [], []⟩:b5)⟩:a6),91)
   else
    if(c.Kind==1)=true then
     Option.bind (a3H c v9) fun⟨v89,x90⟩=>
     if(!x90)=true then
      some ((⟨0,(⟨0, [], [], [], [], []⟩:b5),(⟨0, [], [], [], [], []⟩:b5)⟩:a6),2)
     else
      some ((⟨x19,(⟨x20,v89,v10,v11,v12,v13⟩:b5),(⟨x21,v14,v15,v16,v17,v18⟩:b5)⟩:a6),0)
    else
     if(c.Kind==2)=true then
      Option.bind (a3t c v10) fun v291=>
      some ((⟨x19,(⟨x20,v9,v291,v11,v12,v13⟩:b5),(⟨x21,v14,v15,v16,v17,v18⟩:b5)⟩:a6),0)
     else
      if(c.Kind==3)=true then
       Option.bind (a3N c v9) fun⟨v408,x409⟩=>
       if(!x409)=true then
        some ((⟨0,(⟨0, [], [], [], [], []⟩:b5),(⟨0, [], [], [], [], []⟩:b5)⟩:a6),2)
       else
        some ((⟨x19,(⟨x20,v408,v10,v11,v12,v13⟩:b5),(⟨x21,v14,v15,v16,v17,v18⟩:b5)⟩:a6),0)
      else
       if(c.Kind==4)=true then
        Option.bind (a2S c v11) fun⟨v621,x622⟩=>
        if(!x622)=true then
         some ((⟨0,(⟨0, [], [], [], [], []⟩:b5),(⟨0, [], [], [], [], []⟩:b5)⟩:a6),2)
        else
         some ((⟨x19,(⟨x20,v9,v10,v621,v12,v13⟩:b5),(⟨x21,v14,v15,v16,v17,v18⟩:b5)⟩:a6),0)
       else
        if(c.Kind==5)=true then
         Option.bind (a4i c v13) fun⟨v725,x726⟩=>
         if(!x726)=true then
          some ((⟨0,(⟨0, [], [], [], [], []⟩:b5),(⟨0, [], [], [], [], []⟩:b5)⟩:a6),2)
         else
          some ((⟨x19,(⟨x20,v9,v10,v11,v12,v725⟩:b5),(⟨x21,v14,v15,v16,v17,v18⟩:b5)⟩:a6),0)
        else
         if(c.Kind==6)=true then
          Option.bind (a5b c v12) fun v839=>
          some ((⟨x19,(⟨x20,v9,v10,v11,v839,v13⟩:b5),(⟨x21,v14,v15,v16,v17,v18⟩:b5)⟩:a6),0)
         else
          none
theorem a3E (x:a6) (c:b7) (r:(a6×Int)) (hm:Y7 x c=some r):d0 Tryz.prog 37 [.agg (a6.c x), .agg (b7.c c)] (fun x=>x= .tup [.agg (a6.c r.1),DI r.2]):=by
 refine zy c4W [99,106,149,210,211,220] [62] [61,154,155,156,157,158,159,184,188,189,208] Tryz.func37 rfl ?_
 obtain⟨ev29,he30,hm⟩:=a8 hm
 refine K4.ofZ pok ⟨[(0, .agg (a6.c x)),(1000000, .agg (a6.c x)),(1000001, .agg (b7.c c)),(1000002, .own 0 0),(1000003, .own 1 0),(1000004, .own 2 0),(1000005,DI 0)], [(0, .blk (a6.c x) 30),(1, .blk (b7.c c) 42),(2, .blk [DI 0,DI 0,nS,nS,nS,nS,nS,DI 0,nS,nS,nS,nS,nS] 30)],3⟩ (match ev29 with| .inl x8=>(⟨[(0, .agg (a6.c x)),(1, .agg (b7.c c)),(2, .own 0 0),(3, .own 1 0),(4, .own 2 0),(5,DI 0),(10, .tup [.v (.pointer none),DI x8])], [(0, .blk (a6.c x) 30),(1, .blk (b7.c c) 42),(2, .blk [DI 0,DI 0,nS,nS,nS,nS,nS,DI 0,nS,nS,nS,nS,nS] 30)],3⟩:Sy)| .inr (v9,v10,v11,v12,v13,v14,v15,v16,v17,v18,x19,x20,x21)=>(⟨[(0, .agg (a6.c x)),(1, .agg (b7.c c)),(2, .own 0 0),(3, .own 1 0),(4, .own 2 0),(5,DI 0),(10, .tup [.own 14 0,DI 0])], [(0, .blk (a6.c x) 30),(1, .blk (b7.c c) 42),(2, .blk [DI 0,DI 0,nS,nS,nS,nS,nS,DI 0,nS,nS,nS,nS,nS] 30),(4,rE 4 v9 b6.c 110),(5,rE 6 v10 c4.c 108),(6,rE 4 v11 b4.c 149),(7,rE 5 v12 a7.c 112),(8,rE 6 v13 b9.c 114),(9,rE 4 v14 b6.c 110),(10,rE 6 v15 c4.c 108),(11,rE 4 v16 b4.c 149),(12,rE 5 v17 a7.c 112),(13,rE 6 v18 b9.c 114),(14, .blk [DI x19,DI x20, .row 4 4, .row 5 6, .row 6 4, .row 7 5, .row 8 6,DI x21, .row 9 4, .row 10 6, .row 11 4, .row 12 5, .row 13 6] 102)],15⟩:Sy):Sy) b9b [99,106,149,210,211,220] [62] [61,154,155,156,157,158,159,184,188,189,208] Tryz.func61 rfl rfl rfl (c5.of 3 rfl (tA rfl) ⟨hR rfl,hR rfl,hR rfl,trivial⟩) (fun sv=> ?_) ?_
 have hm:=he30
 refine cy hm (U8 x) fun x1002 hm=> ?_
 apply vb hm<;>intro _ hm
 cases hm
 exact c5.of 3 rfl (tA rfl) ⟨hR rfl,hR rfl,hR rfl,trivial⟩
 refine⟨rfl, ?_⟩
 obtain⟨x1005,hx1006,hm⟩:=a8 hm
 refine .inr (a8W.mk ⟨_,_,L3 x.Now _ hx1006, ?_⟩)
 obtain⟨x1007,hx1008,hm⟩:=a8 hm
 refine .inr (a8W.mk ⟨_,_,L3 x.Safe _ hx1008, ?_⟩)
 cases hm
 exact c5.of 15 rfl (tA rfl) ⟨hR rfl,hR rfl,hR rfl,hW rfl,hW rfl,hW rfl,hW rfl,hW rfl,hW rfl,hW rfl,hW rfl,hW rfl,hW rfl,hR rfl,trivial⟩
 rcases ev29 with x8|⟨v9,v10,v11,v12,v13,v14,v15,v16,v17,v18,x19,x20,x21⟩
 apply vb hm<;>intro _ hm
 cases hm
 exact d8.le (⟨_,rfl,⟨⟨_,rfl,⟨leD.refl _,leD.refl _,leD.nil,leD.nil,leD.nil,leD.nil,leD.nil,leD.refl _,leD.nil,leD.nil,leD.nil,leD.nil,leD.nil,trivial⟩⟩,leD.refl _,trivial⟩⟩)
 refine⟨rfl, ?_⟩
 refine cy hm (a4R c) fun x32 hm=> ?_
 apply vb hm<;>intro _ hm
 cases hm
 exact d8.le (⟨_,rfl,⟨⟨_,rfl,⟨leD.refl _,leD.refl _,leD.nil,leD.nil,leD.nil,leD.nil,leD.nil,leD.refl _,leD.nil,leD.nil,leD.nil,leD.nil,leD.nil,trivial⟩⟩,leD.refl _,trivial⟩⟩)
 cases hm
 refine⟨rfl, ?_⟩
 refine cy hm (a4R c) fun x35 hm=> ?_
 apply vb hm<;>intro _ hm
 cases hm
 exact d8.le (⟨_,rfl,⟨⟨_,rfl,⟨leD.refl _,leD.refl _,leD.nil,leD.nil,leD.nil,leD.nil,leD.nil,leD.refl _,leD.nil,leD.nil,leD.nil,leD.nil,leD.nil,trivial⟩⟩,leD.refl _,trivial⟩⟩)
 apply vb hm<;>intro _ hm
 cases hm
 exact d8.le (⟨_,rfl,⟨⟨_,rfl,⟨leD.refl _,leD.refl _,leD.nil,leD.nil,leD.nil,leD.nil,leD.nil,leD.refl _,leD.nil,leD.nil,leD.nil,leD.nil,leD.nil,trivial⟩⟩,leD.refl _,trivial⟩⟩)
 refine⟨rfl, ?_⟩
 refine a3J.det b1z ?_
 cases h39:(c.Kind==1)
 rotate_left
 replace hm:=b7O h39 hm
 refine⟨⟨3,139,by kernel_rfl,by kernel_rfl⟩,154,by simp only [a5u,h39], ?_⟩
 obtain⟨ev174,he175,hm⟩:=a8 hm
 refine K4.ofZ pok ⟨[(0, .own 14 0),(1, .agg (b7.c c)),(1000000, .agg (a6.c x)),(1000001, .agg (b7.c c)),(1000002, .own 0 0),(1000003, .own 1 0),(1000004, .own 2 0),(1000005,DI 0),(1000006, .own 14 0),(1000007,DI 0),(1000013,DB false),(1000018,DB (c.To !=x19))], [(0, .blk (a6.c x) 30),(1, .blk (b7.c c) 42),(2, .blk [DI 0,DI 0,nS,nS,nS,nS,nS,DI 0,nS,nS,nS,nS,nS] 30),(4,rE 4 v9 b6.c 110),(5,rE 6 v10 c4.c 108),(6,rE 4 v11 b4.c 149),(7,rE 5 v12 a7.c 112),(8,rE 6 v13 b9.c 114),(9,rE 4 v14 b6.c 110),(10,rE 6 v15 c4.c 108),(11,rE 4 v16 b4.c 149),(12,rE 5 v17 a7.c 112),(13,rE 6 v18 b9.c 114),(14, .blk [DI x19,DI x20, .row 4 4, .row 5 6, .row 6 4, .row 7 5, .row 8 6,DI x21, .row 9 4, .row 10 6, .row 11 4, .row 12 5, .row 13 6] 102)],15⟩ (match ev174 with|(v89,x90)=>(⟨[(0, .agg (a6.c x)),(1, .agg (b7.c c)),(2, .own 0 0),(3, .own 1 0),(4, .own 2 0),(5,DI 0),(6, .own 14 0),(7,DI 0),(13,DB false),(18,DB (c.To !=x19)),(40,DB x90)], [(0, .blk (a6.c x) 30),(1, .blk (b7.c c) 42),(2, .blk [DI 0,DI 0,nS,nS,nS,nS,nS,DI 0,nS,nS,nS,nS,nS] 30),(4,rE 4 v89 b6.c 110),(5,rE 6 v10 c4.c 108),(6,rE 4 v11 b4.c 149),(7,rE 5 v12 a7.c 112),(8,rE 6 v13 b9.c 114),(9,rE 4 v14 b6.c 110),(10,rE 6 v15 c4.c 108),(11,rE 4 v16 b4.c 149),(12,rE 5 v17 a7.c 112),(13,rE 6 v18 b9.c 114),(14, .blk [DI x19,DI x20, .row 4 4, .row 5 6, .row 6 4, .row 7 5, .row 8 6,DI x21, .row 9 4, .row 10 6, .row 11 4, .row 12 5, .row 13 6] 102)],15⟩:Sy):Sy) c3V [99,106,149,210,211,220] [62] [61,154,155,156,157,158,159,184,188,189,208] Tryz.func154 rfl rfl rfl (c5.of 15 rfl (tA rfl) ⟨hR rfl,hR rfl,hR rfl,hW rfl,hW rfl,hW rfl,hW rfl,hW rfl,hW rfl,hW rfl,hW rfl,hW rfl,hW rfl,hR rfl,trivial⟩) (fun sv=> ?_) ?_
 have hm:=he175
 obtain⟨ev226,he227,hm⟩:=a8 hm
 refine K4.ofZ pok ⟨[(0, .own 14 0),(1,DI c.Night),(1000000, .own 14 0),(1000001, .agg (b7.c c)),(1000003, .own 15 0),(1000004,DB false),(1000030, .agg (a6.c x)),(1000031, .agg (b7.c c)),(1000032, .own 0 0),(1000033, .own 1 0),(1000034, .own 2 0),(1000035,DI 0),(1000036, .own 14 0),(1000037,DI 0),(1000043,DB false),(1000048,DB (c.To !=x19))], [(0, .blk (a6.c x) 30),(1, .blk (b7.c c) 42),(2, .blk [DI 0,DI 0,nS,nS,nS,nS,nS,DI 0,nS,nS,nS,nS,nS] 30),(4,rE 4 v9 b6.c 110),(5,rE 6 v10 c4.c 108),(6,rE 4 v11 b4.c 149),(7,rE 5 v12 a7.c 112),(8,rE 6 v13 b9.c 114),(9,rE 4 v14 b6.c 110),(10,rE 6 v15 c4.c 108),(11,rE 4 v16 b4.c 149),(12,rE 5 v17 a7.c 112),(13,rE 6 v18 b9.c 114),(14, .blk [DI x19,DI x20, .row 4 4, .row 5 6, .row 6 4, .row 7 5, .row 8 6,DI x21, .row 9 4, .row 10 6, .row 11 4, .row 12 5, .row 13 6] 102),(15, .blk (b7.c c) 42)],16⟩ (match ev226 with| .inl (v197,x198)=>(⟨[(0, .own 14 0),(1, .agg (b7.c c)),(3, .own 15 0),(4,DB false),(11, .tup [.elr 4 4 (x198).toNat 0,DB true]),(1000000, .agg (a6.c x)),(1000001, .agg (b7.c c)),(1000002, .own 0 0),(1000003, .own 1 0),(1000004, .own 2 0),(1000005,DI 0),(1000006, .own 14 0),(1000007,DI 0),(1000013,DB false),(1000018,DB (c.To !=x19))], [(0, .blk (a6.c x) 30),(1, .blk (b7.c c) 42),(2, .blk [DI 0,DI 0,nS,nS,nS,nS,nS,DI 0,nS,nS,nS,nS,nS] 30),(4,rE 4 v197 b6.c 110),(5,rE 6 v10 c4.c 108),(6,rE 4 v11 b4.c 149),(7,rE 5 v12 a7.c 112),(8,rE 6 v13 b9.c 114),(9,rE 4 v14 b6.c 110),(10,rE 6 v15 c4.c 108),(11,rE 4 v16 b4.c 149),(12,rE 5 v17 a7.c 112),(13,rE 6 v18 b9.c 114),(14, .blk [DI x19,DI x20, .row 4 4, .row 5 6, .row 6 4, .row 7 5, .row 8 6,DI x21, .row 9 4, .row 10 6, .row 11 4, .row 12 5, .row 13 6] 102),(15, .blk (b7.c c) 42)],16⟩:Sy)| .inr _=>(⟨[(0, .own 14 0),(1, .agg (b7.c c)),(3, .own 15 0),(4,DB false),(11, .tup [.v (.pointer none),DB false]),(1000000, .agg (a6.c x)),(1000001, .agg (b7.c c)),(1000002, .own 0 0),(1000003, .own 1 0),(1000004, .own 2 0),(1000005,DI 0),(1000006, .own 14 0),(1000007,DI 0),(1000013,DB false),(1000018,DB (c.To !=x19))], [(0, .blk (a6.c x) 30),(1, .blk (b7.c c) 42),(2, .blk [DI 0,DI 0,nS,nS,nS,nS,nS,DI 0,nS,nS,nS,nS,nS] 30),(4,rE 4 v9 b6.c 110),(5,rE 6 v10 c4.c 108),(6,rE 4 v11 b4.c 149),(7,rE 5 v12 a7.c 112),(8,rE 6 v13 b9.c 114),(9,rE 4 v14 b6.c 110),(10,rE 6 v15 c4.c 108),(11,rE 4 v16 b4.c 149),(12,rE 5 v17 a7.c 112),(13,rE 6 v18 b9.c 114),(14, .blk [DI x19,DI x20, .row 4 4, .row 5 6, .row 6 4, .row 7 5, .row 8 6,DI x21, .row 9 4, .row 10 6, .row 11 4, .row 12 5, .row 13 6] 102),(15, .blk (b7.c c) 42)],16⟩:Sy):Sy) [] [99,106,149,210,211,220] [62] [61,154,155,156,157,158,159,184,188,189,208] Tryz.func184 rfl rfl rfl (c5.of 16 rfl (tA rfl) ⟨hR rfl,hR rfl,hR rfl,hW rfl,hW rfl,hW rfl,hW rfl,hW rfl,hW rfl,hW rfl,hW rfl,hW rfl,hW rfl,hR rfl,hR rfl,trivial⟩) (fun sv=> ?_) ?_
 have hm:=he227
 obtain⟨ev249,he250,hm⟩:=a8 hm
 refine K4.ofZ pok ⟨[(0, .row 4 4),(1, .agg [DI c.Night,DI 0,DI 0,DI 0]),(2,DI 12),(3, .fn 136 [] []),(1000000, .own 14 0),(1000001,DI c.Night),(1000004, .v (.pointer none)),(1000005,DB false),(1000033, .own 14 0),(1000034, .agg (b7.c c)),(1000036, .own 15 0),(1000037,DB false),(1000063, .agg (a6.c x)),(1000064, .agg (b7.c c)),(1000065, .own 0 0),(1000066, .own 1 0),(1000067, .own 2 0),(1000068,DI 0),(1000069, .own 14 0),(1000070,DI 0),(1000076,DB false),(1000081,DB (c.To !=x19))], [(0, .blk (a6.c x) 30),(1, .blk (b7.c c) 42),(2, .blk [DI 0,DI 0,nS,nS,nS,nS,nS,DI 0,nS,nS,nS,nS,nS] 30),(4,rE 4 v9 b6.c 110),(5,rE 6 v10 c4.c 108),(6,rE 4 v11 b4.c 149),(7,rE 5 v12 a7.c 112),(8,rE 6 v13 b9.c 114),(9,rE 4 v14 b6.c 110),(10,rE 6 v15 c4.c 108),(11,rE 4 v16 b4.c 149),(12,rE 5 v17 a7.c 112),(13,rE 6 v18 b9.c 114),(14, .blk [DI x19,DI x20, .row 4 4, .row 5 6, .row 6 4, .row 7 5, .row 8 6,DI x21, .row 9 4, .row 10 6, .row 11 4, .row 12 5, .row 13 6] 102),(15, .blk (b7.c c) 42)],16⟩ (match ev249 with| .inl (v240,x241)=>(⟨[(0, .own 14 0),(1,DI c.Night),(4, .v (.pointer none)),(5,DB false),(18, .tup [.row 4 4,DI x241,DB true]),(1000000, .own 14 0),(1000001, .agg (b7.c c)),(1000003, .own 15 0),(1000004,DB false),(1000030, .agg (a6.c x)),(1000031, .agg (b7.c c)),(1000032, .own 0 0),(1000033, .own 1 0),(1000034, .own 2 0),(1000035,DI 0),(1000036, .own 14 0),(1000037,DI 0),(1000043,DB false),(1000048,DB (c.To !=x19))], [(0, .blk (a6.c x) 30),(1, .blk (b7.c c) 42),(2, .blk [DI 0,DI 0,nS,nS,nS,nS,nS,DI 0,nS,nS,nS,nS,nS] 30),(4,rE 4 v240 b6.c 110),(5,rE 6 v10 c4.c 108),(6,rE 4 v11 b4.c 149),(7,rE 5 v12 a7.c 112),(8,rE 6 v13 b9.c 114),(9,rE 4 v14 b6.c 110),(10,rE 6 v15 c4.c 108),(11,rE 4 v16 b4.c 149),(12,rE 5 v17 a7.c 112),(13,rE 6 v18 b9.c 114),(14, .blk [DI x19,DI x20, .bad, .row 5 6, .row 6 4, .row 7 5, .row 8 6,DI x21, .row 9 4, .row 10 6, .row 11 4, .row 12 5, .row 13 6] 102),(15, .blk (b7.c c) 42)],16⟩:Sy)| .inr _=>(⟨[(0, .own 14 0),(1,DI c.Night),(4, .v (.pointer none)),(5,DB false),(18, .tup [nS,DI 0,DB false]),(1000000, .own 14 0),(1000001, .agg (b7.c c)),(1000003, .own 15 0),(1000004,DB false),(1000030, .agg (a6.c x)),(1000031, .agg (b7.c c)),(1000032, .own 0 0),(1000033, .own 1 0),(1000034, .own 2 0),(1000035,DI 0),(1000036, .own 14 0),(1000037,DI 0),(1000043,DB false),(1000048,DB (c.To !=x19))], [(0, .blk (a6.c x) 30),(1, .blk (b7.c c) 42),(2, .blk [DI 0,DI 0,nS,nS,nS,nS,nS,DI 0,nS,nS,nS,nS,nS] 30),(4,rE 4 v9 b6.c 110),(5,rE 6 v10 c4.c 108),(6,rE 4 v11 b4.c 149),(7,rE 5 v12 a7.c 112),(8,rE 6 v13 b9.c 114),(9,rE 4 v14 b6.c 110),(10,rE 6 v15 c4.c 108),(11,rE 4 v16 b4.c 149),(12,rE 5 v17 a7.c 112),(13,rE 6 v18 b9.c 114),(14, .blk [DI x19,DI x20, .row 4 4, .row 5 6, .row 6 4, .row 7 5, .row 8 6,DI x21, .row 9 4, .row 10 6, .row 11 4, .row 12 5, .row 13 6] 102),(15, .blk (b7.c c) 42)],16⟩:Sy):Sy) [] [99,106,149,210,211,220] [62] [61,154,155,156,157,158,159,184,188,189,208] Tryz.func208 rfl rfl rfl (c5.of 16 rfl (tA rfl) ⟨hR rfl,hR rfl,hR rfl,hW rfl,hW rfl,hW rfl,hW rfl,hW rfl,hW rfl,hW rfl,hW rfl,hW rfl,hW rfl,hR rfl,hR rfl,trivial⟩) (fun sv=> ?_) ?_
 have hm:=he250
 refine co hm (G4 v9 ((⟨c.Night,0,0,0⟩:b6))) ?_
 rintro⟨x253,x254⟩ hm
 apply vb hm<;>intro _ hm
 cases hm
 exact c5.of 16 rfl (tA rfl) ⟨hR rfl,hR rfl,hR rfl,hW rfl,hW rfl,hW rfl,hW rfl,hW rfl,hW rfl,hW rfl,hW rfl,hW rfl,hW rfl,⟨_,rfl,⟨leD.refl _,leD.refl _,leD.refl _,leD.refl _,leD.refl _,leD.refl _,leD.refl _,leD.refl _,leD.refl _,leD.refl _,leD.refl _,leD.refl _,trivial⟩⟩,hR rfl,trivial⟩
 apply vb hm<;>intro _ hm
 cases hm
 exact c5.of 16 rfl (tA rfl) ⟨hR rfl,hR rfl,hR rfl,hW rfl,hW rfl,hW rfl,hW rfl,hW rfl,hW rfl,hW rfl,hW rfl,hW rfl,hW rfl,hR rfl,hR rfl,trivial⟩
 refine⟨([(⟨c.Night,0,0,0⟩:b6)]:List b6).flatMap b6.c,([(⟨c.Night,0,0,0⟩:b6)]:List b6).length,⟨rfl,rfl⟩, ?_⟩
 obtain⟨x258,hx259,hm⟩:=a8 hm
 refine .inl (a8Q.mk ⟨_,_,_,_,_,_,_,rfl,M5 v9 x253 (([(⟨c.Night,0,0,0⟩:b6)]:List b6)) _ hx259, ?_⟩)
 cases hm
 exact c5.of 16 rfl (tA rfl) ⟨hR rfl,hR rfl,hR rfl,hW rfl,hW rfl,hW rfl,hW rfl,hW rfl,hW rfl,hW rfl,hW rfl,hW rfl,hW rfl,hR rfl,hR rfl,trivial⟩
 rcases ev249 with⟨v240,x241⟩|⟨⟩
 obtain⟨e251,hx252,hm⟩:=a8 hm
 refine⟨a4v hx252, ?_⟩
 cases hm
 exact c5.of 16 rfl (tA rfl) ⟨hR rfl,hR rfl,hR rfl,hW rfl,hW rfl,hW rfl,hW rfl,hW rfl,hW rfl,hW rfl,hW rfl,hW rfl,hW rfl,hR rfl,hR rfl,trivial⟩
 cases hm
 exact c5.of 16 rfl (tA rfl) ⟨hR rfl,hR rfl,hR rfl,hW rfl,hW rfl,hW rfl,hW rfl,hW rfl,hW rfl,hW rfl,hW rfl,hW rfl,hW rfl,hR rfl,hR rfl,trivial⟩
 rcases ev226 with⟨v197,x198⟩|⟨⟩
 refine⟨rfl, ?_⟩
 obtain⟨e228,hx229,hm⟩:=a8 hm
 refine⟨_,Q0 (fun _=>rfl) hx229, ?_⟩
 apply vb hm<;>intro _ hm
 obtain⟨e231,hx232,hm⟩:=a8 hm
 refine⟨_,Q0 (fun _=>rfl) hx232,_,a0H (y:=(⟨e231.Night,c.Ballot,e231.Ballot,e231.Value⟩:b6)) (fun _=>rfl) hx232, ?_⟩
 cases hm
 exact c5.of 15 rfl (tA rfl) ⟨hR rfl,hR rfl,hR rfl,hW rfl,hW rfl,hW rfl,hW rfl,hW rfl,hW rfl,hW rfl,hW rfl,hW rfl,hW rfl,hR rfl,trivial⟩
 cases hm
 exact c5.of 15 rfl (tA rfl) ⟨hR rfl,hR rfl,hR rfl,hW rfl,hW rfl,hW rfl,hW rfl,hW rfl,hW rfl,hW rfl,hW rfl,hW rfl,hW rfl,hR rfl,trivial⟩
 refine⟨rfl, ?_⟩
 cases hm
 exact c5.of 15 rfl (tA rfl) ⟨hR rfl,hR rfl,hR rfl,hW rfl,hW rfl,hW rfl,hW rfl,hW rfl,hW rfl,hW rfl,hW rfl,hW rfl,hW rfl,hR rfl,trivial⟩
 obtain⟨v89,x90⟩:=ev174
 apply vb hm<;>intro _ hm
 cases hm
 exact d8.le (⟨_,rfl,⟨⟨_,rfl,⟨leD.refl _,leD.refl _,leD.nil,leD.nil,leD.nil,leD.nil,leD.nil,leD.refl _,leD.nil,leD.nil,leD.nil,leD.nil,leD.nil,trivial⟩⟩,leD.refl _,trivial⟩⟩)
 cases hm
 exact d8.le (leD.refl _)
 replace hm:=b7Z h39 hm
 cases h260:(c.Kind==2)
 rotate_left
 replace hm:=b7O h260 hm
 refine⟨⟨3,139,by kernel_rfl,by kernel_rfl⟩,155,by simp only [a5u,h39,h260], ?_⟩
 obtain⟨ev322,he323,hm⟩:=a8 hm
 refine K4.ofZ pok ⟨[(0, .own 14 0),(1, .agg (b7.c c)),(1000000, .agg (a6.c x)),(1000001, .agg (b7.c c)),(1000002, .own 0 0),(1000003, .own 1 0),(1000004, .own 2 0),(1000005,DI 0),(1000006, .own 14 0),(1000007,DI 0),(1000013,DB false),(1000018,DB (c.To !=x19))], [(0, .blk (a6.c x) 30),(1, .blk (b7.c c) 42),(2, .blk [DI 0,DI 0,nS,nS,nS,nS,nS,DI 0,nS,nS,nS,nS,nS] 30),(4,rE 4 v9 b6.c 110),(5,rE 6 v10 c4.c 108),(6,rE 4 v11 b4.c 149),(7,rE 5 v12 a7.c 112),(8,rE 6 v13 b9.c 114),(9,rE 4 v14 b6.c 110),(10,rE 6 v15 c4.c 108),(11,rE 4 v16 b4.c 149),(12,rE 5 v17 a7.c 112),(13,rE 6 v18 b9.c 114),(14, .blk [DI x19,DI x20, .row 4 4, .row 5 6, .row 6 4, .row 7 5, .row 8 6,DI x21, .row 9 4, .row 10 6, .row 11 4, .row 12 5, .row 13 6] 102)],15⟩ (match ev322 with|v291=>(⟨[(0, .agg (a6.c x)),(1, .agg (b7.c c)),(2, .own 0 0),(3, .own 1 0),(4, .own 2 0),(5,DI 0),(6, .own 14 0),(7,DI 0),(13,DB false),(18,DB (c.To !=x19)),(40,DB true)], [(0, .blk (a6.c x) 30),(1, .blk (b7.c c) 42),(2, .blk [DI 0,DI 0,nS,nS,nS,nS,nS,DI 0,nS,nS,nS,nS,nS] 30),(4,rE 4 v9 b6.c 110),(5,rE 6 v291 c4.c 108),(6,rE 4 v11 b4.c 149),(7,rE 5 v12 a7.c 112),(8,rE 6 v13 b9.c 114),(9,rE 4 v14 b6.c 110),(10,rE 6 v15 c4.c 108),(11,rE 4 v16 b4.c 149),(12,rE 5 v17 a7.c 112),(13,rE 6 v18 b9.c 114),(14, .blk [DI x19,DI x20, .row 4 4, .row 5 6, .row 6 4, .row 7 5, .row 8 6,DI x21, .row 9 4, .row 10 6, .row 11 4, .row 12 5, .row 13 6] 102)],15⟩:Sy):Sy) c2R [99,106,149,210,211,220] [62] [61,154,155,156,157,158,159,184,188,189,208] Tryz.func155 rfl rfl rfl (c5.of 15 rfl (tA rfl) ⟨hR rfl,hR rfl,hR rfl,hW rfl,hW rfl,hW rfl,hW rfl,hW rfl,hW rfl,hW rfl,hW rfl,hW rfl,hW rfl,hR rfl,trivial⟩) (fun sv=> ?_) ?_
 have hm:=he323
 refine co hm (I5 v10 c) fun x324 hm=> ?_
 apply vb hm<;>intro _ hm
 cases hm
 exact c5.of 15 rfl (tA rfl) ⟨hR rfl,hR rfl,hR rfl,hW rfl,hW rfl,hW rfl,hW rfl,hW rfl,hW rfl,hW rfl,hW rfl,hW rfl,hW rfl,hR rfl,trivial⟩
 obtain⟨e327,hx328,hm⟩:=a8 hm
 refine⟨a4v hx328, ?_⟩
 refine⟨rfl, ?_⟩
 obtain⟨e329,hx330,hm⟩:=a8 hm
 refine⟨_,Q0 (fun _=>rfl) hx330, ?_⟩
 apply vb hm<;>intro _ hm
 cases hm
 exact c5.of 15 rfl (tA rfl) ⟨hR rfl,hR rfl,hR rfl,hW rfl,hW rfl,hW rfl,hW rfl,hW rfl,hW rfl,hW rfl,hW rfl,hW rfl,hW rfl,hR rfl,trivial⟩
 obtain⟨e332,hx333,hm⟩:=a8 hm
 refine⟨_,Q0 (fun _=>rfl) hx333, ?_⟩
 refine cy hm (a7E e332.Mask c.From) fun x334 hm=> ?_
 apply vb hm<;>intro _ hm
 cases hm
 exact c5.of 15 rfl (tA rfl) ⟨hR rfl,hR rfl,hR rfl,hW rfl,hW rfl,hW rfl,hW rfl,hW rfl,hW rfl,hW rfl,hW rfl,hW rfl,hW rfl,hR rfl,trivial⟩
 refine⟨rfl, ?_⟩
 obtain⟨e337,hx338,hm⟩:=a8 hm
 refine⟨_,Q0 (fun _=>rfl) hx338, ?_⟩
 refine cy hm (a2D e337.Mask c.From) fun x339 hm=> ?_
 refine cy hm (V0 x339) fun x341 hm=> ?_
 obtain⟨e343,hx344,hm⟩:=a8 hm
 refine⟨_,Q0 (fun _=>rfl) hx344,_,a0H (y:=(⟨e343.Night,e343.Ballot,e343.Value,e343.Best,x339,e343.Asked⟩:c4)) (fun _=>rfl) hx344, ?_⟩
 obtain⟨e345,hx346,hm⟩:=a8 hm
 refine⟨_,a5T (fun _=>rfl) hx346 (by first|rfl|simp only [List.length_set]),_,a0H (y:=(⟨e345.Night,e345.Ballot,e345.Value,e345.Best,e345.Mask,x341⟩:c4)) (fun _=>rfl) hx346, ?_⟩
 refine⟨rfl, ?_⟩
 obtain⟨e347,hx348,hm⟩:=a8 hm
 refine⟨_,a5T (fun _=>rfl) hx348 (by first|rfl|simp only [List.length_set]), ?_⟩
 apply vb hm<;>intro _ hm
 refine⟨rfl, ?_⟩
 obtain⟨e350,hx351,hm⟩:=a8 hm
 refine⟨_,a5T (fun _=>rfl) hx351 (by first|rfl|simp only [List.length_set]),_,a0H (y:=(⟨e350.Night,e350.Ballot,e350.Value,c.Best,e350.Mask,e350.Asked⟩:c4)) (fun _=>rfl) hx351, ?_⟩
 obtain⟨e352,hx353,hm⟩:=a8 hm
 refine⟨_,a5T (fun _=>rfl) hx353 (by first|rfl|simp only [List.length_set]),_,a0H (y:=(⟨e352.Night,e352.Ballot,c.Value,e352.Best,e352.Mask,e352.Asked⟩:c4)) (fun _=>rfl) hx353, ?_⟩
 cases hm
 exact c5.of 15 rfl (tA rfl) ⟨hR rfl,hR rfl,hR rfl,hW rfl,hW rfl,hW rfl,hW rfl,hW rfl,hW rfl,hW rfl,hW rfl,hW rfl,hW rfl,hR rfl,trivial⟩
 cases hm
 exact c5.of 15 rfl (tA rfl) ⟨hR rfl,hR rfl,hR rfl,hW rfl,hW rfl,hW rfl,hW rfl,hW rfl,hW rfl,hW rfl,hW rfl,hW rfl,hW rfl,hR rfl,trivial⟩
 obtain v291:=ev322
 cases hm
 exact d8.le (leD.refl _)
 replace hm:=b7Z h260 hm
 cases h354:(c.Kind==3)
 rotate_left
 replace hm:=b7O h354 hm
 refine⟨⟨3,139,by kernel_rfl,by kernel_rfl⟩,156,by simp only [a5u,h39,h260,h354], ?_⟩
 obtain⟨ev497,he498,hm⟩:=a8 hm
 refine K4.ofZ pok ⟨[(0, .own 14 0),(1, .agg (b7.c c)),(1000000, .agg (a6.c x)),(1000001, .agg (b7.c c)),(1000002, .own 0 0),(1000003, .own 1 0),(1000004, .own 2 0),(1000005,DI 0),(1000006, .own 14 0),(1000007,DI 0),(1000013,DB false),(1000018,DB (c.To !=x19))], [(0, .blk (a6.c x) 30),(1, .blk (b7.c c) 42),(2, .blk [DI 0,DI 0,nS,nS,nS,nS,nS,DI 0,nS,nS,nS,nS,nS] 30),(4,rE 4 v9 b6.c 110),(5,rE 6 v10 c4.c 108),(6,rE 4 v11 b4.c 149),(7,rE 5 v12 a7.c 112),(8,rE 6 v13 b9.c 114),(9,rE 4 v14 b6.c 110),(10,rE 6 v15 c4.c 108),(11,rE 4 v16 b4.c 149),(12,rE 5 v17 a7.c 112),(13,rE 6 v18 b9.c 114),(14, .blk [DI x19,DI x20, .row 4 4, .row 5 6, .row 6 4, .row 7 5, .row 8 6,DI x21, .row 9 4, .row 10 6, .row 11 4, .row 12 5, .row 13 6] 102)],15⟩ (match ev497 with|(v408,x409)=>(⟨[(0, .agg (a6.c x)),(1, .agg (b7.c c)),(2, .own 0 0),(3, .own 1 0),(4, .own 2 0),(5,DI 0),(6, .own 14 0),(7,DI 0),(13,DB false),(18,DB (c.To !=x19)),(40,DB x409)], [(0, .blk (a6.c x) 30),(1, .blk (b7.c c) 42),(2, .blk [DI 0,DI 0,nS,nS,nS,nS,nS,DI 0,nS,nS,nS,nS,nS] 30),(4,rE 4 v408 b6.c 110),(5,rE 6 v10 c4.c 108),(6,rE 4 v11 b4.c 149),(7,rE 5 v12 a7.c 112),(8,rE 6 v13 b9.c 114),(9,rE 4 v14 b6.c 110),(10,rE 6 v15 c4.c 108),(11,rE 4 v16 b4.c 149),(12,rE 5 v17 a7.c 112),(13,rE 6 v18 b9.c 114),(14, .blk [DI x19,DI x20, .row 4 4, .row 5 6, .row 6 4, .row 7 5, .row 8 6,DI x21, .row 9 4, .row 10 6, .row 11 4, .row 12 5, .row 13 6] 102)],15⟩:Sy):Sy) c2Z [99,106,149,210,211,220] [62] [61,154,155,156,157,158,159,184,188,189,208] Tryz.func156 rfl rfl rfl (c5.of 15 rfl (tA rfl) ⟨hR rfl,hR rfl,hR rfl,hW rfl,hW rfl,hW rfl,hW rfl,hW rfl,hW rfl,hW rfl,hW rfl,hW rfl,hW rfl,hR rfl,trivial⟩) (fun sv=> ?_) ?_
 have hm:=he498
 obtain⟨ev549,he550,hm⟩:=a8 hm
 refine K4.ofZ pok ⟨[(0, .own 14 0),(1,DI c.Night),(1000000, .own 14 0),(1000001, .agg (b7.c c)),(1000003, .own 15 0),(1000004,DB false),(1000040, .agg (a6.c x)),(1000041, .agg (b7.c c)),(1000042, .own 0 0),(1000043, .own 1 0),(1000044, .own 2 0),(1000045,DI 0),(1000046, .own 14 0),(1000047,DI 0),(1000053,DB false),(1000058,DB (c.To !=x19))], [(0, .blk (a6.c x) 30),(1, .blk (b7.c c) 42),(2, .blk [DI 0,DI 0,nS,nS,nS,nS,nS,DI 0,nS,nS,nS,nS,nS] 30),(4,rE 4 v9 b6.c 110),(5,rE 6 v10 c4.c 108),(6,rE 4 v11 b4.c 149),(7,rE 5 v12 a7.c 112),(8,rE 6 v13 b9.c 114),(9,rE 4 v14 b6.c 110),(10,rE 6 v15 c4.c 108),(11,rE 4 v16 b4.c 149),(12,rE 5 v17 a7.c 112),(13,rE 6 v18 b9.c 114),(14, .blk [DI x19,DI x20, .row 4 4, .row 5 6, .row 6 4, .row 7 5, .row 8 6,DI x21, .row 9 4, .row 10 6, .row 11 4, .row 12 5, .row 13 6] 102),(15, .blk (b7.c c) 42)],16⟩ (match ev549 with| .inl (v520,x521)=>(⟨[(0, .own 14 0),(1, .agg (b7.c c)),(3, .own 15 0),(4,DB false),(11, .tup [.elr 4 4 (x521).toNat 0,DB true]),(1000000, .agg (a6.c x)),(1000001, .agg (b7.c c)),(1000002, .own 0 0),(1000003, .own 1 0),(1000004, .own 2 0),(1000005,DI 0),(1000006, .own 14 0),(1000007,DI 0),(1000013,DB false),(1000018,DB (c.To !=x19))], [(0, .blk (a6.c x) 30),(1, .blk (b7.c c) 42),(2, .blk [DI 0,DI 0,nS,nS,nS,nS,nS,DI 0,nS,nS,nS,nS,nS] 30),(4,rE 4 v520 b6.c 110),(5,rE 6 v10 c4.c 108),(6,rE 4 v11 b4.c 149),(7,rE 5 v12 a7.c 112),(8,rE 6 v13 b9.c 114),(9,rE 4 v14 b6.c 110),(10,rE 6 v15 c4.c 108),(11,rE 4 v16 b4.c 149),(12,rE 5 v17 a7.c 112),(13,rE 6 v18 b9.c 114),(14, .blk [DI x19,DI x20, .row 4 4, .row 5 6, .row 6 4, .row 7 5, .row 8 6,DI x21, .row 9 4, .row 10 6, .row 11 4, .row 12 5, .row 13 6] 102),(15, .blk (b7.c c) 42)],16⟩:Sy)| .inr _=>(⟨[(0, .own 14 0),(1, .agg (b7.c c)),(3, .own 15 0),(4,DB false),(11, .tup [.v (.pointer none),DB false]),(1000000, .agg (a6.c x)),(1000001, .agg (b7.c c)),(1000002, .own 0 0),(1000003, .own 1 0),(1000004, .own 2 0),(1000005,DI 0),(1000006, .own 14 0),(1000007,DI 0),(1000013,DB false),(1000018,DB (c.To !=x19))], [(0, .blk (a6.c x) 30),(1, .blk (b7.c c) 42),(2, .blk [DI 0,DI 0,nS,nS,nS,nS,nS,DI 0,nS,nS,nS,nS,nS] 30),(4,rE 4 v9 b6.c 110),(5,rE 6 v10 c4.c 108),(6,rE 4 v11 b4.c 149),(7,rE 5 v12 a7.c 112),(8,rE 6 v13 b9.c 114),(9,rE 4 v14 b6.c 110),(10,rE 6 v15 c4.c 108),(11,rE 4 v16 b4.c 149),(12,rE 5 v17 a7.c 112),(13,rE 6 v18 b9.c 114),(14, .blk [DI x19,DI x20, .row 4 4, .row 5 6, .row 6 4, .row 7 5, .row 8 6,DI x21, .row 9 4, .row 10 6, .row 11 4, .row 12 5, .row 13 6] 102),(15, .blk (b7.c c) 42)],16⟩:Sy):Sy) [] [99,106,149,210,211,220] [62] [61,154,155,156,157,158,159,184,188,189,208] Tryz.func184 rfl rfl rfl (c5.of 16 rfl (tA rfl) ⟨hR rfl,hR rfl,hR rfl,hW rfl,hW rfl,hW rfl,hW rfl,hW rfl,hW rfl,hW rfl,hW rfl,hW rfl,hW rfl,hR rfl,hR rfl,trivial⟩) (fun sv=> ?_) ?_
 have hm:=he550
 obtain⟨ev576,he577,hm⟩:=a8 hm
 refine K4.ofZ pok ⟨[(0, .row 4 4),(1, .agg [DI c.Night,DI 0,DI 0,DI 0]),(2,DI 12),(3, .fn 136 [] []),(1000000, .own 14 0),(1000001,DI c.Night),(1000004, .v (.pointer none)),(1000005,DB false),(1000033, .own 14 0),(1000034, .agg (b7.c c)),(1000036, .own 15 0),(1000037,DB false),(1000073, .agg (a6.c x)),(1000074, .agg (b7.c c)),(1000075, .own 0 0),(1000076, .own 1 0),(1000077, .own 2 0),(1000078,DI 0),(1000079, .own 14 0),(1000080,DI 0),(1000086,DB false),(1000091,DB (c.To !=x19))], [(0, .blk (a6.c x) 30),(1, .blk (b7.c c) 42),(2, .blk [DI 0,DI 0,nS,nS,nS,nS,nS,DI 0,nS,nS,nS,nS,nS] 30),(4,rE 4 v9 b6.c 110),(5,rE 6 v10 c4.c 108),(6,rE 4 v11 b4.c 149),(7,rE 5 v12 a7.c 112),(8,rE 6 v13 b9.c 114),(9,rE 4 v14 b6.c 110),(10,rE 6 v15 c4.c 108),(11,rE 4 v16 b4.c 149),(12,rE 5 v17 a7.c 112),(13,rE 6 v18 b9.c 114),(14, .blk [DI x19,DI x20, .row 4 4, .row 5 6, .row 6 4, .row 7 5, .row 8 6,DI x21, .row 9 4, .row 10 6, .row 11 4, .row 12 5, .row 13 6] 102),(15, .blk (b7.c c) 42)],16⟩ (match ev576 with| .inl (v567,x568)=>(⟨[(0, .own 14 0),(1,DI c.Night),(4, .v (.pointer none)),(5,DB false),(18, .tup [.row 4 4,DI x568,DB true]),(1000000, .own 14 0),(1000001, .agg (b7.c c)),(1000003, .own 15 0),(1000004,DB false),(1000040, .agg (a6.c x)),(1000041, .agg (b7.c c)),(1000042, .own 0 0),(1000043, .own 1 0),(1000044, .own 2 0),(1000045,DI 0),(1000046, .own 14 0),(1000047,DI 0),(1000053,DB false),(1000058,DB (c.To !=x19))], [(0, .blk (a6.c x) 30),(1, .blk (b7.c c) 42),(2, .blk [DI 0,DI 0,nS,nS,nS,nS,nS,DI 0,nS,nS,nS,nS,nS] 30),(4,rE 4 v567 b6.c 110),(5,rE 6 v10 c4.c 108),(6,rE 4 v11 b4.c 149),(7,rE 5 v12 a7.c 112),(8,rE 6 v13 b9.c 114),(9,rE 4 v14 b6.c 110),(10,rE 6 v15 c4.c 108),(11,rE 4 v16 b4.c 149),(12,rE 5 v17 a7.c 112),(13,rE 6 v18 b9.c 114),(14, .blk [DI x19,DI x20, .bad, .row 5 6, .row 6 4, .row 7 5, .row 8 6,DI x21, .row 9 4, .row 10 6, .row 11 4, .row 12 5, .row 13 6] 102),(15, .blk (b7.c c) 42)],16⟩:Sy)| .inr _=>(⟨[(0, .own 14 0),(1,DI c.Night),(4, .v (.pointer none)),(5,DB false),(18, .tup [nS,DI 0,DB false]),(1000000, .own 14 0),(1000001, .agg (b7.c c)),(1000003, .own 15 0),(1000004,DB false),(1000040, .agg (a6.c x)),(1000041, .agg (b7.c c)),(1000042, .own 0 0),(1000043, .own 1 0),(1000044, .own 2 0),(1000045,DI 0),(1000046, .own 14 0),(1000047,DI 0),(1000053,DB false),(1000058,DB (c.To !=x19))], [(0, .blk (a6.c x) 30),(1, .blk (b7.c c) 42),(2, .blk [DI 0,DI 0,nS,nS,nS,nS,nS,DI 0,nS,nS,nS,nS,nS] 30),(4,rE 4 v9 b6.c 110),(5,rE 6 v10 c4.c 108),(6,rE 4 v11 b4.c 149),(7,rE 5 v12 a7.c 112),(8,rE 6 v13 b9.c 114),(9,rE 4 v14 b6.c 110),(10,rE 6 v15 c4.c 108),(11,rE 4 v16 b4.c 149),(12,rE 5 v17 a7.c 112),(13,rE 6 v18 b9.c 114),(14, .blk [DI x19,DI x20, .row 4 4, .row 5 6, .row 6 4, .row 7 5, .row 8 6,DI x21, .row 9 4, .row 10 6, .row 11 4, .row 12 5, .row 13 6] 102),(15, .blk (b7.c c) 42)],16⟩:Sy):Sy) [] [99,106,149,210,211,220] [62] [61,154,155,156,157,158,159,184,188,189,208] Tryz.func208 rfl rfl rfl (c5.of 16 rfl (tA rfl) ⟨hR rfl,hR rfl,hR rfl,hW rfl,hW rfl,hW rfl,hW rfl,hW rfl,hW rfl,hW rfl,hW rfl,hW rfl,hW rfl,hR rfl,hR rfl,trivial⟩) (fun sv=> ?_) ?_
 have hm:=he577
 refine co hm (G4 v9 ((⟨c.Night,0,0,0⟩:b6))) ?_
 rintro⟨x580,x581⟩ hm
 apply vb hm<;>intro _ hm
 cases hm
 exact c5.of 16 rfl (tA rfl) ⟨hR rfl,hR rfl,hR rfl,hW rfl,hW rfl,hW rfl,hW rfl,hW rfl,hW rfl,hW rfl,hW rfl,hW rfl,hW rfl,⟨_,rfl,⟨leD.refl _,leD.refl _,leD.refl _,leD.refl _,leD.refl _,leD.refl _,leD.refl _,leD.refl _,leD.refl _,leD.refl _,leD.refl _,leD.refl _,trivial⟩⟩,hR rfl,trivial⟩
 apply vb hm<;>intro _ hm
 cases hm
 exact c5.of 16 rfl (tA rfl) ⟨hR rfl,hR rfl,hR rfl,hW rfl,hW rfl,hW rfl,hW rfl,hW rfl,hW rfl,hW rfl,hW rfl,hW rfl,hW rfl,hR rfl,hR rfl,trivial⟩
 refine⟨([(⟨c.Night,0,0,0⟩:b6)]:List b6).flatMap b6.c,([(⟨c.Night,0,0,0⟩:b6)]:List b6).length,⟨rfl,rfl⟩, ?_⟩
 obtain⟨x585,hx586,hm⟩:=a8 hm
 refine .inl (a8Q.mk ⟨_,_,_,_,_,_,_,rfl,M5 v9 x580 (([(⟨c.Night,0,0,0⟩:b6)]:List b6)) _ hx586, ?_⟩)
 cases hm
 exact c5.of 16 rfl (tA rfl) ⟨hR rfl,hR rfl,hR rfl,hW rfl,hW rfl,hW rfl,hW rfl,hW rfl,hW rfl,hW rfl,hW rfl,hW rfl,hW rfl,hR rfl,hR rfl,trivial⟩
 rcases ev576 with⟨v567,x568⟩|⟨⟩
 obtain⟨e578,hx579,hm⟩:=a8 hm
 refine⟨a4v hx579, ?_⟩
 cases hm
 exact c5.of 16 rfl (tA rfl) ⟨hR rfl,hR rfl,hR rfl,hW rfl,hW rfl,hW rfl,hW rfl,hW rfl,hW rfl,hW rfl,hW rfl,hW rfl,hW rfl,hR rfl,hR rfl,trivial⟩
 cases hm
 exact c5.of 16 rfl (tA rfl) ⟨hR rfl,hR rfl,hR rfl,hW rfl,hW rfl,hW rfl,hW rfl,hW rfl,hW rfl,hW rfl,hW rfl,hW rfl,hW rfl,hR rfl,hR rfl,trivial⟩
 rcases ev549 with⟨v520,x521⟩|⟨⟩
 refine⟨rfl, ?_⟩
 obtain⟨e551,hx552,hm⟩:=a8 hm
 refine⟨_,Q0 (fun _=>rfl) hx552, ?_⟩
 apply vb hm<;>intro _ hm
 refine⟨rfl, ?_⟩
 obtain⟨e554,hx555,hm⟩:=a8 hm
 refine⟨_,Q0 (fun _=>rfl) hx555,_,a0H (y:=(⟨e554.Night,c.Ballot,e554.Ballot,e554.Value⟩:b6)) (fun _=>rfl) hx555, ?_⟩
 obtain⟨e556,hx557,hm⟩:=a8 hm
 refine⟨_,a5T (fun _=>rfl) hx557 (by first|rfl|simp only [List.length_set]),_,a0H (y:=(⟨e556.Night,e556.Promised,c.Ballot,e556.Value⟩:b6)) (fun _=>rfl) hx557, ?_⟩
 obtain⟨e558,hx559,hm⟩:=a8 hm
 refine⟨_,a5T (fun _=>rfl) hx559 (by first|rfl|simp only [List.length_set]),_,a0H (y:=(⟨e558.Night,e558.Promised,e558.Ballot,c.Value⟩:b6)) (fun _=>rfl) hx559, ?_⟩
 cases hm
 exact c5.of 15 rfl (tA rfl) ⟨hR rfl,hR rfl,hR rfl,hW rfl,hW rfl,hW rfl,hW rfl,hW rfl,hW rfl,hW rfl,hW rfl,hW rfl,hW rfl,hR rfl,trivial⟩
 cases hm
 exact c5.of 15 rfl (tA rfl) ⟨hR rfl,hR rfl,hR rfl,hW rfl,hW rfl,hW rfl,hW rfl,hW rfl,hW rfl,hW rfl,hW rfl,hW rfl,hW rfl,hR rfl,trivial⟩
 refine⟨rfl, ?_⟩
 cases hm
 exact c5.of 15 rfl (tA rfl) ⟨hR rfl,hR rfl,hR rfl,hW rfl,hW rfl,hW rfl,hW rfl,hW rfl,hW rfl,hW rfl,hW rfl,hW rfl,hW rfl,hR rfl,trivial⟩
 obtain⟨v408,x409⟩:=ev497
 apply vb hm<;>intro _ hm
 cases hm
 exact d8.le (⟨_,rfl,⟨⟨_,rfl,⟨leD.refl _,leD.refl _,leD.nil,leD.nil,leD.nil,leD.nil,leD.nil,leD.refl _,leD.nil,leD.nil,leD.nil,leD.nil,leD.nil,trivial⟩⟩,leD.refl _,trivial⟩⟩)
 cases hm
 exact d8.le (leD.refl _)
 replace hm:=b7Z h354 hm
 cases h587:(c.Kind==4)
 rotate_left
 replace hm:=b7O h587 hm
 refine⟨⟨3,139,by kernel_rfl,by kernel_rfl⟩,157,by simp only [a5u,h39,h260,h354,h587], ?_⟩
 obtain⟨ev663,he664,hm⟩:=a8 hm
 refine K4.ofZ pok ⟨[(0, .own 14 0),(1, .agg (b7.c c)),(1000000, .agg (a6.c x)),(1000001, .agg (b7.c c)),(1000002, .own 0 0),(1000003, .own 1 0),(1000004, .own 2 0),(1000005,DI 0),(1000006, .own 14 0),(1000007,DI 0),(1000013,DB false),(1000018,DB (c.To !=x19))], [(0, .blk (a6.c x) 30),(1, .blk (b7.c c) 42),(2, .blk [DI 0,DI 0,nS,nS,nS,nS,nS,DI 0,nS,nS,nS,nS,nS] 30),(4,rE 4 v9 b6.c 110),(5,rE 6 v10 c4.c 108),(6,rE 4 v11 b4.c 149),(7,rE 5 v12 a7.c 112),(8,rE 6 v13 b9.c 114),(9,rE 4 v14 b6.c 110),(10,rE 6 v15 c4.c 108),(11,rE 4 v16 b4.c 149),(12,rE 5 v17 a7.c 112),(13,rE 6 v18 b9.c 114),(14, .blk [DI x19,DI x20, .row 4 4, .row 5 6, .row 6 4, .row 7 5, .row 8 6,DI x21, .row 9 4, .row 10 6, .row 11 4, .row 12 5, .row 13 6] 102)],15⟩ (match ev663 with|(v621,x622)=>(⟨[(0, .agg (a6.c x)),(1, .agg (b7.c c)),(2, .own 0 0),(3, .own 1 0),(4, .own 2 0),(5,DI 0),(6, .own 14 0),(7,DI 0),(13,DB false),(18,DB (c.To !=x19)),(40,DB x622)], [(0, .blk (a6.c x) 30),(1, .blk (b7.c c) 42),(2, .blk [DI 0,DI 0,nS,nS,nS,nS,nS,DI 0,nS,nS,nS,nS,nS] 30),(4,rE 4 v9 b6.c 110),(5,rE 6 v10 c4.c 108),(6,rE 4 v621 b4.c 149),(7,rE 5 v12 a7.c 112),(8,rE 6 v13 b9.c 114),(9,rE 4 v14 b6.c 110),(10,rE 6 v15 c4.c 108),(11,rE 4 v16 b4.c 149),(12,rE 5 v17 a7.c 112),(13,rE 6 v18 b9.c 114),(14, .blk [DI x19,DI x20, .row 4 4, .row 5 6, .row 6 4, .row 7 5, .row 8 6,DI x21, .row 9 4, .row 10 6, .row 11 4, .row 12 5, .row 13 6] 102)],15⟩:Sy):Sy) c2H [99,106,149,210,211,220] [62] [61,154,155,156,157,158,159,184,188,189,208] Tryz.func157 rfl rfl rfl (c5.of 15 rfl (tA rfl) ⟨hR rfl,hR rfl,hR rfl,hW rfl,hW rfl,hW rfl,hW rfl,hW rfl,hW rfl,hW rfl,hW rfl,hW rfl,hW rfl,hR rfl,trivial⟩) (fun sv=> ?_) ?_
 have hm:=he664
 refine⟨rfl, ?_⟩
 obtain⟨ev682,he683,hm⟩:=a8 hm
 refine K4.ofZ pok ⟨[(0, .row 6 4),(1, .agg [DI c.Night,DI c.Ballot,DI c.Value,DI 0]),(2,DI 60),(3, .fn 139 [] []),(1000000, .own 14 0),(1000001, .agg (b7.c c)),(1000003, .own 15 0),(1000004,DB false),(1000054, .agg (a6.c x)),(1000055, .agg (b7.c c)),(1000056, .own 0 0),(1000057, .own 1 0),(1000058, .own 2 0),(1000059,DI 0),(1000060, .own 14 0),(1000061,DI 0),(1000067,DB false),(1000072,DB (c.To !=x19))], [(0, .blk (a6.c x) 30),(1, .blk (b7.c c) 42),(2, .blk [DI 0,DI 0,nS,nS,nS,nS,nS,DI 0,nS,nS,nS,nS,nS] 30),(4,rE 4 v9 b6.c 110),(5,rE 6 v10 c4.c 108),(6,rE 4 v11 b4.c 149),(7,rE 5 v12 a7.c 112),(8,rE 6 v13 b9.c 114),(9,rE 4 v14 b6.c 110),(10,rE 6 v15 c4.c 108),(11,rE 4 v16 b4.c 149),(12,rE 5 v17 a7.c 112),(13,rE 6 v18 b9.c 114),(14, .blk [DI x19,DI x20, .row 4 4, .row 5 6, .row 6 4, .row 7 5, .row 8 6,DI x21, .row 9 4, .row 10 6, .row 11 4, .row 12 5, .row 13 6] 102),(15, .blk (b7.c c) 42)],16⟩ (match ev682 with| .inl (v673,x674)=>(⟨[(0, .own 14 0),(1, .agg (b7.c c)),(3, .own 15 0),(4,DB false),(22, .tup [.row 6 4,DI x674,DB true]),(1000000, .agg (a6.c x)),(1000001, .agg (b7.c c)),(1000002, .own 0 0),(1000003, .own 1 0),(1000004, .own 2 0),(1000005,DI 0),(1000006, .own 14 0),(1000007,DI 0),(1000013,DB false),(1000018,DB (c.To !=x19))], [(0, .blk (a6.c x) 30),(1, .blk (b7.c c) 42),(2, .blk [DI 0,DI 0,nS,nS,nS,nS,nS,DI 0,nS,nS,nS,nS,nS] 30),(4,rE 4 v9 b6.c 110),(5,rE 6 v10 c4.c 108),(6,rE 4 v673 b4.c 149),(7,rE 5 v12 a7.c 112),(8,rE 6 v13 b9.c 114),(9,rE 4 v14 b6.c 110),(10,rE 6 v15 c4.c 108),(11,rE 4 v16 b4.c 149),(12,rE 5 v17 a7.c 112),(13,rE 6 v18 b9.c 114),(14, .blk [DI x19,DI x20, .row 4 4, .row 5 6, .bad, .row 7 5, .row 8 6,DI x21, .row 9 4, .row 10 6, .row 11 4, .row 12 5, .row 13 6] 102),(15, .blk (b7.c c) 42)],16⟩:Sy)| .inr _=>(⟨[(0, .own 14 0),(1, .agg (b7.c c)),(3, .own 15 0),(4,DB false),(22, .tup [nS,DI 0,DB false]),(1000000, .agg (a6.c x)),(1000001, .agg (b7.c c)),(1000002, .own 0 0),(1000003, .own 1 0),(1000004, .own 2 0),(1000005,DI 0),(1000006, .own 14 0),(1000007,DI 0),(1000013,DB false),(1000018,DB (c.To !=x19))], [(0, .blk (a6.c x) 30),(1, .blk (b7.c c) 42),(2, .blk [DI 0,DI 0,nS,nS,nS,nS,nS,DI 0,nS,nS,nS,nS,nS] 30),(4,rE 4 v9 b6.c 110),(5,rE 6 v10 c4.c 108),(6,rE 4 v11 b4.c 149),(7,rE 5 v12 a7.c 112),(8,rE 6 v13 b9.c 114),(9,rE 4 v14 b6.c 110),(10,rE 6 v15 c4.c 108),(11,rE 4 v16 b4.c 149),(12,rE 5 v17 a7.c 112),(13,rE 6 v18 b9.c 114),(14, .blk [DI x19,DI x20, .row 4 4, .row 5 6, .row 6 4, .row 7 5, .row 8 6,DI x21, .row 9 4, .row 10 6, .row 11 4, .row 12 5, .row 13 6] 102),(15, .blk (b7.c c) 42)],16⟩:Sy):Sy) [] [99,106,149,210,211,220] [62] [61,154,155,156,157,158,159,184,188,189,208] Tryz.func188 rfl rfl rfl (c5.of 16 rfl (tA rfl) ⟨hR rfl,hR rfl,hR rfl,hW rfl,hW rfl,hW rfl,hW rfl,hW rfl,hW rfl,hW rfl,hW rfl,hW rfl,hW rfl,hR rfl,hR rfl,trivial⟩) (fun sv=> ?_) ?_
 have hm:=he683
 refine co hm (P2 v11 ((⟨c.Night,c.Ballot,c.Value,0⟩:b4))) ?_
 rintro⟨x699,x700⟩ hm
 apply vb hm<;>intro _ hm
 cases hm
 exact c5.of 16 rfl (tA rfl) ⟨hR rfl,hR rfl,hR rfl,hW rfl,hW rfl,hW rfl,hW rfl,hW rfl,hW rfl,hW rfl,hW rfl,hW rfl,hW rfl,⟨_,rfl,⟨leD.refl _,leD.refl _,leD.refl _,leD.refl _,leD.refl _,leD.refl _,leD.refl _,leD.refl _,leD.refl _,leD.refl _,leD.refl _,leD.refl _,trivial⟩⟩,hR rfl,trivial⟩
 apply vb hm<;>intro _ hm
 cases hm
 exact c5.of 16 rfl (tA rfl) ⟨hR rfl,hR rfl,hR rfl,hW rfl,hW rfl,hW rfl,hW rfl,hW rfl,hW rfl,hW rfl,hW rfl,hW rfl,hW rfl,hR rfl,hR rfl,trivial⟩
 refine⟨([(⟨c.Night,c.Ballot,c.Value,0⟩:b4)]:List b4).flatMap b4.c,([(⟨c.Night,c.Ballot,c.Value,0⟩:b4)]:List b4).length,⟨rfl,rfl⟩, ?_⟩
 obtain⟨x704,hx705,hm⟩:=a8 hm
 refine .inl (a8Q.mk ⟨_,_,_,_,_,_,_,rfl,Y4 v11 x699 (([(⟨c.Night,c.Ballot,c.Value,0⟩:b4)]:List b4)) _ hx705, ?_⟩)
 cases hm
 exact c5.of 16 rfl (tA rfl) ⟨hR rfl,hR rfl,hR rfl,hW rfl,hW rfl,hW rfl,hW rfl,hW rfl,hW rfl,hW rfl,hW rfl,hW rfl,hW rfl,hR rfl,hR rfl,trivial⟩
 rcases ev682 with⟨v673,x674⟩|⟨⟩
 refine⟨rfl, ?_⟩
 obtain⟨e684,hx685,hm⟩:=a8 hm
 refine⟨a4v hx685, ?_⟩
 obtain⟨e686,hx687,hm⟩:=a8 hm
 refine⟨_,Q0 (fun _=>rfl) hx687, ?_⟩
 apply vb hm<;>intro _ hm
 refine⟨rfl, ?_⟩
 obtain⟨e689,hx690,hm⟩:=a8 hm
 refine⟨a4v hx690, ?_⟩
 obtain⟨e691,hx692,hm⟩:=a8 hm
 refine⟨_,Q0 (fun _=>rfl) hx692, ?_⟩
 refine cy hm (a2D e691.Mask c.From) fun x693 hm=> ?_
 obtain⟨e695,hx696,hm⟩:=a8 hm
 refine⟨a4v hx696, ?_⟩
 obtain⟨e697,hx698,hm⟩:=a8 hm
 refine⟨_,Q0 (fun _=>rfl) hx698,_,a0H (y:=(⟨e697.Night,e697.Ballot,e697.Value,x693⟩:b4)) (fun _=>rfl) hx698, ?_⟩
 cases hm
 exact c5.of 15 rfl (tA rfl) ⟨hR rfl,hR rfl,hR rfl,hW rfl,hW rfl,hW rfl,hW rfl,hW rfl,hW rfl,hW rfl,hW rfl,hW rfl,hW rfl,hR rfl,trivial⟩
 cases hm
 exact c5.of 15 rfl (tA rfl) ⟨hR rfl,hR rfl,hR rfl,hW rfl,hW rfl,hW rfl,hW rfl,hW rfl,hW rfl,hW rfl,hW rfl,hW rfl,hW rfl,hR rfl,trivial⟩
 cases hm
 exact c5.of 15 rfl (tA rfl) ⟨hR rfl,hR rfl,hR rfl,hW rfl,hW rfl,hW rfl,hW rfl,hW rfl,hW rfl,hW rfl,hW rfl,hW rfl,hW rfl,hR rfl,trivial⟩
 obtain⟨v621,x622⟩:=ev663
 apply vb hm<;>intro _ hm
 cases hm
 exact d8.le (⟨_,rfl,⟨⟨_,rfl,⟨leD.refl _,leD.refl _,leD.nil,leD.nil,leD.nil,leD.nil,leD.nil,leD.refl _,leD.nil,leD.nil,leD.nil,leD.nil,leD.nil,trivial⟩⟩,leD.refl _,trivial⟩⟩)
 cases hm
 exact d8.le (leD.refl _)
 replace hm:=b7Z h587 hm
 cases h706:(c.Kind==5)
 rotate_left
 replace hm:=b7O h706 hm
 refine⟨⟨3,139,by kernel_rfl,by kernel_rfl⟩,158,by simp only [a5u,h39,h260,h354,h587,h706], ?_⟩
 obtain⟨ev752,he753,hm⟩:=a8 hm
 refine K4.ofZ pok ⟨[(0, .own 14 0),(1, .agg (b7.c c)),(1000000, .agg (a6.c x)),(1000001, .agg (b7.c c)),(1000002, .own 0 0),(1000003, .own 1 0),(1000004, .own 2 0),(1000005,DI 0),(1000006, .own 14 0),(1000007,DI 0),(1000013,DB false),(1000018,DB (c.To !=x19))], [(0, .blk (a6.c x) 30),(1, .blk (b7.c c) 42),(2, .blk [DI 0,DI 0,nS,nS,nS,nS,nS,DI 0,nS,nS,nS,nS,nS] 30),(4,rE 4 v9 b6.c 110),(5,rE 6 v10 c4.c 108),(6,rE 4 v11 b4.c 149),(7,rE 5 v12 a7.c 112),(8,rE 6 v13 b9.c 114),(9,rE 4 v14 b6.c 110),(10,rE 6 v15 c4.c 108),(11,rE 4 v16 b4.c 149),(12,rE 5 v17 a7.c 112),(13,rE 6 v18 b9.c 114),(14, .blk [DI x19,DI x20, .row 4 4, .row 5 6, .row 6 4, .row 7 5, .row 8 6,DI x21, .row 9 4, .row 10 6, .row 11 4, .row 12 5, .row 13 6] 102)],15⟩ (match ev752 with|(v725,x726)=>(⟨[(0, .agg (a6.c x)),(1, .agg (b7.c c)),(2, .own 0 0),(3, .own 1 0),(4, .own 2 0),(5,DI 0),(6, .own 14 0),(7,DI 0),(13,DB false),(18,DB (c.To !=x19)),(40,DB x726)], [(0, .blk (a6.c x) 30),(1, .blk (b7.c c) 42),(2, .blk [DI 0,DI 0,nS,nS,nS,nS,nS,DI 0,nS,nS,nS,nS,nS] 30),(4,rE 4 v9 b6.c 110),(5,rE 6 v10 c4.c 108),(6,rE 4 v11 b4.c 149),(7,rE 5 v12 a7.c 112),(8,rE 6 v725 b9.c 114),(9,rE 4 v14 b6.c 110),(10,rE 6 v15 c4.c 108),(11,rE 4 v16 b4.c 149),(12,rE 5 v17 a7.c 112),(13,rE 6 v18 b9.c 114),(14, .blk [DI x19,DI x20, .row 4 4, .row 5 6, .row 6 4, .row 7 5, .row 8 6,DI x21, .row 9 4, .row 10 6, .row 11 4, .row 12 5, .row 13 6] 102)],15⟩:Sy):Sy) c3U [99,106,149,210,211,220] [62] [61,154,155,156,157,158,159,184,188,189,208] Tryz.func158 rfl rfl rfl (c5.of 15 rfl (tA rfl) ⟨hR rfl,hR rfl,hR rfl,hW rfl,hW rfl,hW rfl,hW rfl,hW rfl,hW rfl,hW rfl,hW rfl,hW rfl,hW rfl,hR rfl,trivial⟩) (fun sv=> ?_) ?_
 have hm:=he753
 refine⟨rfl, ?_⟩
 obtain⟨ev771,he772,hm⟩:=a8 hm
 refine K4.ofZ pok ⟨[(0, .row 8 6),(1, .agg [DI c.From,DI c.No,DI c.Thing,DI c.Start,DI c.Until,DB false]),(2,DI 60),(3, .fn 95 [] []),(1000000, .own 14 0),(1000001, .agg (b7.c c)),(1000003, .own 15 0),(1000004,DB false),(1000038, .agg (a6.c x)),(1000039, .agg (b7.c c)),(1000040, .own 0 0),(1000041, .own 1 0),(1000042, .own 2 0),(1000043,DI 0),(1000044, .own 14 0),(1000045,DI 0),(1000051,DB false),(1000056,DB (c.To !=x19))], [(0, .blk (a6.c x) 30),(1, .blk (b7.c c) 42),(2, .blk [DI 0,DI 0,nS,nS,nS,nS,nS,DI 0,nS,nS,nS,nS,nS] 30),(4,rE 4 v9 b6.c 110),(5,rE 6 v10 c4.c 108),(6,rE 4 v11 b4.c 149),(7,rE 5 v12 a7.c 112),(8,rE 6 v13 b9.c 114),(9,rE 4 v14 b6.c 110),(10,rE 6 v15 c4.c 108),(11,rE 4 v16 b4.c 149),(12,rE 5 v17 a7.c 112),(13,rE 6 v18 b9.c 114),(14, .blk [DI x19,DI x20, .row 4 4, .row 5 6, .row 6 4, .row 7 5, .row 8 6,DI x21, .row 9 4, .row 10 6, .row 11 4, .row 12 5, .row 13 6] 102),(15, .blk (b7.c c) 42)],16⟩ (match ev771 with| .inl (v762,x763)=>(⟨[(0, .own 14 0),(1, .agg (b7.c c)),(3, .own 15 0),(4,DB false),(26, .tup [.row 8 6,DI x763,DB true]),(1000000, .agg (a6.c x)),(1000001, .agg (b7.c c)),(1000002, .own 0 0),(1000003, .own 1 0),(1000004, .own 2 0),(1000005,DI 0),(1000006, .own 14 0),(1000007,DI 0),(1000013,DB false),(1000018,DB (c.To !=x19))], [(0, .blk (a6.c x) 30),(1, .blk (b7.c c) 42),(2, .blk [DI 0,DI 0,nS,nS,nS,nS,nS,DI 0,nS,nS,nS,nS,nS] 30),(4,rE 4 v9 b6.c 110),(5,rE 6 v10 c4.c 108),(6,rE 4 v11 b4.c 149),(7,rE 5 v12 a7.c 112),(8,rE 6 v762 b9.c 114),(9,rE 4 v14 b6.c 110),(10,rE 6 v15 c4.c 108),(11,rE 4 v16 b4.c 149),(12,rE 5 v17 a7.c 112),(13,rE 6 v18 b9.c 114),(14, .blk [DI x19,DI x20, .row 4 4, .row 5 6, .row 6 4, .row 7 5, .bad,DI x21, .row 9 4, .row 10 6, .row 11 4, .row 12 5, .row 13 6] 102),(15, .blk (b7.c c) 42)],16⟩:Sy)| .inr _=>(⟨[(0, .own 14 0),(1, .agg (b7.c c)),(3, .own 15 0),(4,DB false),(26, .tup [nS,DI 0,DB false]),(1000000, .agg (a6.c x)),(1000001, .agg (b7.c c)),(1000002, .own 0 0),(1000003, .own 1 0),(1000004, .own 2 0),(1000005,DI 0),(1000006, .own 14 0),(1000007,DI 0),(1000013,DB false),(1000018,DB (c.To !=x19))], [(0, .blk (a6.c x) 30),(1, .blk (b7.c c) 42),(2, .blk [DI 0,DI 0,nS,nS,nS,nS,nS,DI 0,nS,nS,nS,nS,nS] 30),(4,rE 4 v9 b6.c 110),(5,rE 6 v10 c4.c 108),(6,rE 4 v11 b4.c 149),(7,rE 5 v12 a7.c 112),(8,rE 6 v13 b9.c 114),(9,rE 4 v14 b6.c 110),(10,rE 6 v15 c4.c 108),(11,rE 4 v16 b4.c 149),(12,rE 5 v17 a7.c 112),(13,rE 6 v18 b9.c 114),(14, .blk [DI x19,DI x20, .row 4 4, .row 5 6, .row 6 4, .row 7 5, .row 8 6,DI x21, .row 9 4, .row 10 6, .row 11 4, .row 12 5, .row 13 6] 102),(15, .blk (b7.c c) 42)],16⟩:Sy):Sy) [] [99,106,149,210,211,220] [62] [61,154,155,156,157,158,159,184,188,189,208] Tryz.func189 rfl rfl rfl (c5.of 16 rfl (tA rfl) ⟨hR rfl,hR rfl,hR rfl,hW rfl,hW rfl,hW rfl,hW rfl,hW rfl,hW rfl,hW rfl,hW rfl,hW rfl,hW rfl,hR rfl,hR rfl,trivial⟩) (fun sv=> ?_) ?_
 have hm:=he772
 refine co hm (P9 v13 ((⟨c.From,c.No,c.Thing,c.Start,c.Until,false⟩:b9))) ?_
 rintro⟨x773,x774⟩ hm
 apply vb hm<;>intro _ hm
 cases hm
 exact c5.of 16 rfl (tA rfl) ⟨hR rfl,hR rfl,hR rfl,hW rfl,hW rfl,hW rfl,hW rfl,hW rfl,hW rfl,hW rfl,hW rfl,hW rfl,hW rfl,⟨_,rfl,⟨leD.refl _,leD.refl _,leD.refl _,leD.refl _,leD.refl _,leD.refl _,leD.refl _,leD.refl _,leD.refl _,leD.refl _,leD.refl _,leD.refl _,trivial⟩⟩,hR rfl,trivial⟩
 apply vb hm<;>intro _ hm
 cases hm
 exact c5.of 16 rfl (tA rfl) ⟨hR rfl,hR rfl,hR rfl,hW rfl,hW rfl,hW rfl,hW rfl,hW rfl,hW rfl,hW rfl,hW rfl,hW rfl,hW rfl,hR rfl,hR rfl,trivial⟩
 refine⟨([(⟨c.From,c.No,c.Thing,c.Start,c.Until,false⟩:b9)]:List b9).flatMap b9.c,([(⟨c.From,c.No,c.Thing,c.Start,c.Until,false⟩:b9)]:List b9).length,⟨rfl,rfl⟩, ?_⟩
 obtain⟨x778,hx779,hm⟩:=a8 hm
 refine .inl (a8Q.mk ⟨_,_,_,_,_,_,_,rfl,a0D v13 x773 (([(⟨c.From,c.No,c.Thing,c.Start,c.Until,false⟩:b9)]:List b9)) _ hx779, ?_⟩)
 cases hm
 exact c5.of 16 rfl (tA rfl) ⟨hR rfl,hR rfl,hR rfl,hW rfl,hW rfl,hW rfl,hW rfl,hW rfl,hW rfl,hW rfl,hW rfl,hW rfl,hW rfl,hR rfl,hR rfl,trivial⟩
 rcases ev771 with⟨v762,x763⟩|⟨⟩
 cases hm
 exact c5.of 15 rfl (tA rfl) ⟨hR rfl,hR rfl,hR rfl,hW rfl,hW rfl,hW rfl,hW rfl,hW rfl,hW rfl,hW rfl,hW rfl,hW rfl,hW rfl,hR rfl,trivial⟩
 cases hm
 exact c5.of 15 rfl (tA rfl) ⟨hR rfl,hR rfl,hR rfl,hW rfl,hW rfl,hW rfl,hW rfl,hW rfl,hW rfl,hW rfl,hW rfl,hW rfl,hW rfl,hR rfl,trivial⟩
 obtain⟨v725,x726⟩:=ev752
 apply vb hm<;>intro _ hm
 cases hm
 exact d8.le (⟨_,rfl,⟨⟨_,rfl,⟨leD.refl _,leD.refl _,leD.nil,leD.nil,leD.nil,leD.nil,leD.nil,leD.refl _,leD.nil,leD.nil,leD.nil,leD.nil,leD.nil,trivial⟩⟩,leD.refl _,trivial⟩⟩)
 cases hm
 exact d8.le (leD.refl _)
 replace hm:=b7Z h706 hm
 cases h780:(c.Kind==6)
 rotate_left
 replace hm:=b7O h780 hm
 refine⟨⟨3,139,by kernel_rfl,by kernel_rfl⟩,159,by simp only [a5u,h39,h260,h354,h587,h706,h780], ?_⟩
 obtain⟨ev920,he921,hm⟩:=a8 hm
 refine K4.ofZ pok ⟨[(0, .own 14 0),(1, .agg (b7.c c)),(1000000, .agg (a6.c x)),(1000001, .agg (b7.c c)),(1000002, .own 0 0),(1000003, .own 1 0),(1000004, .own 2 0),(1000005,DI 0),(1000006, .own 14 0),(1000007,DI 0),(1000013,DB false),(1000018,DB (c.To !=x19))], [(0, .blk (a6.c x) 30),(1, .blk (b7.c c) 42),(2, .blk [DI 0,DI 0,nS,nS,nS,nS,nS,DI 0,nS,nS,nS,nS,nS] 30),(4,rE 4 v9 b6.c 110),(5,rE 6 v10 c4.c 108),(6,rE 4 v11 b4.c 149),(7,rE 5 v12 a7.c 112),(8,rE 6 v13 b9.c 114),(9,rE 4 v14 b6.c 110),(10,rE 6 v15 c4.c 108),(11,rE 4 v16 b4.c 149),(12,rE 5 v17 a7.c 112),(13,rE 6 v18 b9.c 114),(14, .blk [DI x19,DI x20, .row 4 4, .row 5 6, .row 6 4, .row 7 5, .row 8 6,DI x21, .row 9 4, .row 10 6, .row 11 4, .row 12 5, .row 13 6] 102)],15⟩ (match ev920 with|v839=>(⟨[(0, .agg (a6.c x)),(1, .agg (b7.c c)),(2, .own 0 0),(3, .own 1 0),(4, .own 2 0),(5,DI 0),(6, .own 14 0),(7,DI 0),(13,DB false),(18,DB (c.To !=x19)),(40,DB true)], [(0, .blk (a6.c x) 30),(1, .blk (b7.c c) 42),(2, .blk [DI 0,DI 0,nS,nS,nS,nS,nS,DI 0,nS,nS,nS,nS,nS] 30),(4,rE 4 v9 b6.c 110),(5,rE 6 v10 c4.c 108),(6,rE 4 v11 b4.c 149),(7,rE 5 v839 a7.c 112),(8,rE 6 v13 b9.c 114),(9,rE 4 v14 b6.c 110),(10,rE 6 v15 c4.c 108),(11,rE 4 v16 b4.c 149),(12,rE 5 v17 a7.c 112),(13,rE 6 v18 b9.c 114),(14, .blk [DI x19,DI x20, .row 4 4, .row 5 6, .row 6 4, .row 7 5, .row 8 6,DI x21, .row 9 4, .row 10 6, .row 11 4, .row 12 5, .row 13 6] 102)],15⟩:Sy):Sy) c4v [99,106,149,210,211,220] [62] [61,154,155,156,157,158,159,184,188,189,208] Tryz.func159 rfl rfl rfl (c5.of 15 rfl (tA rfl) ⟨hR rfl,hR rfl,hR rfl,hW rfl,hW rfl,hW rfl,hW rfl,hW rfl,hW rfl,hW rfl,hW rfl,hW rfl,hW rfl,hR rfl,trivial⟩) (fun sv=> ?_) ?_
 have hm:=he921
 obtain⟨ev980,he,hk981⟩:=a8 hm
 refine q9.ofL (Y5 c v12) (fun(v940,v941)=>⟨[(0, .own 14 0),(1, .agg (b7.c c)),(3, .own 15 0),(4,DB false),(13,DI (v12.length:Int)),(14,DI v940),(1000000, .agg (a6.c x)),(1000001, .agg (b7.c c)),(1000002, .own 0 0),(1000003, .own 1 0),(1000004, .own 2 0),(1000005,DI 0),(1000006, .own 14 0),(1000007,DI 0),(1000013,DB false),(1000018,DB (c.To !=x19))], [(0, .blk (a6.c x) 30),(1, .blk (b7.c c) 42),(2, .blk [DI 0,DI 0,nS,nS,nS,nS,nS,DI 0,nS,nS,nS,nS,nS] 30),(4,rE 4 v9 b6.c 110),(5,rE 6 v10 c4.c 108),(6,rE 4 v11 b4.c 149),(7,rE 5 v941 a7.c 112),(8,rE 6 v13 b9.c 114),(9,rE 4 v14 b6.c 110),(10,rE 6 v15 c4.c 108),(11,rE 4 v16 b4.c 149),(12,rE 5 v17 a7.c 112),(13,rE 6 v18 b9.c 114),(14, .blk [DI x19,DI x20, .row 4 4, .row 5 6, .row 6 4, .row 7 5, .row 8 6,DI x21, .row 9 4, .row 10 6, .row 11 4, .row 12 5, .row 13 6] 102),(15, .blk (b7.c c) 42)],16⟩) (0,v12) (c5.of 16 rfl (tA rfl) ⟨hR rfl,hR rfl,hR rfl,hW rfl,hW rfl,hW rfl,hW rfl,hW rfl,hW rfl,hW rfl,hW rfl,hW rfl,hW rfl,hR rfl,hR rfl,trivial⟩) he ?_
 rintro fu982 ⟨v940,v941⟩ b hm hi983
 apply vb hm<;>intro _ hm
 obtain⟨e985,hx986,hm⟩:=a8 hm
 refine⟨a4v hx986, ?_⟩
 refine⟨rfl, ?_⟩
 obtain⟨e987,hx988,hm⟩:=a8 hm
 refine⟨_,Q0 (fun _=>rfl) hx988, ?_⟩
 apply vb hm<;>intro _ hm
 obtain⟨e990,hx991,hm⟩:=a8 hm
 refine⟨_,Q0 (fun _=>rfl) hx991, ?_⟩
 apply vb hm<;>intro _ hm
 obtain⟨e993,hx994,hm⟩:=a8 hm
 refine⟨_,Q0 (fun _=>rfl) hx994, ?_⟩
 apply vb hm<;>intro _ hm
 refine⟨rfl, ?_⟩
 obtain⟨e996,hx997,hm⟩:=a8 hm
 refine⟨_,Q0 (fun _=>rfl) hx997, ?_⟩
 obtain⟨e998,hx999,hm⟩:=a8 hm
 refine⟨_,Q0 (fun _=>rfl) hx999, ?_⟩
 obtain⟨e1000,hx1001,hm⟩:=a8 hm
 refine⟨_,Q0 (fun _=>rfl) hx1001,_,a0H (y:=(⟨e1000.No,e1000.Thing,e1000.To,e1000.From,(if(if e998.From>c.Until then e998.From else c.Until)<e996.Until then(if e998.From>c.Until then e998.From else c.Until)else e996.Until)⟩:a7)) (fun _=>rfl) hx1001, ?_⟩
 cases hm
 exact⟨(_,((W (v940+1)),(v941.set v940.toNat (⟨e1000.No,e1000.Thing,e1000.To,e1000.From,(if(if e998.From>c.Until then e998.From else c.Until)<e996.Until then(if e998.From>c.Until then e998.From else c.Until)else e996.Until)⟩:a7)))),c5.of 16 rfl (tA rfl) ⟨hR rfl,hR rfl,hR rfl,hW rfl,hW rfl,hW rfl,hW rfl,hW rfl,hW rfl,hW rfl,hW rfl,hW rfl,hW rfl,hR rfl,hR rfl,trivial⟩,hi983,Nat.lt_succ_self _⟩
 cases hm
 exact⟨(_,((W (v940+1)),v941)),c5.of 16 rfl (tA rfl) ⟨hR rfl,hR rfl,hR rfl,hW rfl,hW rfl,hW rfl,hW rfl,hW rfl,hW rfl,hW rfl,hW rfl,hW rfl,hW rfl,hR rfl,hR rfl,trivial⟩,hi983,Nat.lt_succ_self _⟩
 cases hm
 exact⟨(_,((W (v940+1)),v941)),c5.of 16 rfl (tA rfl) ⟨hR rfl,hR rfl,hR rfl,hW rfl,hW rfl,hW rfl,hW rfl,hW rfl,hW rfl,hW rfl,hW rfl,hW rfl,hW rfl,hR rfl,hR rfl,trivial⟩,hi983,Nat.lt_succ_self _⟩
 cases hm
 exact⟨(_,((W (v940+1)),v941)),c5.of 16 rfl (tA rfl) ⟨hR rfl,hR rfl,hR rfl,hW rfl,hW rfl,hW rfl,hW rfl,hW rfl,hW rfl,hW rfl,hW rfl,hW rfl,hW rfl,hR rfl,hR rfl,trivial⟩,hi983,Nat.lt_succ_self _⟩
 cases hm
 cases hi983
 have hm:=hk981
 cases hm
 exact c5.of 15 rfl (tA rfl) ⟨hR rfl,hR rfl,hR rfl,hW rfl,hW rfl,hW rfl,hW rfl,hW rfl,hW rfl,hW rfl,hW rfl,hW rfl,hW rfl,hR rfl,trivial⟩
 obtain v839:=ev920
 cases hm
 exact d8.le (leD.refl _)
 replace hm:=b7Z h780 hm
 cases hm
def X9 (l:a7) (c_0:Int) (c_1:Int):Option Bool:=
 if(l.Thing==c_0)=true then
  if(decide (l.From≤c_1))=true then
   some (decide (c_1<l.Until))
  else
   some false
 else
  some false
theorem a6h (l:a7) (c_0:Int) (c_1:Int) (r:Bool) (hm:X9 l c_0 c_1=some r):d0 Tryz.prog 164 [.agg (a7.c l), .ptr [DI c_0] 0, .ptr [DI c_1] 0] (fun x=>x=DB r):=by
 refine zn Tryz.func164 rfl ?_
 apply vb hm<;>intro _ hm
 apply vb hm<;>intro _ hm
 exact hm.rr
 exact hm.rr
 exact hm.rr
def v6 (s:(List a7)) (c1_0:Int) (c1_1:Int):Int→Option (Sum Int (Sum Int Int)):=fun v7=>
 if(decide (v7<(s.length:Int)))=true then
  Option.bind (idx s v7) fun e15=>
  Option.bind (X9 e15 c1_0 c1_1) fun x17=>
  if x17=true then
   some (.inr (.inr v7))
  else
   some (.inl (W (v7+1)))
 else
  some (.inr (.inl v7))
def y7 (s:(List a7)) (c1_0:Int) (c1_1:Int):Option Int:=
 Option.bind (l5 (v6 s c1_0 c1_1) 0) fun e=>
 match e with
 | .inl v20=>
  some (-1)
 | .inr rr21=>
  some rr21
theorem I6 (s:(List a7)) (c1_0:Int) (c1_1:Int) (r:Int) (hm:y7 s c1_0 c1_1=some r):d0 Tryz.prog 179 [lD 5 s a7.c, .fn 164 [] [.ptr [DI c1_0] 0, .ptr [DI c1_1] 0]] (fun x=>x=DI r):=by
 refine zn Tryz.func179 rfl ?_
 obtain⟨ev22,he,hk23⟩:=a8 hm
 refine q9.ofL (v6 s c1_0 c1_1) (fun v7=>⟨[(0,lD 5 s a7.c),(1, .fn 164 [] [.ptr [DI c1_0] 0, .ptr [DI c1_1] 0]),(4,DI 0),(7,DI (s.length:Int)),(8,DI v7)], [],0⟩) 0 (c5.of 0 rfl (tA rfl) trivial) he ?_
 rintro fu24 v7 b hm hi25
 apply vb hm<;>intro _ hm
 obtain⟨e27,hx28,hm⟩:=a8 hm
 refine⟨_,c8 (fun _=>rfl) hx28, ?_⟩
 refine cy hm (a6h e27 c1_0 c1_1) fun x29 hm=> ?_
 apply vb hm<;>intro _ hm
 cases hm
 cases hi25
 have hm:=hk23
 exact hm.rr
 cases hm
 exact⟨(_,(W (v7+1))),c5.of 0 rfl (tA rfl) trivial,hi25,Nat.lt_succ_self _⟩
 cases hm
 cases hi25
 have hm:=hk23
 exact hm.rr
def u6 (s:(List a7)) (c1_0:Int) (c1_1:Int):Option Bool:=
 Option.bind (y7 s c1_0 c1_1) fun x1=>
 some (decide (x1≥0))
theorem H8 (s:(List a7)) (c1_0:Int) (c1_1:Int) (r:Bool) (hm:u6 s c1_0 c1_1=some r):d0 Tryz.prog 143 [lD 5 s a7.c, .fn 164 [] [.ptr [DI c1_0] 0, .ptr [DI c1_1] 0]] (fun x=>x=DB r):=by
 refine zn Tryz.func143 rfl ?_
 refine cy hm (I6 s c1_0 c1_1) fun x1 hm=> ?_
 exact hm.rr
def X7 (l:b9) (c_0:Int) (c_1:Int):Option Bool:=
 if(l.Thing==c_0)=true then
  if(decide (l.From≤c_1))=true then
   some (decide (c_1<l.Until))
  else
   some false
 else
  some false
theorem a6f (l:b9) (c_0:Int) (c_1:Int) (r:Bool) (hm:X7 l c_0 c_1=some r):d0 Tryz.prog 166 [.agg (b9.c l), .ptr [DI c_0] 0, .ptr [DI c_1] 0] (fun x=>x=DB r):=by
 refine zn Tryz.func166 rfl ?_
 apply vb hm<;>intro _ hm
 apply vb hm<;>intro _ hm
 exact hm.rr
 exact hm.rr
 exact hm.rr
def y5 (s:(List b9)) (c1_0:Int) (c1_1:Int):Int→Option (Sum Int (Sum Int Int)):=fun v7=>
 if(decide (v7<(s.length:Int)))=true then
  Option.bind (idx s v7) fun e15=>
  Option.bind (X7 e15 c1_0 c1_1) fun x17=>
  if x17=true then
   some (.inr (.inr v7))
  else
   some (.inl (W (v7+1)))
 else
  some (.inr (.inl v7))
def A9 (s:(List b9)) (c1_0:Int) (c1_1:Int):Option Int:=
 Option.bind (l5 (y5 s c1_0 c1_1) 0) fun e=>
 match e with
 | .inl v20=>
  some (-1)
 | .inr rr21=>
  some rr21
theorem J3 (s:(List b9)) (c1_0:Int) (c1_1:Int) (r:Int) (hm:A9 s c1_0 c1_1=some r):d0 Tryz.prog 190 [lD 6 s b9.c, .fn 166 [] [.ptr [DI c1_0] 0, .ptr [DI c1_1] 0]] (fun x=>x=DI r):=by
 refine zn Tryz.func190 rfl ?_
 obtain⟨ev22,he,hk23⟩:=a8 hm
 refine q9.ofL (y5 s c1_0 c1_1) (fun v7=>⟨[(0,lD 6 s b9.c),(1, .fn 166 [] [.ptr [DI c1_0] 0, .ptr [DI c1_1] 0]),(4,DI 0),(7,DI (s.length:Int)),(8,DI v7)], [],0⟩) 0 (c5.of 0 rfl (tA rfl) trivial) he ?_
 rintro fu24 v7 b hm hi25
 apply vb hm<;>intro _ hm
 obtain⟨e27,hx28,hm⟩:=a8 hm
 refine⟨_,c8 (fun _=>rfl) hx28, ?_⟩
 refine cy hm (a6f e27 c1_0 c1_1) fun x29 hm=> ?_
 apply vb hm<;>intro _ hm
 cases hm
 cases hi25
 have hm:=hk23
 exact hm.rr
 cases hm
 exact⟨(_,(W (v7+1))),c5.of 0 rfl (tA rfl) trivial,hi25,Nat.lt_succ_self _⟩
 cases hm
 cases hi25
 have hm:=hk23
 exact hm.rr
def y4 (s:(List b9)) (c1_0:Int) (c1_1:Int):Option Bool:=
 Option.bind (A9 s c1_0 c1_1) fun x1=>
 some (decide (x1≥0))
theorem I2 (s:(List b9)) (c1_0:Int) (c1_1:Int) (r:Bool) (hm:y4 s c1_0 c1_1=some r):d0 Tryz.prog 165 [lD 6 s b9.c, .fn 166 [] [.ptr [DI c1_0] 0, .ptr [DI c1_1] 0]] (fun x=>x=DB r):=by
 refine zn Tryz.func165 rfl ?_
 refine cy hm (J3 s c1_0 c1_1) fun x1 hm=> ?_
 exact hm.rr
def N7 (p:e8) (thing:Int) (moment:Int):Option Bool:=
 Option.bind (c9 thing) fun x1=>
 if(x1==p.Station.Me)=true then
  Option.bind (u6 p.Station.Now.Leases thing moment) fun x4=>
  some (!x4)
 else
  Option.bind (y4 p.Station.Now.Loans thing moment) fun x6=>
  some x6
theorem a3g (p:e8) (thing:Int) (moment:Int) (r:Bool) (hm:N7 p thing moment=some r):d0 Tryz.prog 98 [.ptr (e8.c p) 0,DI thing,DI moment] (fun x=>x=DB r):=by
 refine zy c4B [] [] [] Tryz.func98 rfl ?_
 refine⟨rfl, ?_⟩
 refine cy hm (e9 thing) fun x1 hm=> ?_
 apply vb hm<;>intro _ hm
 refine co hm (H8 p.Station.Now.Leases thing moment) fun x4 hm=> ?_
 exact hm.rr
 refine co hm (I2 p.Station.Now.Loans thing moment) fun x6 hm=> ?_
 exact hm.rr
def R5 (x:a6) (thing:Int) (moment:Int):Option (Bool×Int):=
 Option.bind (K8 x) fun⟨x1,x2⟩=>
 b2Y x1 (
  if(x2 !=0)=true then
   some (false,x2)
  else
   Option.bind (s5 thing) fun x6=>
   if(!x6)=true then
    some (false,1)
   else
    Option.bind (d6 moment) fun x9=>
    if(!x9)=true then
     some (false,95)
    else
     none) fun p4=>
 if(x2 !=0)=true then
  some (false,x2)
 else
  Option.bind (s5 thing) fun x13=>
  if(!x13)=true then
   some (false,1)
  else
   Option.bind (d6 moment) fun x16=>
   if(!x16)=true then
    some (false,95)
   else
    Option.bind (N7 p4 thing moment) fun x19=>
    some (x19,0)
theorem a2a (x:a6) (thing:Int) (moment:Int) (r:(Bool×Int)) (hm:R5 x thing moment=some r):d0 Tryz.prog 41 [.agg (a6.c x),DI thing,DI moment] (fun x=>x= .tup [DB r.1,DI r.2]):=by
 refine zn Tryz.func41 rfl ?_
 refine cy hm (a1y x) ?_
 rintro⟨x1,x2⟩ hm
 rcases x1 with _|p4
 replace hm:=a7x hm
 apply vb hm<;>intro _ hm
 cases hm
 exact d8.le (leD.refl _)
 refine cy hm (B9 thing) fun x6 hm=> ?_
 apply vb hm<;>intro _ hm
 cases hm
 exact d8.le (leD.refl _)
 refine cy hm (j6 moment) fun x9 hm=> ?_
 apply vb hm<;>intro _ hm
 cases hm
 exact d8.le (leD.refl _)
 cases hm
 replace hm:=a7j hm
 apply vb hm<;>intro _ hm
 cases hm
 exact d8.le (leD.refl _)
 refine cy hm (B9 thing) fun x13 hm=> ?_
 apply vb hm<;>intro _ hm
 cases hm
 exact d8.le (leD.refl _)
 refine cy hm (j6 moment) fun x16 hm=> ?_
 apply vb hm<;>intro _ hm
 cases hm
 exact d8.le (leD.refl _)
 refine cy hm (a3g p4 thing moment) fun x19 hm=> ?_
 cases hm
 exact d8.le (leD.refl _)
def E9 (x:List Int):Option (List Int):=gd (x.length<4611686018427387904) (some (a4g x))
theorem a1b (x r:List Int) (hm:E9 x=some r):b9i Tryz.prog 99 1 x.length (x.flatMap cI) 3 [] r.length (r.flatMap cI):=by
 obtain⟨hg,hm⟩:=i4 hm
 cases hm
 exact b7m b9R x 3 hg
def a1t (thing:Int) (from_:Int) (p4:e8):(Int×(List Int))→Option (Sum (Int×(List Int)) (Int×(List Int))):=fun(v34,v35)=>
 if(decide (v34<(p4.Station.Now.Leases.length:Int)))=true then
  Option.bind (idx p4.Station.Now.Leases v34) fun e42=>
  if(e42.Thing==thing)=true then
   if(decide (e42.Until>from_))=true then
    gd ((v35.length+([e42.Until]:List Int).length)*8≤140737488355328∧v35.length+([e42.Until]:List Int).length≤9223372036854775807)<|
    some (.inl ((W (v34+1)),(v35++([e42.Until]:List Int))))
   else
    some (.inl ((W (v34+1)),v35))
  else
   some (.inl ((W (v34+1)),v35))
 else
  some (.inr (v34,v35))
def a1l (thing:Int) (from_:Int) (until_:Int) (p4:e8) (x49:(List Int)):Int→Option (Sum Int (Sum Int (Int×Int))):=fun v61=>
 if(decide (v61<(x49.length:Int)))=true then
  Option.bind (idx x49 v61) fun e74=>
  Option.bind (idx x49 v61) fun e76=>
  Option.bind (d6 (W ((W (e76+until_))-from_))) fun x78=>
  if x78=true then
   Option.bind (a0h p4 (⟨0,thing,0,e76,(W ((W (e76+until_))-from_))⟩:a7)) fun x81=>
   if(!x81)=true then
    some (.inr (.inr (e76,0)))
   else
    some (.inl (W (v61+1)))
  else
   some (.inl (W (v61+1)))
 else
  some (.inr (.inl v61))
def Y6 (x:a6) (thing:Int) (from_:Int) (until_:Int):Option (Int×Int):=
 Option.bind (K8 x) fun⟨x1,x2⟩=>
 b2Y x1 (
  if(x2 !=0)=true then
   some (0,x2)
  else
   Option.bind (s5 thing) fun x6=>
   if(!x6)=true then
    some (0,1)
   else
    Option.bind (d6 from_) fun x9=>
    if(!x9)=true then
     some (0,95)
    else
     Option.bind (d6 until_) fun x12=>
     if(!x12)=true then
      some (0,95)
     else
      none) fun p4=>
 if(x2 !=0)=true then
  some (0,x2)
 else
  Option.bind (s5 thing) fun x16=>
  if(!x16)=true then
   some (0,1)
  else
   Option.bind (d6 from_) fun x19=>
   if(!x19)=true then
    some (0,95)
   else
    Option.bind (d6 until_) fun x22=>
    if(!x22)=true then
     some (0,95)
    else
     Option.bind (c9 thing) fun x25=>
     if(x25 !=p4.Station.Me)=true then
      some (0,92)
     else
      if(decide (from_>until_))=true then
       some (0,95)
      else
       Option.bind (l5 (a1t thing from_ p4) (0,([from_]:List Int))) fun(v46,v47)=>
       Option.bind (E9 v47) fun x49=>
       Option.bind (l5 (a1l thing from_ until_ p4 x49) 0) fun e=>
       match e with
       | .inl v84=>
        some (0,3)
       | .inr rr85=>
        some rr85
theorem a6l (x:a6) (thing:Int) (from_:Int) (until_:Int) (r:(Int×Int)) (hm:Y6 x thing from_ until_=some r):d0 Tryz.prog 42 [.agg (a6.c x),DI thing,DI from_,DI until_] (fun x=>x= .tup [DI r.1,DI r.2]):=by
 refine zy c5d [99,106,149,210,211,220] [] [] Tryz.func42 rfl ?_
 refine cy hm (a1y x) ?_
 rintro⟨x1,x2⟩ hm
 rcases x1 with _|p4
 replace hm:=a7x hm
 apply vb hm<;>intro _ hm
 cases hm
 exact d8.le (leD.refl _)
 refine cy hm (B9 thing) fun x6 hm=> ?_
 apply vb hm<;>intro _ hm
 cases hm
 exact d8.le (leD.refl _)
 refine cy hm (j6 from_) fun x9 hm=> ?_
 apply vb hm<;>intro _ hm
 cases hm
 exact d8.le (leD.refl _)
 refine cy hm (j6 until_) fun x12 hm=> ?_
 apply vb hm<;>intro _ hm
 cases hm
 exact d8.le (leD.refl _)
 refine⟨rfl, ?_⟩
 cases hm
 replace hm:=a7j hm
 apply vb hm<;>intro _ hm
 cases hm
 exact d8.le (leD.refl _)
 refine cy hm (B9 thing) fun x16 hm=> ?_
 apply vb hm<;>intro _ hm
 cases hm
 exact d8.le (leD.refl _)
 refine cy hm (j6 from_) fun x19 hm=> ?_
 apply vb hm<;>intro _ hm
 cases hm
 exact d8.le (leD.refl _)
 refine cy hm (j6 until_) fun x22 hm=> ?_
 apply vb hm<;>intro _ hm
 cases hm
 exact d8.le (leD.refl _)
 refine⟨rfl, ?_⟩
 refine cy hm (e9 thing) fun x25 hm=> ?_
 apply vb hm<;>intro _ hm
 cases hm
 exact d8.le (leD.refl _)
 apply vb hm<;>intro _ hm
 cases hm
 exact d8.le (leD.refl _)
 refine⟨([from_]:List Int).flatMap cI,([from_]:List Int).length,⟨rfl,rfl⟩, ?_⟩
 obtain⟨ev101,he,hk102⟩:=a8 hm
 refine q9.ofL (a1t thing from_ p4) (fun(v34,v35)=>⟨[(0, .agg (a6.c x)),(1,DI thing),(2,DI from_),(3,DI until_),(4, .own 0 0),(8,DI 0),(9,DI 0),(10, .ptr (e8.c p4) 0),(11,DI x2),(12, .row 1 1),(23,DB (x2 !=0)),(27,DB (!x16)),(31,DB (!x22)),(40,DB (x25 !=p4.Station.Me)),(49,DB (decide (from_>until_))),(60,lD 5 p4.Station.Now.Leases a7.c),(61,DI (p4.Station.Now.Leases.length:Int)),(62,DI v34)], [(0, .blk (a6.c x) 30),(1,rE 1 v35 cI 3)],2⟩) (0,([from_]:List Int)) (c5.of 2 rfl (tA rfl) ⟨hR rfl,hW rfl,trivial⟩) he ?_
 rintro fu103 ⟨v34,v35⟩ b hm hi104
 apply vb hm<;>intro _ hm
 obtain⟨e106,hx107,hm⟩:=a8 hm
 refine⟨_,c8 (fun _=>rfl) hx107, ?_⟩
 apply vb hm<;>intro _ hm
 apply vb hm<;>intro _ hm
 refine⟨([e106.Until]:List Int).flatMap cI,([e106.Until]:List Int).length,⟨rfl,rfl⟩, ?_⟩
 obtain⟨hg,hm⟩:=i4 hm
 refine⟨hg,_,_,G8 (c:=cI) (l:=(v35:List Int)) (r:=(([e106.Until]:List Int):List Int)), ?_⟩
 cases hm
 exact⟨(_,((W (v34+1)),(v35++([e106.Until]:List Int)))),c5.of 2 rfl (tA rfl) ⟨hR rfl,hW rfl,trivial⟩,hi104,Nat.lt_succ_self _⟩
 cases hm
 exact⟨(_,((W (v34+1)),v35)),c5.of 2 rfl (tA rfl) ⟨hR rfl,hW rfl,trivial⟩,hi104,Nat.lt_succ_self _⟩
 cases hm
 exact⟨(_,((W (v34+1)),v35)),c5.of 2 rfl (tA rfl) ⟨hR rfl,hW rfl,trivial⟩,hi104,Nat.lt_succ_self _⟩
 cases hm
 cases hi104
 have hm:=hk102
 obtain⟨x111,hx110,hm⟩:=a8 hm
 refine .inr (b6K.mk ⟨_,_,_,_,_,_,rfl,a1b v35 _ hx110, ?_⟩)
 obtain⟨ev148,he,hk149⟩:=a8 hm
 refine q9.ofL (a1l thing from_ until_ p4 x111) (fun v123=>⟨[(0, .agg (a6.c x)),(1,DI thing),(2,DI from_),(3,DI until_),(4, .own 0 0),(8,DI 0),(9,DI 0),(10, .ptr (e8.c p4) 0),(11,DI x2),(12, .row 1 1),(23,DB (x2 !=0)),(27,DB (!x16)),(31,DB (!x22)),(40,DB (x25 !=p4.Station.Me)),(49,DB (decide (from_>until_))),(60,lD 5 p4.Station.Now.Leases a7.c),(61,DI (p4.Station.Now.Leases.length:Int)),(62,DI v34),(63,DB (decide (v34<(p4.Station.Now.Leases.length:Int)))),(84, .row 1 1),(85,DI (x111.length:Int)),(86,DI v123)], [(0, .blk (a6.c x) 30),(1,rE 1 x111 cI 3)],2⟩) 0 (c5.of 2 rfl (tA rfl) ⟨hR rfl,hW rfl,trivial⟩) he ?_
 rintro fu150 v123 b hm hi151
 apply vb hm<;>intro _ hm
 obtain⟨e153,hx154,hm⟩:=a8 hm
 refine⟨a4v hx154, ?_⟩
 obtain⟨e155,hx156,hm⟩:=a8 hm
 refine⟨_,Q0 (fun _=>rfl) hx156, ?_⟩
 refine cy hm (j6 (W ((W (e155+until_))-from_))) fun x157 hm=> ?_
 apply vb hm<;>intro _ hm
 refine cy hm (a2P p4 ((⟨0,thing,0,e155,(W ((W (e155+until_))-from_))⟩:a7))) fun x160 hm=> ?_
 apply vb hm<;>intro _ hm
 cases hm
 cases hi151
 have hm:=hk149
 cases hm
 exact d8.le (leD.refl _)
 cases hm
 exact⟨(_,(W (v123+1))),c5.of 2 rfl (tA rfl) ⟨hR rfl,hW rfl,trivial⟩,hi151,Nat.lt_succ_self _⟩
 cases hm
 exact⟨(_,(W (v123+1))),c5.of 2 rfl (tA rfl) ⟨hR rfl,hW rfl,trivial⟩,hi151,Nat.lt_succ_self _⟩
 cases hm
 cases hi151
 have hm:=hk149
 cases hm
 exact d8.le (leD.refl _)
def P0 (s:(List c4)) (i:Int) (v:(List c4)):Option (List c4):=
 gd (0≤i∧i.toNat≤s.length)<|
 if((v.length:Int)==0)=true then
  some s
 else
  if(i==(s.length:Int))=true then
   gd ((s.length+v.length)*48≤140737488355328∧s.length+v.length≤9223372036854775807)<|
   some (s++v)
  else
   gd (0≤i∧i.toNat<s.length∧0<v.length∧(s.length+v.length)*48≤140737488355328∧s.length+v.length≤9223372036854775807) (some (s.take i.toNat++v++s.drop i.toNat))
theorem a0Z (s:(List c4)) (i:Int) (v:(List c4)) (r:(List c4)) (hm:P0 s i v=some r):a7N Tryz.prog 149 6 s.length (s.flatMap c4.c) 108 [DI i,lD 6 v c4.c] 6 r.length (r.flatMap c4.c):=by
 obtain⟨hg0,hm⟩:=i4 hm
 refine a5W (X:=⟨Tryz.prog,tt,Tryz.f149.ntmps, [], [], [], [], [], []⟩) (t:=23) (tI:=3) (tB:=4) (ov:=181) (ty:=108) (args:= [lD 6 v c4.c]) pok Tryz.func149 rfl rfl .mk .mk (Nat.le_of_ble_eq_true rfl) hg0 rfl rfl rfl rfl rfl rfl (by kernel_rfl) ⟨⟨_,4,Tryz.func181,by kernel_rfl,by kernel_rfl,by kernel_rfl,by kernel_rfl⟩⟩ (by decide) ?_
 apply vb hm<;>intro _ hm
 cases hm
 exact⟨rfl,rfl⟩
 apply vb hm<;>intro _ hm
 obtain⟨hg,hm⟩:=i4 hm
 refine⟨hg,_,_,G8 (c:=c4.c) (l:=(s:List c4)) (r:=(v:List c4)), ?_⟩
 cases hm
 exact⟨rfl,rfl⟩
 obtain⟨hg,hm⟩:=i4 hm
 cases hm
 exact b6L (fun _=>rfl) hg
def q0 (x:(List c4)) (target:c4):(Int×Int)→Option (Sum (Int×Int) (Int×Int)):=fun(i7,j8)=>
 if(decide (i7<j8))=true then
  Option.bind (idx x (W ((IntKind.u64.wrap (W (i7+j8))).fdiv (2^(min (1:Int).toNat IntKind.u64.bits))))) fun e16=>
  Option.bind (G7 e16 target) fun x18=>
  if(decide (x18<0))=true then
   some (.inl ((W ((W ((IntKind.u64.wrap (W (i7+j8))).fdiv (2^(min (1:Int).toNat IntKind.u64.bits))))+1)),j8))
  else
   some (.inl (i7,(W ((IntKind.u64.wrap (W (i7+j8))).fdiv (2^(min (1:Int).toNat IntKind.u64.bits))))))
 else
  some (.inr (i7,j8))
def q8 (x:(List c4)) (target:c4):Option (Int×Bool):=
 Option.bind (l5 (q0 x target) (0,(x.length:Int))) fun(i21,j22)=>
 if(decide (i21<(x.length:Int)))=true then
  Option.bind (idx x i21) fun e24=>
  Option.bind (G7 e24 target) fun x26=>
  some (i21,(x26==0))
 else
  some (i21,false)
theorem E8 (x:(List c4)) (target:c4) (r:(Int×Bool)) (hm:q8 x target=some r):d0 Tryz.prog 180 [lD 6 x c4.c, .agg (c4.c target), .fn 89 [] []] (fun x=>x= .tup [DI r.1,DB r.2]):=by
 refine zy c4f [] [] [] Tryz.func180 rfl ?_
 obtain⟨ev28,he,hk29⟩:=a8 hm
 refine q9.ofL (q0 x target) (fun(i7,j8)=>⟨[(0,lD 6 x c4.c),(1, .agg (c4.c target)),(2, .fn 89 [] []),(4, .own 0 0),(6,DI 0),(7,DB false),(8,DI (x.length:Int)),(9,DI i7),(10,DI j8)], [(0, .blk (c4.c target) 108)],1⟩) (0,(x.length:Int)) (c5.of 1 rfl (tA rfl) ⟨hR rfl,trivial⟩) he ?_
 rintro fu30 ⟨i7,j8⟩ b hm hi31
 apply vb hm<;>intro _ hm
 refine⟨by decide, ?_⟩
 refine⟨rfl, ?_⟩
 obtain⟨e33,hx34,hm⟩:=a8 hm
 refine⟨_,c8 (fun _=>rfl) hx34, ?_⟩
 refine cy hm (V8 e33 target) fun x35 hm=> ?_
 apply vb hm<;>intro _ hm
 cases hm
 exact⟨(_,((W ((W ((IntKind.u64.wrap (W (i7+j8))).fdiv (2^(min (1:Int).toNat IntKind.u64.bits))))+1)),j8)),c5.of 1 rfl (tA rfl) ⟨hR rfl,trivial⟩,hi31,Nat.lt_succ_self _⟩
 cases hm
 exact⟨(_,(i7,(W ((IntKind.u64.wrap (W (i7+j8))).fdiv (2^(min (1:Int).toNat IntKind.u64.bits)))))),c5.of 1 rfl (tA rfl) ⟨hR rfl,trivial⟩,hi31,Nat.lt_succ_self _⟩
 cases hm
 cases hi31
 have hm:=hk29
 refine⟨rfl, ?_⟩
 apply vb hm<;>intro _ hm
 obtain⟨e39,hx40,hm⟩:=a8 hm
 refine⟨_,c8 (fun _=>rfl) hx40, ?_⟩
 refine cy hm (V8 e39 target) fun x41 hm=> ?_
 cases hm
 exact d8.le (leD.refl _)
 cases hm
 exact d8.le (leD.refl _)
def H6 (l:(List c4)) (x:c4):Option (Int×Bool):=
 Option.bind (q8 l x) fun⟨x1,x2⟩=>
 some (x1,x2)
theorem R8 (l:(List c4)) (x:c4) (r:(Int×Bool)) (hm:H6 l x=some r):d0 Tryz.prog 148 [lD 6 l c4.c, .agg (c4.c x), .fn 89 [] []] (fun x=>x= .tup [DI r.1,DB r.2]):=by
 refine zn Tryz.func148 rfl ?_
 refine cy hm (E8 l x) ?_
 rintro⟨x1,x2⟩ hm
 cases hm
 exact d8.le (leD.refl _)
def a4a (night:Int) (value:Int) (v10:(List c4)) (x19:Int) (x20:Int):Option (Sum ((List c4)×Int) Unit):=
 Option.bind (H6 v10 (⟨night,(W ((W (6*(W (x20+1))))+x19)),value,0,0,false⟩:c4)) fun⟨x54,x55⟩=>
 if x55=true then
  some (.inl (v10,x54))
 else
  if((v10.length:Int)==12)=true then
   some (.inr ())
  else
   Option.bind (P0 v10 x54 ([(⟨night,(W ((W (6*(W (x20+1))))+x19)),value,0,0,false⟩:c4)]:List c4)) fun x59=>
   some (.inl (x59,x54))
def a3W (x:a6) (night:Int) (value:Int):Option (a6×Int):=
 Option.bind (a1n x) fun e=>
 match e with
 | .inl x8=>
  if(x8 !=0)=true then
   some ((⟨0,(⟨0, [], [], [], [], []⟩:b5),(⟨0, [], [], [], [], []⟩:b5)⟩:a6),x8)
  else
   Option.bind (o4 night) fun x32=>
   if(!x32)=true then
    some ((⟨0,(⟨0, [], [], [], [], []⟩:b5),(⟨0, [], [], [], [], []⟩:b5)⟩:a6),6)
   else
    Option.bind (i0 value) fun x35=>
    if(!x35)=true then
     some ((⟨0,(⟨0, [], [], [], [], []⟩:b5),(⟨0, [], [], [], [], []⟩:b5)⟩:a6),1)
    else
     none
 | .inr (v9,v10,v11,v12,v13,v14,v15,v16,v17,v18,x19,x20,x21)=>
  Option.bind (o4 night) fun x38=>
  if(!x38)=true then
   some ((⟨0,(⟨0, [], [], [], [], []⟩:b5),(⟨0, [], [], [], [], []⟩:b5)⟩:a6),6)
  else
   Option.bind (i0 value) fun x41=>
   if(!x41)=true then
    some ((⟨0,(⟨0, [], [], [], [], []⟩:b5),(⟨0, [], [], [], [], []⟩:b5)⟩:a6),1)
   else
    if(x20==9999)=true then
     some ((⟨0,(⟨0, [], [], [], [], []⟩:b5),(⟨0, [], [], [], [], []⟩:b5)⟩:a6),2)
    else
     Option.bind (a4a night value v10 x19 x20) fun e=>
     match e with
     | .inl (v52,x53)=>
      Option.bind (idx v52 x53) fun e63=>
      Option.bind (idx v52 x53) fun e65=>
      some ((⟨x19,(⟨(W (x20+1)),v9,(v52.set x53.toNat (⟨night,(W ((W (6*(W (x20+1))))+x19)),value,0,0,false⟩:c4)),v11,v12,v13⟩:b5),(⟨x21,v14,v15,v16,v17,v18⟩:b5)⟩:a6),0)
     | .inr _=>
      some ((⟨0,(⟨0, [], [], [], [], []⟩:b5),(⟨0, [], [], [], [], []⟩:b5)⟩:a6),2)
theorem a8o (x:a6) (night:Int) (value:Int) (r:(a6×Int)) (hm:a3W x night value=some r):d0 Tryz.prog 31 [.agg (a6.c x),DI night,DI value] (fun x=>x= .tup [.agg (a6.c r.1),DI r.2]):=by
 refine zy c4F [99,106,149,210,211,220] [62] [61,88] Tryz.func31 rfl ?_
 obtain⟨ev29,he30,hm⟩:=a8 hm
 refine K4.ofZ pok ⟨[(0, .agg (a6.c x)),(1000000, .agg (a6.c x)),(1000001,DI night),(1000002,DI value),(1000003, .own 0 0),(1000006, .own 1 0),(1000007,DI 0)], [(0, .blk (a6.c x) 30),(1, .blk [DI 0,DI 0,nS,nS,nS,nS,nS,DI 0,nS,nS,nS,nS,nS] 30)],2⟩ (match ev29 with| .inl x8=>(⟨[(0, .agg (a6.c x)),(1,DI night),(2,DI value),(3, .own 0 0),(6, .own 1 0),(7,DI 0),(16, .tup [.v (.pointer none),DI x8])], [(0, .blk (a6.c x) 30),(1, .blk [DI 0,DI 0,nS,nS,nS,nS,nS,DI 0,nS,nS,nS,nS,nS] 30)],2⟩:Sy)| .inr (v9,v10,v11,v12,v13,v14,v15,v16,v17,v18,x19,x20,x21)=>(⟨[(0, .agg (a6.c x)),(1,DI night),(2,DI value),(3, .own 0 0),(6, .own 1 0),(7,DI 0),(16, .tup [.own 13 0,DI 0])], [(0, .blk (a6.c x) 30),(1, .blk [DI 0,DI 0,nS,nS,nS,nS,nS,DI 0,nS,nS,nS,nS,nS] 30),(3,rE 4 v9 b6.c 110),(4,rE 6 v10 c4.c 108),(5,rE 4 v11 b4.c 149),(6,rE 5 v12 a7.c 112),(7,rE 6 v13 b9.c 114),(8,rE 4 v14 b6.c 110),(9,rE 6 v15 c4.c 108),(10,rE 4 v16 b4.c 149),(11,rE 5 v17 a7.c 112),(12,rE 6 v18 b9.c 114),(13, .blk [DI x19,DI x20, .row 3 4, .row 4 6, .row 5 4, .row 6 5, .row 7 6,DI x21, .row 8 4, .row 9 6, .row 10 4, .row 11 5, .row 12 6] 102)],14⟩:Sy):Sy) b9b [99,106,149,210,211,220] [62] [61,88] Tryz.func61 rfl rfl rfl (c5.of 2 rfl (tA rfl) ⟨hR rfl,hR rfl,trivial⟩) (fun sv=> ?_) ?_
 have hm:=he30
 refine cy hm (U8 x) fun x74 hm=> ?_
 apply vb hm<;>intro _ hm
 cases hm
 exact c5.of 2 rfl (tA rfl) ⟨hR rfl,hR rfl,trivial⟩
 refine⟨rfl, ?_⟩
 obtain⟨x77,hx78,hm⟩:=a8 hm
 refine .inr (a8W.mk ⟨_,_,L3 x.Now _ hx78, ?_⟩)
 obtain⟨x79,hx80,hm⟩:=a8 hm
 refine .inr (a8W.mk ⟨_,_,L3 x.Safe _ hx80, ?_⟩)
 cases hm
 exact c5.of 14 rfl (tA rfl) ⟨hR rfl,hR rfl,hW rfl,hW rfl,hW rfl,hW rfl,hW rfl,hW rfl,hW rfl,hW rfl,hW rfl,hW rfl,hR rfl,trivial⟩
 rcases ev29 with x8|⟨v9,v10,v11,v12,v13,v14,v15,v16,v17,v18,x19,x20,x21⟩
 apply vb hm<;>intro _ hm
 cases hm
 exact d8.le (⟨_,rfl,⟨⟨_,rfl,⟨leD.refl _,leD.refl _,leD.nil,leD.nil,leD.nil,leD.nil,leD.nil,leD.refl _,leD.nil,leD.nil,leD.nil,leD.nil,leD.nil,trivial⟩⟩,leD.refl _,trivial⟩⟩)
 refine cy hm (r7 night) fun x32 hm=> ?_
 apply vb hm<;>intro _ hm
 cases hm
 exact d8.le (⟨_,rfl,⟨⟨_,rfl,⟨leD.refl _,leD.refl _,leD.nil,leD.nil,leD.nil,leD.nil,leD.nil,leD.refl _,leD.nil,leD.nil,leD.nil,leD.nil,leD.nil,trivial⟩⟩,leD.refl _,trivial⟩⟩)
 refine cy hm (j4 value) fun x35 hm=> ?_
 apply vb hm<;>intro _ hm
 cases hm
 exact d8.le (⟨_,rfl,⟨⟨_,rfl,⟨leD.refl _,leD.refl _,leD.nil,leD.nil,leD.nil,leD.nil,leD.nil,leD.refl _,leD.nil,leD.nil,leD.nil,leD.nil,leD.nil,trivial⟩⟩,leD.refl _,trivial⟩⟩)
 cases hm
 refine cy hm (r7 night) fun x38 hm=> ?_
 apply vb hm<;>intro _ hm
 cases hm
 exact d8.le (⟨_,rfl,⟨⟨_,rfl,⟨leD.refl _,leD.refl _,leD.nil,leD.nil,leD.nil,leD.nil,leD.nil,leD.refl _,leD.nil,leD.nil,leD.nil,leD.nil,leD.nil,trivial⟩⟩,leD.refl _,trivial⟩⟩)
 refine cy hm (j4 value) fun x41 hm=> ?_
 apply vb hm<;>intro _ hm
 cases hm
 exact d8.le (⟨_,rfl,⟨⟨_,rfl,⟨leD.refl _,leD.refl _,leD.nil,leD.nil,leD.nil,leD.nil,leD.nil,leD.refl _,leD.nil,leD.nil,leD.nil,leD.nil,leD.nil,trivial⟩⟩,leD.refl _,trivial⟩⟩)
 apply vb hm<;>intro _ hm
 cases hm
 exact d8.le (⟨_,rfl,⟨⟨_,rfl,⟨leD.refl _,leD.refl _,leD.nil,leD.nil,leD.nil,leD.nil,leD.nil,leD.refl _,leD.nil,leD.nil,leD.nil,leD.nil,leD.nil,trivial⟩⟩,leD.refl _,trivial⟩⟩)
 refine⟨rfl, ?_⟩
 refine⟨rfl, ?_⟩
 obtain⟨ev61,he62,hm⟩:=a8 hm
 refine K4.ofZ pok ⟨[(0, .row 4 6),(1, .agg [DI night,DI (W ((W (6*(W (x20+1))))+x19)),DI value,DI 0,DI 0,DB false]),(2,DI 12),(3, .fn 89 [] []),(1000000, .agg (a6.c x)),(1000001,DI night),(1000002,DI value),(1000003, .own 0 0),(1000006, .own 1 0),(1000007,DI 0),(1000008, .own 13 0),(1000009,DI 0),(1000010, .own 14 0),(1000019,DB false),(1000024,DB (!x38)),(1000029,DB (!x41)),(1000034,DB (x20==9999))], [(0, .blk (a6.c x) 30),(1, .blk [DI 0,DI 0,nS,nS,nS,nS,nS,DI 0,nS,nS,nS,nS,nS] 30),(3,rE 4 v9 b6.c 110),(4,rE 6 v10 c4.c 108),(5,rE 4 v11 b4.c 149),(6,rE 5 v12 a7.c 112),(7,rE 6 v13 b9.c 114),(8,rE 4 v14 b6.c 110),(9,rE 6 v15 c4.c 108),(10,rE 4 v16 b4.c 149),(11,rE 5 v17 a7.c 112),(12,rE 6 v18 b9.c 114),(13, .blk [DI x19,DI (W (x20+1)), .row 3 4, .row 4 6, .row 5 4, .row 6 5, .row 7 6,DI x21, .row 8 4, .row 9 6, .row 10 4, .row 11 5, .row 12 6] 102),(14, .blk [DI night,DI (W ((W (6*(W (x20+1))))+x19)),DI value,DI 0,DI 0,DB false] 108)],15⟩ (match ev61 with| .inl (v52,x53)=>(⟨[(0, .agg (a6.c x)),(1,DI night),(2,DI value),(3, .own 0 0),(6, .own 1 0),(7,DI 0),(8, .own 13 0),(9,DI 0),(10, .own 14 0),(19,DB false),(24,DB (!x38)),(29,DB (!x41)),(34,DB (x20==9999)),(78, .tup [.row 4 6,DI x53,DB true])], [(0, .blk (a6.c x) 30),(1, .blk [DI 0,DI 0,nS,nS,nS,nS,nS,DI 0,nS,nS,nS,nS,nS] 30),(3,rE 4 v9 b6.c 110),(4,rE 6 v52 c4.c 108),(5,rE 4 v11 b4.c 149),(6,rE 5 v12 a7.c 112),(7,rE 6 v13 b9.c 114),(8,rE 4 v14 b6.c 110),(9,rE 6 v15 c4.c 108),(10,rE 4 v16 b4.c 149),(11,rE 5 v17 a7.c 112),(12,rE 6 v18 b9.c 114),(13, .blk [DI x19,DI (W (x20+1)), .row 3 4, .bad, .row 5 4, .row 6 5, .row 7 6,DI x21, .row 8 4, .row 9 6, .row 10 4, .row 11 5, .row 12 6] 102),(14, .blk [DI night,DI (W ((W (6*(W (x20+1))))+x19)),DI value,DI 0,DI 0,DB false] 108)],15⟩:Sy)| .inr _=>(⟨[(0, .agg (a6.c x)),(1,DI night),(2,DI value),(3, .own 0 0),(6, .own 1 0),(7,DI 0),(8, .own 13 0),(9,DI 0),(10, .own 14 0),(19,DB false),(24,DB (!x38)),(29,DB (!x41)),(34,DB (x20==9999)),(78, .tup [nS,DI 0,DB false])], [(0, .blk (a6.c x) 30),(1, .blk [DI 0,DI 0,nS,nS,nS,nS,nS,DI 0,nS,nS,nS,nS,nS] 30),(3,rE 4 v9 b6.c 110),(4,rE 6 v10 c4.c 108),(5,rE 4 v11 b4.c 149),(6,rE 5 v12 a7.c 112),(7,rE 6 v13 b9.c 114),(8,rE 4 v14 b6.c 110),(9,rE 6 v15 c4.c 108),(10,rE 4 v16 b4.c 149),(11,rE 5 v17 a7.c 112),(12,rE 6 v18 b9.c 114),(13, .blk [DI x19,DI (W (x20+1)), .row 3 4, .row 4 6, .row 5 4, .row 6 5, .row 7 6,DI x21, .row 8 4, .row 9 6, .row 10 4, .row 11 5, .row 12 6] 102),(14, .blk [DI night,DI (W ((W (6*(W (x20+1))))+x19)),DI value,DI 0,DI 0,DB false] 108)],15⟩:Sy):Sy) [] [99,106,149,210,211,220] [62] [61,88] Tryz.func88 rfl rfl rfl (c5.of 15 rfl (tA rfl) ⟨hR rfl,hR rfl,hW rfl,hW rfl,hW rfl,hW rfl,hW rfl,hW rfl,hW rfl,hW rfl,hW rfl,hW rfl,hR rfl,hR rfl,trivial⟩) (fun sv=> ?_) ?_
 have hm:=he62
 refine co hm (R8 v10 ((⟨night,(W ((W (6*(W (x20+1))))+x19)),value,0,0,false⟩:c4))) ?_
 rintro⟨x67,x68⟩ hm
 apply vb hm<;>intro _ hm
 cases hm
 exact c5.of 15 rfl (tA rfl) ⟨hR rfl,hR rfl,hW rfl,hW rfl,hW rfl,hW rfl,hW rfl,hW rfl,hW rfl,hW rfl,hW rfl,hW rfl,⟨_,rfl,⟨leD.refl _,leD.refl _,leD.refl _,leD.refl _,leD.refl _,leD.refl _,leD.refl _,leD.refl _,leD.refl _,leD.refl _,leD.refl _,leD.refl _,trivial⟩⟩,hR rfl,trivial⟩
 apply vb hm<;>intro _ hm
 cases hm
 exact c5.of 15 rfl (tA rfl) ⟨hR rfl,hR rfl,hW rfl,hW rfl,hW rfl,hW rfl,hW rfl,hW rfl,hW rfl,hW rfl,hW rfl,hW rfl,hR rfl,hR rfl,trivial⟩
 refine⟨([(⟨night,(W ((W (6*(W (x20+1))))+x19)),value,0,0,false⟩:c4)]:List c4).flatMap c4.c,([(⟨night,(W ((W (6*(W (x20+1))))+x19)),value,0,0,false⟩:c4)]:List c4).length,⟨rfl,rfl⟩, ?_⟩
 obtain⟨x72,hx73,hm⟩:=a8 hm
 refine .inl (a8Q.mk ⟨_,_,_,_,_,_,_,rfl,a0Z v10 x67 (([(⟨night,(W ((W (6*(W (x20+1))))+x19)),value,0,0,false⟩:c4)]:List c4)) _ hx73, ?_⟩)
 cases hm
 exact c5.of 15 rfl (tA rfl) ⟨hR rfl,hR rfl,hW rfl,hW rfl,hW rfl,hW rfl,hW rfl,hW rfl,hW rfl,hW rfl,hW rfl,hW rfl,hR rfl,hR rfl,trivial⟩
 rcases ev61 with⟨v52,x53⟩|⟨⟩
 obtain⟨e63,hx64,hm⟩:=a8 hm
 refine⟨a4v hx64, ?_⟩
 obtain⟨e65,hx66,hm⟩:=a8 hm
 refine⟨_,Q0 (fun _=>rfl) hx66,_,a0H (y:=(⟨night,(W ((W (6*(W (x20+1))))+x19)),value,0,0,false⟩:c4)) (fun _=>rfl) hx66, ?_⟩
 cases hm
 exact d8.le (by first|exact leD.refl _|(simp only [a6.c,lD,List.length_set];exact leD.refl _))
 cases hm
 exact d8.le (⟨_,rfl,⟨⟨_,rfl,⟨leD.refl _,leD.refl _,leD.nil,leD.nil,leD.nil,leD.nil,leD.nil,leD.refl _,leD.nil,leD.nil,leD.nil,leD.nil,leD.nil,trivial⟩⟩,leD.refl _,trivial⟩⟩)
def a7q:(Bool×Int×Int×Int×(List b6)×(List c4)×(List b4)×(List a7)×(List b9)×Int×(List b6)×(List c4)×(List b4)×(List a7)×(List b9))→Option (Sum (Bool×Int×Int×Int×(List b6)×(List c4)×(List b4)×(List a7)×(List b9)×Int×(List b6)×(List c4)×(List b4)×(List a7)×(List b9)) (Bool×Int×Int×Int×(List b6)×(List c4)×(List b4)×(List a7)×(List b9)×Int×(List b6)×(List c4)×(List b4)×(List a7)×(List b9))):=fun(ok12,d13,v14,v15,v16,v17,v18,v19,v20,v21,v22,v23,v24,v25,v26)=>
 if(decide (d13≤3))=true then
  Option.bind (Y7 (⟨v14,(⟨v15,v16,v17,v18,v19,v20⟩:b5),(⟨v21,v22,v23,v24,v25,v26⟩:b5)⟩:a6) (⟨2,d13,1,4,7,0,0,0,0,0,0⟩:b7)) fun⟨x33,x34⟩=>
  if ok12=true then
   some (.inl ((x34==0),(W (d13+1)),x33.Me,x33.Now.Round,x33.Now.Slots,x33.Now.Bids,x33.Now.Heard,x33.Now.Leases,x33.Now.Loans,x33.Safe.Round,x33.Safe.Slots,x33.Safe.Bids,x33.Safe.Heard,x33.Safe.Leases,x33.Safe.Loans))
  else
   some (.inl (false,(W (d13+1)),x33.Me,x33.Now.Round,x33.Now.Slots,x33.Now.Bids,x33.Now.Heard,x33.Now.Leases,x33.Now.Loans,x33.Safe.Round,x33.Safe.Slots,x33.Safe.Bids,x33.Safe.Heard,x33.Safe.Leases,x33.Safe.Loans))
 else
  some (.inr (ok12,d13,v14,v15,v16,v17,v18,v19,v20,v21,v22,v23,v24,v25,v26))
def a7o:(Int×Int×Int×(List b6)×(List c4)×(List b4)×(List a7)×(List b9)×Int×(List b6)×(List c4)×(List b4)×(List a7)×(List b9))→Option (Sum (Int×Int×Int×(List b6)×(List c4)×(List b4)×(List a7)×(List b9)×Int×(List b6)×(List c4)×(List b4)×(List a7)×(List b9)) (Int×Int×Int×(List b6)×(List c4)×(List b4)×(List a7)×(List b9)×Int×(List b6)×(List c4)×(List b4)×(List a7)×(List b9))):=fun(d64,v65,v66,v67,v68,v69,v70,v71,v72,v73,v74,v75,v76,v77)=>
 if(decide (d64≤3))=true then
  Option.bind (Y7 (⟨v65,(⟨v66,v67,v68,v69,v70,v71⟩:b5),(⟨v72,v73,v74,v75,v76,v77⟩:b5)⟩:a6) (⟨2,d64,1,4,7,0,0,0,0,0,0⟩:b7)) fun⟨x83,x84⟩=>
  some (.inl ((W (d64+1)),x83.Me,x83.Now.Round,x83.Now.Slots,x83.Now.Bids,x83.Now.Heard,x83.Now.Leases,x83.Now.Loans,x83.Safe.Round,x83.Safe.Slots,x83.Safe.Bids,x83.Safe.Heard,x83.Safe.Leases,x83.Safe.Loans))
 else
  some (.inr (d64,v65,v66,v67,v68,v69,v70,v71,v72,v73,v74,v75,v76,v77))
def a8n:Option (a6×Bool):=
 Option.bind (a0K 1) fun⟨x1,x2⟩=>
 Option.bind (a3W x1 4 77) fun⟨x4,x5⟩=>
 if(x2==0)=true then
  Option.bind (l5 a7q ((x5==0),1,x4.Me,x4.Now.Round,x4.Now.Slots,x4.Now.Bids,x4.Now.Heard,x4.Now.Leases,x4.Now.Loans,x4.Safe.Round,x4.Safe.Slots,x4.Safe.Bids,x4.Safe.Heard,x4.Safe.Leases,x4.Safe.Loans)) fun(ok37,d38,v39,v40,v41,v42,v43,v44,v45,v46,v47,v48,v49,v50,v51)=>
  some ((⟨v39,(⟨v40,v41,v42,v43,v44,v45⟩:b5),(⟨v46,v47,v48,v49,v50,v51⟩:b5)⟩:a6),ok37)
 else
  Option.bind (l5 a7o (1,x4.Me,x4.Now.Round,x4.Now.Slots,x4.Now.Bids,x4.Now.Heard,x4.Now.Leases,x4.Now.Loans,x4.Safe.Round,x4.Safe.Slots,x4.Safe.Bids,x4.Safe.Heard,x4.Safe.Leases,x4.Safe.Loans)) fun(d86,v87,v88,v89,v90,v91,v92,v93,v94,v95,v96,v97,v98,v99)=>
  some ((⟨v87,(⟨v88,v89,v90,v91,v92,v93⟩:b5),(⟨v94,v95,v96,v97,v98,v99⟩:b5)⟩:a6),false)
theorem b8c (r:(a6×Bool)) (hm:a8n=some r):d0 Tryz.prog 68 [] (fun x=>x= .tup [.agg (a6.c r.1),DB r.2]):=by
 refine zn Tryz.func68 rfl ?_
 refine cy hm (a4F 1) ?_
 rintro⟨x1,x2⟩ hm
 refine cy hm (a8o x1 4 77) ?_
 rintro⟨x4,x5⟩ hm
 apply vb hm<;>intro _ hm
 obtain⟨ev52,he,hk53⟩:=a8 hm
 refine q9.ofL a7q (fun(ok12,d13,v14,v15,v16,v17,v18,v19,v20,v21,v22,v23,v24,v25,v26)=>⟨[(0, .own 0 0),(1,DB false),(2, .own 1 0),(3,DI x2),(4, .own 2 0),(5,DI x5),(6,DB ok12),(7,DI d13)], [(0, .blk [DI 0,DI 0,nS,nS,nS,nS,nS,DI 0,nS,nS,nS,nS,nS] 30),(1, .blk (a6.c x1) 30),(2, .blk [DI v14,DI v15,lD 4 v16 b6.c,lD 6 v17 c4.c,lD 4 v18 b4.c,lD 5 v19 a7.c,lD 6 v20 b9.c,DI v21,lD 4 v22 b6.c,lD 6 v23 c4.c,lD 4 v24 b4.c,lD 5 v25 a7.c,lD 6 v26 b9.c] 30)],3⟩) ((x5==0),1,x4.Me,x4.Now.Round,x4.Now.Slots,x4.Now.Bids,x4.Now.Heard,x4.Now.Leases,x4.Now.Loans,x4.Safe.Round,x4.Safe.Slots,x4.Safe.Bids,x4.Safe.Heard,x4.Safe.Leases,x4.Safe.Loans) (c5.of 3 rfl (tA rfl) ⟨hR rfl,hR rfl,hR rfl,trivial⟩) he ?_
 rintro fu54 ⟨ok12,d13,v14,v15,v16,v17,v18,v19,v20,v21,v22,v23,v24,v25,v26⟩ b hm hi55
 apply vb hm<;>intro _ hm
 refine cy hm (a3E ((⟨v14,(⟨v15,v16,v17,v18,v19,v20⟩:b5),(⟨v21,v22,v23,v24,v25,v26⟩:b5)⟩:a6)) ((⟨2,d13,1,4,7,0,0,0,0,0,0⟩:b7))) ?_
 rintro⟨x57,x58⟩ hm
 apply vb hm<;>intro _ hm
 cases hm
 exact⟨(_,((x58==0),(W (d13+1)),x57.Me,x57.Now.Round,x57.Now.Slots,x57.Now.Bids,x57.Now.Heard,x57.Now.Leases,x57.Now.Loans,x57.Safe.Round,x57.Safe.Slots,x57.Safe.Bids,x57.Safe.Heard,x57.Safe.Leases,x57.Safe.Loans)),c5.of 3 rfl (tA rfl) ⟨hR rfl,hR rfl,hR rfl,trivial⟩,hi55,Nat.lt_succ_self _⟩
 cases hm
 exact⟨(_,(false,(W (d13+1)),x57.Me,x57.Now.Round,x57.Now.Slots,x57.Now.Bids,x57.Now.Heard,x57.Now.Leases,x57.Now.Loans,x57.Safe.Round,x57.Safe.Slots,x57.Safe.Bids,x57.Safe.Heard,x57.Safe.Leases,x57.Safe.Loans)),c5.of 3 rfl (tA rfl) ⟨hR rfl,hR rfl,hR rfl,trivial⟩,hi55,Nat.lt_succ_self _⟩
 cases hm
 cases hi55
 have hm:=hk53
 cases hm
 exact d8.le (leD.refl _)
 obtain⟨ev100,he,hk101⟩:=a8 hm
 refine q9.ofL a7o (fun(d64,v65,v66,v67,v68,v69,v70,v71,v72,v73,v74,v75,v76,v77)=>⟨[(0, .own 0 0),(1,DB false),(2, .own 1 0),(3,DI x2),(4, .own 2 0),(5,DI x5),(6,DB false),(7,DI d64)], [(0, .blk [DI 0,DI 0,nS,nS,nS,nS,nS,DI 0,nS,nS,nS,nS,nS] 30),(1, .blk (a6.c x1) 30),(2, .blk [DI v65,DI v66,lD 4 v67 b6.c,lD 6 v68 c4.c,lD 4 v69 b4.c,lD 5 v70 a7.c,lD 6 v71 b9.c,DI v72,lD 4 v73 b6.c,lD 6 v74 c4.c,lD 4 v75 b4.c,lD 5 v76 a7.c,lD 6 v77 b9.c] 30)],3⟩) (1,x4.Me,x4.Now.Round,x4.Now.Slots,x4.Now.Bids,x4.Now.Heard,x4.Now.Leases,x4.Now.Loans,x4.Safe.Round,x4.Safe.Slots,x4.Safe.Bids,x4.Safe.Heard,x4.Safe.Leases,x4.Safe.Loans) (c5.of 3 rfl (tA rfl) ⟨hR rfl,hR rfl,hR rfl,trivial⟩) he ?_
 rintro fu102 ⟨d64,v65,v66,v67,v68,v69,v70,v71,v72,v73,v74,v75,v76,v77⟩ b hm hi103
 apply vb hm<;>intro _ hm
 refine cy hm (a3E ((⟨v65,(⟨v66,v67,v68,v69,v70,v71⟩:b5),(⟨v72,v73,v74,v75,v76,v77⟩:b5)⟩:a6)) ((⟨2,d64,1,4,7,0,0,0,0,0,0⟩:b7))) ?_
 rintro⟨x105,x106⟩ hm
 cases hm
 exact⟨(_,((W (d64+1)),x105.Me,x105.Now.Round,x105.Now.Slots,x105.Now.Bids,x105.Now.Heard,x105.Now.Leases,x105.Now.Loans,x105.Safe.Round,x105.Safe.Slots,x105.Safe.Bids,x105.Safe.Heard,x105.Safe.Leases,x105.Safe.Loans)),c5.of 3 rfl (tA rfl) ⟨hR rfl,hR rfl,hR rfl,trivial⟩,hi103,Nat.lt_succ_self _⟩
 cases hm
 cases hi103
 have hm:=hk101
 cases hm
 exact d8.le (leD.refl _)
def a5A (n:Int):Option ByteArray:=gd (0≤n∧n<100) (some (c1Q n))
theorem b0m (n:Int) (r:ByteArray) (hm:a5A n=some r):d0 Tryz.prog 170 [DI n] (fun x=>x= .v (.string r)):=by
 obtain⟨hg,hm⟩:=i4 hm
 cases hm
 exact b7G c0o n hg
def a4W (l:(List Int)):(ByteArray×Int)→Option (Sum (ByteArray×Int) (ByteArray×Int)):=fun(word6,v7)=>
 if(decide (v7<(l.length:Int)))=true then
  Option.bind (idx l v7) fun e14=>
  Option.bind (a5A e14) fun x16=>
  gd ((((⟨#[32]⟩:ByteArray).size+x16.size:Nat):Int)≤9223372036854775807)<|
  gd (((word6.size+((⟨#[32]⟩:ByteArray)++x16).size:Nat):Int)≤9223372036854775807)<|
  some (.inl ((word6++((⟨#[32]⟩:ByteArray)++x16)),(W (v7+1))))
 else
  some (.inr (word6,v7))
def R0 (word:ByteArray) (l:(List Int)):Option ByteArray:=
 Option.bind (l5 (a4W l) (word,0)) fun(word18,v19)=>
 gd (((word18.size+(⟨#[10]⟩:ByteArray).size:Nat):Int)≤9223372036854775807)<|
 some (word18++(⟨#[10]⟩:ByteArray))
theorem W5 (word:ByteArray) (l:(List Int)) (r:ByteArray) (hm:R0 word l=some r):d0 Tryz.prog 120 [.v (.string word),lD 1 l cI] (fun x=>x= .v (.string r)):=by
 refine zn Tryz.func120 rfl ?_
 obtain⟨ev20,he,hk21⟩:=a8 hm
 refine q9.ofL (a4W l) (fun(word6,v7)=>⟨[(0, .v (.string word6)),(1,lD 1 l cI),(4, .v (.string (⟨#[]⟩:ByteArray))),(7,lD 1 l cI),(8,DI (l.length:Int)),(9,DI v7)], [],0⟩) (word,0) (c5.of 0 rfl (tA rfl) trivial) he ?_
 rintro fu22 ⟨word6,v7⟩ b hm hi23
 apply vb hm<;>intro _ hm
 obtain⟨e25,hx26,hm⟩:=a8 hm
 refine⟨_,c8 (fun _=>rfl) hx26, ?_⟩
 refine cy hm (b0m e25) fun x27 hm=> ?_
 obtain⟨hg,hm⟩:=i4 hm
 refine⟨hg, ?_⟩
 obtain⟨hg,hm⟩:=i4 hm
 refine⟨hg, ?_⟩
 cases hm
 exact⟨(_,((word6++((⟨#[32]⟩:ByteArray)++x27)),(W (v7+1)))),c5.of 0 rfl (tA rfl) trivial,hi23,Nat.lt_succ_self _⟩
 cases hm
 cases hi23
 have hm:=hk21
 obtain⟨hg,hm⟩:=i4 hm
 refine⟨hg, ?_⟩
 cases hm
 exact d8.le (leD.refl _)
def a4o (is:Bool):Option Int:=
 if is=true then
  some 1
 else
  some 0
theorem a7Z (is:Bool) (r:Int) (hm:a4o is=some r):d0 Tryz.prog 121 [DB is] (fun x=>x=DI r):=by
 refine zn Tryz.func121 rfl ?_
 apply vb hm<;>intro _ hm
 exact hm.rr
 exact hm.rr
def a3n (s:b5):(Bool×Int)→Option (Sum (Bool×Int) (Bool×Int)):=fun(some_3,v4)=>
 if(decide (v4<6))=true then
  if some_3=true then
   some (.inl (true,(W (v4+1))))
  else
   Option.bind (L1 v4 s) fun x11=>
   some (.inl (x11,(W (v4+1))))
 else
  some (.inr (some_3,v4))
def a2Y (s:b5):(ByteArray×Int)→Option (Sum (ByteArray×Int) (ByteArray×Int)):=fun(out23,v24)=>
 if(decide (v24<(s.Slots.length:Int)))=true then
  Option.bind (idx s.Slots v24) fun e31=>
  Option.bind (R0 (⟨#[115,108,111,116]⟩:ByteArray) ([e31.Night,e31.Promised,e31.Ballot,e31.Value]:List Int)) fun x33=>
  gd (((out23.size+x33.size:Nat):Int)≤9223372036854775807)<|
  some (.inl ((out23++x33),(W (v24+1))))
 else
  some (.inr (out23,v24))
def a3c (s:b5):(ByteArray×Int)→Option (Sum (ByteArray×Int) (ByteArray×Int)):=fun(out44,v45)=>
 if(decide (v45<(s.Bids.length:Int)))=true then
  Option.bind (idx s.Bids v45) fun e54=>
  Option.bind (a4o e54.Asked) fun x56=>
  Option.bind (R0 (⟨#[98,105,100]⟩:ByteArray) ([e54.Night,e54.Ballot,e54.Value,e54.Best,e54.Mask,x56]:List Int)) fun x58=>
  gd (((out44.size+x58.size:Nat):Int)≤9223372036854775807)<|
  some (.inl ((out44++x58),(W (v45+1))))
 else
  some (.inr (out44,v45))
def a3h (s:b5):(ByteArray×Int)→Option (Sum (ByteArray×Int) (ByteArray×Int)):=fun(out67,v68)=>
 if(decide (v68<(s.Heard.length:Int)))=true then
  Option.bind (idx s.Heard v68) fun e75=>
  Option.bind (R0 (⟨#[104,101,97,114,100]⟩:ByteArray) ([e75.Night,e75.Ballot,e75.Value,e75.Mask]:List Int)) fun x77=>
  gd (((out67.size+x77.size:Nat):Int)≤9223372036854775807)<|
  some (.inl ((out67++x77),(W (v68+1))))
 else
  some (.inr (out67,v68))
def a3m (s:b5):(ByteArray×Int)→Option (Sum (ByteArray×Int) (ByteArray×Int)):=fun(out86,v87)=>
 if(decide (v87<(s.Leases.length:Int)))=true then
  Option.bind (idx s.Leases v87) fun e94=>
  Option.bind (R0 (⟨#[108,101,97,115,101]⟩:ByteArray) ([e94.No,e94.Thing,e94.To,e94.From,e94.Until]:List Int)) fun x96=>
  gd (((out86.size+x96.size:Nat):Int)≤9223372036854775807)<|
  some (.inl ((out86++x96),(W (v87+1))))
 else
  some (.inr (out86,v87))
def a3e (s:b5):(ByteArray×Int)→Option (Sum (ByteArray×Int) (ByteArray×Int)):=fun(out107,v108)=>
 if(decide (v108<(s.Loans.length:Int)))=true then
  Option.bind (idx s.Loans v108) fun e117=>
  Option.bind (a4o e117.Back) fun x119=>
  Option.bind (R0 (⟨#[108,111,97,110]⟩:ByteArray) ([e117.Owner,e117.No,e117.Thing,e117.From,e117.Until,x119]:List Int)) fun x121=>
  gd (((out107.size+x121.size:Nat):Int)≤9223372036854775807)<|
  some (.inl ((out107++x121),(W (v108+1))))
 else
  some (.inr (out107,v108))
def a0T (s:b5):Option (ByteArray×Int):=
 Option.bind (l5 (a3n s) (false,0)) fun(some_13,v14)=>
 if(!some_13)=true then
  some ((⟨#[]⟩:ByteArray),90)
 else
  Option.bind (R0 (⟨#[114,111,117,110,100]⟩:ByteArray) ([s.Round]:List Int)) fun x16=>
  Option.bind (l5 (a2Y s) (x16,0)) fun(out35,v36)=>
  Option.bind (l5 (a3c s) (out35,0)) fun(out60,v61)=>
  Option.bind (l5 (a3h s) (out60,0)) fun(out79,v80)=>
  Option.bind (l5 (a3m s) (out79,0)) fun(out98,v99)=>
  Option.bind (l5 (a3e s) (out98,0)) fun(out123,v124)=>
  some (out123,0)
theorem a5m (s:b5) (r:(ByteArray×Int)) (hm:a0T s=some r):d0 Tryz.prog 69 [.agg (b5.c s)] (fun x=>x= .tup [.v (.string r.1),DI r.2]):=by
 refine zy c4L [] [] [] Tryz.func69 rfl ?_
 obtain⟨ev1030,he,hk1031⟩:=a8 hm
 refine q9.ofL (a3n s) (fun(some_3,v4)=>⟨[(0, .agg (b5.c s)),(1, .own 0 0),(2, .v (.string (⟨#[]⟩:ByteArray))),(3,DI 0),(4,DB some_3),(17,DI v4)], [(0, .blk (b5.c s) 28)],1⟩) (false,0) (c5.of 1 rfl (tA rfl) ⟨hR rfl,trivial⟩) he ?_
 rintro fu1032 ⟨some_3,v4⟩ b hm hi1033
 apply vb hm<;>intro _ hm
 apply vb hm<;>intro _ hm
 cases hm
 exact⟨(_,(true,(W (v4+1)))),c5.of 1 rfl (tA rfl) ⟨hR rfl,trivial⟩,hi1033,Nat.lt_succ_self _⟩
 refine cy hm (a1g v4 s) fun x1036 hm=> ?_
 cases hm
 exact⟨(_,(x1036,(W (v4+1)))),c5.of 1 rfl (tA rfl) ⟨hR rfl,trivial⟩,hi1033,Nat.lt_succ_self _⟩
 cases hm
 cases hi1033
 have hm:=hk1031
 apply vb hm<;>intro _ hm
 cases hm
 exact d8.le (leD.refl _)
 refine⟨([s.Round]:List Int).flatMap cI,([s.Round]:List Int).length,⟨rfl,rfl⟩, ?_⟩
 refine co hm (W5 ((⟨#[114,111,117,110,100]⟩:ByteArray)) (([s.Round]:List Int))) fun x1039 hm=> ?_
 obtain⟨ev1552,he,hk1553⟩:=a8 hm
 refine q9.ofL (a2Y s) (fun(out1046,v1047)=>⟨[(0, .agg (b5.c s)),(1, .own 0 0),(2, .v (.string (⟨#[]⟩:ByteArray))),(3,DI 0),(4,DB some_3),(6, .v (.string out1046)),(17,DI v4),(18,DB (decide (v4<6))),(28,DB (!some_3)),(34,lD 4 s.Slots b6.c),(35,DI (s.Slots.length:Int)),(36,DI v1047)], [(0, .blk (b5.c s) 28),(1,rE 1 ([s.Round]:List Int) cI 3)],2⟩) (x1039,0) (c5.of 2 rfl (tA rfl) ⟨hR rfl,hW rfl,trivial⟩) he ?_
 rintro fu1554 ⟨out1046,v1047⟩ b hm hi1555
 apply vb hm<;>intro _ hm
 obtain⟨e1557,hx1558,hm⟩:=a8 hm
 refine⟨_,c8 (fun _=>rfl) hx1558, ?_⟩
 refine⟨([e1557.Night,e1557.Promised,e1557.Ballot,e1557.Value]:List Int).flatMap cI,([e1557.Night,e1557.Promised,e1557.Ballot,e1557.Value]:List Int).length,⟨rfl,rfl⟩, ?_⟩
 refine co hm (W5 ((⟨#[115,108,111,116]⟩:ByteArray)) (([e1557.Night,e1557.Promised,e1557.Ballot,e1557.Value]:List Int))) fun x1559 hm=> ?_
 obtain⟨hg,hm⟩:=i4 hm
 refine⟨hg, ?_⟩
 cases hm
 exact⟨(_,((out1046++x1559),(W (v1047+1)))),c5.of 2 rfl (tA rfl) ⟨hR rfl,hW rfl,trivial⟩,hi1555,Nat.lt_succ_self _⟩
 cases hm
 cases hi1555
 have hm:=hk1553
 obtain⟨ev1814,he,hk1815⟩:=a8 hm
 refine q9.ofL (a3c s) (fun(out1568,v1569)=>⟨[(0, .agg (b5.c s)),(1, .own 0 0),(2, .v (.string (⟨#[]⟩:ByteArray))),(3,DI 0),(4,DB some_3),(6, .v (.string out1568)),(17,DI v4),(18,DB (decide (v4<6))),(28,DB (!some_3)),(34,lD 4 s.Slots b6.c),(35,DI (s.Slots.length:Int)),(36,DI v1047),(37,DB (decide (v1047<(s.Slots.length:Int)))),(54,lD 6 s.Bids c4.c),(55,DI (s.Bids.length:Int)),(56,DI v1569)], [(0, .blk (b5.c s) 28),(1,rE 1 ([s.Round]:List Int) cI 3)],2⟩) (out1046,0) (c5.of 2 rfl (tA rfl) ⟨hR rfl,hW rfl,trivial⟩) he ?_
 rintro fu1816 ⟨out1568,v1569⟩ b hm hi1817
 apply vb hm<;>intro _ hm
 obtain⟨e1819,hx1820,hm⟩:=a8 hm
 refine⟨_,c8 (fun _=>rfl) hx1820, ?_⟩
 refine⟨rfl, ?_⟩
 refine cy hm (a7Z e1819.Asked) fun x1821 hm=> ?_
 refine⟨([e1819.Night,e1819.Ballot,e1819.Value,e1819.Best,e1819.Mask,x1821]:List Int).flatMap cI,([e1819.Night,e1819.Ballot,e1819.Value,e1819.Best,e1819.Mask,x1821]:List Int).length,⟨rfl,rfl⟩, ?_⟩
 refine co hm (W5 ((⟨#[98,105,100]⟩:ByteArray)) (([e1819.Night,e1819.Ballot,e1819.Value,e1819.Best,e1819.Mask,x1821]:List Int))) fun x1823 hm=> ?_
 obtain⟨hg,hm⟩:=i4 hm
 refine⟨hg, ?_⟩
 cases hm
 exact⟨(_,((out1568++x1823),(W (v1569+1)))),c5.of 2 rfl (tA rfl) ⟨hR rfl,hW rfl,trivial⟩,hi1817,Nat.lt_succ_self _⟩
 cases hm
 cases hi1817
 have hm:=hk1815
 obtain⟨ev1944,he,hk1945⟩:=a8 hm
 refine q9.ofL (a3h s) (fun(out1830,v1831)=>⟨[(0, .agg (b5.c s)),(1, .own 0 0),(2, .v (.string (⟨#[]⟩:ByteArray))),(3,DI 0),(4,DB some_3),(6, .v (.string out1830)),(17,DI v4),(18,DB (decide (v4<6))),(28,DB (!some_3)),(34,lD 4 s.Slots b6.c),(35,DI (s.Slots.length:Int)),(36,DI v1047),(37,DB (decide (v1047<(s.Slots.length:Int)))),(54,lD 6 s.Bids c4.c),(55,DI (s.Bids.length:Int)),(56,DI v1569),(57,DB (decide (v1569<(s.Bids.length:Int)))),(79,lD 4 s.Heard b4.c),(80,DI (s.Heard.length:Int)),(81,DI v1831)], [(0, .blk (b5.c s) 28),(1,rE 1 ([s.Round]:List Int) cI 3)],2⟩) (out1568,0) (c5.of 2 rfl (tA rfl) ⟨hR rfl,hW rfl,trivial⟩) he ?_
 rintro fu1946 ⟨out1830,v1831⟩ b hm hi1947
 apply vb hm<;>intro _ hm
 obtain⟨e1949,hx1950,hm⟩:=a8 hm
 refine⟨_,c8 (fun _=>rfl) hx1950, ?_⟩
 refine⟨([e1949.Night,e1949.Ballot,e1949.Value,e1949.Mask]:List Int).flatMap cI,([e1949.Night,e1949.Ballot,e1949.Value,e1949.Mask]:List Int).length,⟨rfl,rfl⟩, ?_⟩
 refine co hm (W5 ((⟨#[104,101,97,114,100]⟩:ByteArray)) (([e1949.Night,e1949.Ballot,e1949.Value,e1949.Mask]:List Int))) fun x1951 hm=> ?_
 obtain⟨hg,hm⟩:=i4 hm
 refine⟨hg, ?_⟩
 cases hm
 exact⟨(_,((out1830++x1951),(W (v1831+1)))),c5.of 2 rfl (tA rfl) ⟨hR rfl,hW rfl,trivial⟩,hi1947,Nat.lt_succ_self _⟩
 cases hm
 cases hi1947
 have hm:=hk1945
 obtain⟨ev2008,he,hk2009⟩:=a8 hm
 refine q9.ofL (a3m s) (fun(out1958,v1959)=>⟨[(0, .agg (b5.c s)),(1, .own 0 0),(2, .v (.string (⟨#[]⟩:ByteArray))),(3,DI 0),(4,DB some_3),(6, .v (.string out1958)),(17,DI v4),(18,DB (decide (v4<6))),(28,DB (!some_3)),(34,lD 4 s.Slots b6.c),(35,DI (s.Slots.length:Int)),(36,DI v1047),(37,DB (decide (v1047<(s.Slots.length:Int)))),(54,lD 6 s.Bids c4.c),(55,DI (s.Bids.length:Int)),(56,DI v1569),(57,DB (decide (v1569<(s.Bids.length:Int)))),(79,lD 4 s.Heard b4.c),(80,DI (s.Heard.length:Int)),(81,DI v1831),(82,DB (decide (v1831<(s.Heard.length:Int)))),(99,lD 5 s.Leases a7.c),(100,DI (s.Leases.length:Int)),(101,DI v1959)], [(0, .blk (b5.c s) 28),(1,rE 1 ([s.Round]:List Int) cI 3)],2⟩) (out1830,0) (c5.of 2 rfl (tA rfl) ⟨hR rfl,hW rfl,trivial⟩) he ?_
 rintro fu2010 ⟨out1958,v1959⟩ b hm hi2011
 apply vb hm<;>intro _ hm
 obtain⟨e2013,hx2014,hm⟩:=a8 hm
 refine⟨_,c8 (fun _=>rfl) hx2014, ?_⟩
 refine⟨([e2013.No,e2013.Thing,e2013.To,e2013.From,e2013.Until]:List Int).flatMap cI,([e2013.No,e2013.Thing,e2013.To,e2013.From,e2013.Until]:List Int).length,⟨rfl,rfl⟩, ?_⟩
 refine co hm (W5 ((⟨#[108,101,97,115,101]⟩:ByteArray)) (([e2013.No,e2013.Thing,e2013.To,e2013.From,e2013.Until]:List Int))) fun x2015 hm=> ?_
 obtain⟨hg,hm⟩:=i4 hm
 refine⟨hg, ?_⟩
 cases hm
 exact⟨(_,((out1958++x2015),(W (v1959+1)))),c5.of 2 rfl (tA rfl) ⟨hR rfl,hW rfl,trivial⟩,hi2011,Nat.lt_succ_self _⟩
 cases hm
 cases hi2011
 have hm:=hk2009
 obtain⟨ev2042,he,hk2043⟩:=a8 hm
 refine q9.ofL (a3e s) (fun(out2024,v2025)=>⟨[(0, .agg (b5.c s)),(1, .own 0 0),(2, .v (.string (⟨#[]⟩:ByteArray))),(3,DI 0),(4,DB some_3),(6, .v (.string out2024)),(17,DI v4),(18,DB (decide (v4<6))),(28,DB (!some_3)),(34,lD 4 s.Slots b6.c),(35,DI (s.Slots.length:Int)),(36,DI v1047),(37,DB (decide (v1047<(s.Slots.length:Int)))),(54,lD 6 s.Bids c4.c),(55,DI (s.Bids.length:Int)),(56,DI v1569),(57,DB (decide (v1569<(s.Bids.length:Int)))),(79,lD 4 s.Heard b4.c),(80,DI (s.Heard.length:Int)),(81,DI v1831),(82,DB (decide (v1831<(s.Heard.length:Int)))),(99,lD 5 s.Leases a7.c),(100,DI (s.Leases.length:Int)),(101,DI v1959),(102,DB (decide (v1959<(s.Leases.length:Int)))),(121,lD 6 s.Loans b9.c),(122,DI (s.Loans.length:Int)),(123,DI v2025)], [(0, .blk (b5.c s) 28),(1,rE 1 ([s.Round]:List Int) cI 3)],2⟩) (out1958,0) (c5.of 2 rfl (tA rfl) ⟨hR rfl,hW rfl,trivial⟩) he ?_
 rintro fu2044 ⟨out2024,v2025⟩ b hm hi2045
 apply vb hm<;>intro _ hm
 obtain⟨e2047,hx2048,hm⟩:=a8 hm
 refine⟨_,c8 (fun _=>rfl) hx2048, ?_⟩
 refine⟨rfl, ?_⟩
 refine cy hm (a7Z e2047.Back) fun x2049 hm=> ?_
 refine⟨([e2047.Owner,e2047.No,e2047.Thing,e2047.From,e2047.Until,x2049]:List Int).flatMap cI,([e2047.Owner,e2047.No,e2047.Thing,e2047.From,e2047.Until,x2049]:List Int).length,⟨rfl,rfl⟩, ?_⟩
 refine co hm (W5 ((⟨#[108,111,97,110]⟩:ByteArray)) (([e2047.Owner,e2047.No,e2047.Thing,e2047.From,e2047.Until,x2049]:List Int))) fun x2051 hm=> ?_
 obtain⟨hg,hm⟩:=i4 hm
 refine⟨hg, ?_⟩
 cases hm
 exact⟨(_,((out2024++x2051),(W (v2025+1)))),c5.of 2 rfl (tA rfl) ⟨hR rfl,hW rfl,trivial⟩,hi2045,Nat.lt_succ_self _⟩
 cases hm
 cases hi2045
 have hm:=hk2043
 cases hm
 exact d8.le (leD.refl _)
def a4z:Option Bool:=
 Option.bind (a8n) fun⟨x1,x2⟩=>
 Option.bind (Y7 x1 (⟨2,5,1,4,7,0,0,0,0,0,0⟩:b7)) fun⟨x4,x5⟩=>
 Option.bind (a2q x4) fun⟨x7,x8⟩=>
 Option.bind (a2E x7 2) fun⟨x10,x11⟩=>
 if(!x2)=true then
  some false
 else
  if(x5 !=0)=true then
   some false
  else
   if(x8 !=0)=true then
    some false
   else
    if(x11 !=0)=true then
     some false
    else
     if((x1.Now.Bids.length:Int) !=1)=true then
      some false
     else
      if((x4.Now.Bids.length:Int) !=1)=true then
       some false
      else
       Option.bind (idx x1.Now.Bids 0) fun e19=>
       if((e19.Night==4)&&((e19.Ballot==7)&&((e19.Value==77)&&((e19.Best==0)&&((e19.Mask==14)&&(e19.Asked==false))))))=true then
        Option.bind (idx x4.Now.Bids 0) fun e22=>
        Option.bind (Z5 x10 ([(⟨3,1,2,4,7,0,77,0,0,0,0⟩:b7)]:List b7)) fun x24=>
        Option.bind (a0K 2) fun⟨x26,x27⟩=>
        Option.bind (O7 x26 8 0 100 200) fun⟨x29,x30⟩=>
        Option.bind (R5 x29 8 150) fun⟨x32,x33⟩=>
        Option.bind (R5 x29 8 200) fun⟨x35,x36⟩=>
        Option.bind (O7 x29 8 1 150 250) fun⟨x38,x39⟩=>
        Option.bind (Y6 x29 8 150 250) fun⟨x41,x42⟩=>
        Option.bind (a0T x1.Now) fun⟨x44,x45⟩=>
        if(x27==0)=true then
         if(x30==0)=true then
          if(x33==0)=true then
           if(x36==0)=true then
            if(x39==93)=true then
             if(x42==0)=true then
              if((e22.Night==4)&&((e22.Ballot==7)&&((e22.Value==77)&&((e22.Best==0)&&((e22.Mask==46)&&(e22.Asked==true))))))=true then
               if x24=true then
                if(x45==0)=true then
                 if(!x32)=true then
                  if x35=true then
                   if(x41==200)=true then
                    some (x44.toList==(⟨#[114,111,117,110,100,32,49,10,98,105,100,32,52,32,55,32,55,55,32,48,32,49,52,32,48,10]⟩:ByteArray).toList)
                   else
                    some false
                  else
                   some false
                 else
                  some false
                else
                 some false
               else
                some false
              else
               some false
             else
              if((e22.Night==4)&&((e22.Ballot==7)&&((e22.Value==77)&&((e22.Best==0)&&((e22.Mask==46)&&(e22.Asked==true))))))=true then
               if x24=true then
                some false
               else
                some false
              else
               some false
            else
             if((e22.Night==4)&&((e22.Ballot==7)&&((e22.Value==77)&&((e22.Best==0)&&((e22.Mask==46)&&(e22.Asked==true))))))=true then
              if x24=true then
               some false
              else
               some false
             else
              some false
           else
            if((e22.Night==4)&&((e22.Ballot==7)&&((e22.Value==77)&&((e22.Best==0)&&((e22.Mask==46)&&(e22.Asked==true))))))=true then
             if x24=true then
              some false
             else
              some false
            else
             some false
          else
           if((e22.Night==4)&&((e22.Ballot==7)&&((e22.Value==77)&&((e22.Best==0)&&((e22.Mask==46)&&(e22.Asked==true))))))=true then
            if x24=true then
             some false
            else
             some false
           else
            some false
         else
          if((e22.Night==4)&&((e22.Ballot==7)&&((e22.Value==77)&&((e22.Best==0)&&((e22.Mask==46)&&(e22.Asked==true))))))=true then
           if x24=true then
            some false
           else
            some false
          else
           some false
        else
         if((e22.Night==4)&&((e22.Ballot==7)&&((e22.Value==77)&&((e22.Best==0)&&((e22.Mask==46)&&(e22.Asked==true))))))=true then
          if x24=true then
           some false
          else
           some false
         else
          some false
       else
        Option.bind (Z5 x10 ([(⟨3,1,2,4,7,0,77,0,0,0,0⟩:b7)]:List b7)) fun x71=>
        Option.bind (a0K 2) fun⟨x73,x74⟩=>
        Option.bind (O7 x73 8 0 100 200) fun⟨x76,x77⟩=>
        Option.bind (R5 x76 8 150) fun⟨x79,x80⟩=>
        Option.bind (R5 x76 8 200) fun⟨x82,x83⟩=>
        Option.bind (O7 x76 8 1 150 250) fun⟨x85,x86⟩=>
        Option.bind (Y6 x76 8 150 250) fun⟨x88,x89⟩=>
        Option.bind (a0T x1.Now) fun⟨x91,x92⟩=>
        if(x74==0)=true then
         if(x77==0)=true then
          if(x80==0)=true then
           if(x83==0)=true then
            if(x86==93)=true then
             if(x89==0)=true then
              some false
             else
              some false
            else
             some false
           else
            some false
          else
           some false
         else
          some false
        else
         some false
theorem b5G (r:Bool) (hm:a4z=some r):d0 Tryz.prog 20 [] (fun x=>x=DB r):=by
 refine zn Tryz.func20 rfl ?_
 refine cy hm (b8c) ?_
 rintro⟨x1,x2⟩ hm
 refine cy hm (a3E x1 ((⟨2,5,1,4,7,0,0,0,0,0,0⟩:b7))) ?_
 rintro⟨x4,x5⟩ hm
 refine cy hm (b1u x4) ?_
 rintro⟨x7,x8⟩ hm
 refine cy hm (b0s x7 2) ?_
 rintro⟨x10,x11⟩ hm
 apply vb hm<;>intro _ hm
 exact hm.rr
 apply vb hm<;>intro _ hm
 exact hm.rr
 apply vb hm<;>intro _ hm
 exact hm.rr
 apply vb hm<;>intro _ hm
 exact hm.rr
 apply vb hm<;>intro _ hm
 exact hm.rr
 apply vb hm<;>intro _ hm
 exact hm.rr
 obtain⟨e19,hx20,hm⟩:=a8 hm
 refine⟨_,c8 (fun _=>rfl) hx20, ?_⟩
 apply vb hm<;>intro _ hm
 obtain⟨e22,hx23,hm⟩:=a8 hm
 refine⟨_,c8 (fun _=>rfl) hx23, ?_⟩
 refine⟨([(⟨3,1,2,4,7,0,77,0,0,0,0⟩:b7)]:List b7).flatMap b7.c,([(⟨3,1,2,4,7,0,77,0,0,0,0⟩:b7)]:List b7).length,⟨rfl,rfl⟩, ?_⟩
 refine co hm (a4M x10 (([(⟨3,1,2,4,7,0,77,0,0,0,0⟩:b7)]:List b7))) fun x24 hm=> ?_
 refine cy hm (a4F 2) ?_
 rintro⟨x26,x27⟩ hm
 refine cy hm (a1z x26 8 0 100 200) ?_
 rintro⟨x29,x30⟩ hm
 refine cy hm (a2a x29 8 150) ?_
 rintro⟨x32,x33⟩ hm
 refine cy hm (a2a x29 8 200) ?_
 rintro⟨x35,x36⟩ hm
 refine cy hm (a1z x29 8 1 150 250) ?_
 rintro⟨x38,x39⟩ hm
 refine cy hm (a6l x29 8 150 250) ?_
 rintro⟨x41,x42⟩ hm
 refine cy hm (a5m x1.Now) ?_
 rintro⟨x44,x45⟩ hm
 apply vb hm<;>intro _ hm
 apply vb hm<;>intro _ hm
 apply vb hm<;>intro _ hm
 apply vb hm<;>intro _ hm
 apply vb hm<;>intro _ hm
 apply vb hm<;>intro _ hm
 apply vb hm<;>intro _ hm
 apply vb hm<;>intro _ hm
 apply vb hm<;>intro _ hm
 apply vb hm<;>intro _ hm
 apply vb hm<;>intro _ hm
 apply vb hm<;>intro _ hm
 exact hm.rr
 exact hm.rr
 exact hm.rr
 exact hm.rr
 exact hm.rr
 exact hm.rr
 exact hm.rr
 apply vb hm<;>intro _ hm
 apply vb hm<;>intro _ hm
 exact hm.rr
 exact hm.rr
 exact hm.rr
 apply vb hm<;>intro _ hm
 apply vb hm<;>intro _ hm
 exact hm.rr
 exact hm.rr
 exact hm.rr
 apply vb hm<;>intro _ hm
 apply vb hm<;>intro _ hm
 exact hm.rr
 exact hm.rr
 exact hm.rr
 apply vb hm<;>intro _ hm
 apply vb hm<;>intro _ hm
 exact hm.rr
 exact hm.rr
 exact hm.rr
 apply vb hm<;>intro _ hm
 apply vb hm<;>intro _ hm
 exact hm.rr
 exact hm.rr
 exact hm.rr
 apply vb hm<;>intro _ hm
 apply vb hm<;>intro _ hm
 exact hm.rr
 exact hm.rr
 exact hm.rr
 refine⟨([(⟨3,1,2,4,7,0,77,0,0,0,0⟩:b7)]:List b7).flatMap b7.c,([(⟨3,1,2,4,7,0,77,0,0,0,0⟩:b7)]:List b7).length,⟨rfl,rfl⟩, ?_⟩
 refine co hm (a4M x10 (([(⟨3,1,2,4,7,0,77,0,0,0,0⟩:b7)]:List b7))) fun x71 hm=> ?_
 refine cy hm (a4F 2) ?_
 rintro⟨x73,x74⟩ hm
 refine cy hm (a1z x73 8 0 100 200) ?_
 rintro⟨x76,x77⟩ hm
 refine cy hm (a2a x76 8 150) ?_
 rintro⟨x79,x80⟩ hm
 refine cy hm (a2a x76 8 200) ?_
 rintro⟨x82,x83⟩ hm
 refine cy hm (a1z x76 8 1 150 250) ?_
 rintro⟨x85,x86⟩ hm
 refine cy hm (a6l x76 8 150 250) ?_
 rintro⟨x88,x89⟩ hm
 refine cy hm (a5m x1.Now) ?_
 rintro⟨x91,x92⟩ hm
 apply vb hm<;>intro _ hm
 apply vb hm<;>intro _ hm
 apply vb hm<;>intro _ hm
 apply vb hm<;>intro _ hm
 apply vb hm<;>intro _ hm
 apply vb hm<;>intro _ hm
 exact hm.rr
 exact hm.rr
 exact hm.rr
 exact hm.rr
 exact hm.rr
 exact hm.rr
 exact hm.rr
def J5 (p:e8) (night:Int):Int→Option (Sum Int (Sum Int (Int×Bool))):=fun v8=>
 if(decide (v8<(p.Station.Now.Heard.length:Int)))=true then
  Option.bind (idx p.Station.Now.Heard v8) fun e17=>
  if(e17.Night==night)=true then
   Option.bind (G3 e17.Mask) fun x20=>
   if x20=true then
    some (.inr (.inr (e17.Value,true)))
   else
    some (.inl (W (v8+1)))
  else
   some (.inl (W (v8+1)))
 else
  some (.inr (.inl v8))
def O1 (p:e8) (night:Int):Option (Int×Bool):=
 Option.bind (l5 (J5 p night) 0) fun e=>
 match e with
 | .inl v23=>
  some (0,false)
 | .inr rr24=>
  some rr24
theorem a5w (p:e8) (night:Int) (r:(Int×Bool)) (hm:O1 p night=some r):d0 Tryz.prog 103 [.ptr (e8.c p) 0,DI night] (fun x=>x= .tup [DI r.1,DB r.2]):=by
 refine zn Tryz.func103 rfl ?_
 obtain⟨ev25,he,hk26⟩:=a8 hm
 refine q9.ofL (J5 p night) (fun v8=>⟨[(0, .ptr (e8.c p) 0),(1,DI night),(4,DI 0),(5,DB false),(13,lD 4 p.Station.Now.Heard b4.c),(14,DI (p.Station.Now.Heard.length:Int)),(15,DI v8)], [],0⟩) 0 (c5.of 0 rfl (tA rfl) trivial) he ?_
 rintro fu27 v8 b hm hi28
 apply vb hm<;>intro _ hm
 obtain⟨e30,hx31,hm⟩:=a8 hm
 refine⟨_,c8 (fun _=>rfl) hx31, ?_⟩
 apply vb hm<;>intro _ hm
 refine cy hm (V0 e30.Mask) fun x33 hm=> ?_
 apply vb hm<;>intro _ hm
 cases hm
 cases hi28
 have hm:=hk26
 cases hm
 exact d8.le (leD.refl _)
 cases hm
 exact⟨(_,(W (v8+1))),c5.of 0 rfl (tA rfl) trivial,hi28,Nat.lt_succ_self _⟩
 cases hm
 exact⟨(_,(W (v8+1))),c5.of 0 rfl (tA rfl) trivial,hi28,Nat.lt_succ_self _⟩
 cases hm
 cases hi28
 have hm:=hk26
 cases hm
 exact d8.le (leD.refl _)
def Z1 (s:b5) (night:Int):Int→Option (Sum Int (Sum Int Int)):=fun i12=>
 if(decide (i12<(s.Heard.length:Int)))=true then
  Option.bind (idx s.Heard i12) fun e25=>
  if(e25.Night==night)=true then
   Option.bind (idx s.Heard i12) fun e28=>
   Option.bind (I7 e28.Mask) fun x30=>
   if x30=true then
    Option.bind (idx s.Heard i12) fun e33=>
    some (.inr (.inr e33.Value))
   else
    some (.inl (W (i12+1)))
  else
   some (.inl (W (i12+1)))
 else
  some (.inr (.inl i12))
def a2d (s:b5) (night:Int):Option Int:=
 Option.bind (l5 (Z1 s night) 0) fun e=>
 match e with
 | .inl i35=>
  some 0
 | .inr rr36=>
  some rr36
theorem b3u (s:b5) (night:Int) (r:Int) (hm:a2d s night=some r):d0 Tryz.prog 104 [.agg (b5.c s),DI night] (fun x=>x=DI r):=by
 refine zn Tryz.func104 rfl ?_
 obtain⟨ev37,he,hk38⟩:=a8 hm
 refine q9.ofL (Z1 s night) (fun i12=>⟨[(0, .agg (b5.c s)),(1,DI night),(2, .own 0 0),(4,DI 0),(5,DI i12)], [(0, .blk (b5.c s) 28)],1⟩) 0 (c5.of 1 rfl (tA rfl) ⟨hR rfl,trivial⟩) he ?_
 rintro fu39 i12 b hm hi40
 apply vb hm<;>intro _ hm
 obtain⟨e42,hx43,hm⟩:=a8 hm
 refine⟨_,c8 (fun _=>rfl) hx43, ?_⟩
 apply vb hm<;>intro _ hm
 obtain⟨e45,hx46,hm⟩:=a8 hm
 refine⟨_,c8 (fun _=>rfl) hx46, ?_⟩
 refine cy hm (a4J e45.Mask) fun x47 hm=> ?_
 apply vb hm<;>intro _ hm
 obtain⟨e50,hx51,hm⟩:=a8 hm
 refine⟨_,c8 (fun _=>rfl) hx51, ?_⟩
 cases hm
 cases hi40
 have hm:=hk38
 exact hm.rr
 cases hm
 exact⟨(_,(W (i12+1))),c5.of 1 rfl (tA rfl) ⟨hR rfl,trivial⟩,hi40,Nat.lt_succ_self _⟩
 cases hm
 exact⟨(_,(W (i12+1))),c5.of 1 rfl (tA rfl) ⟨hR rfl,trivial⟩,hi40,Nat.lt_succ_self _⟩
 cases hm
 cases hi40
 have hm:=hk38
 exact hm.rr
def O9 (x:List Int):Option (List Int):=some (a4c x)
theorem a3p (x r:List Int) (hm:O9 x=some r):a7N Tryz.prog 106 1 x.length (x.flatMap cI) 3 [] 1 r.length (r.flatMap cI):=by
 cases hm
 exact b7T b9a x 3
def N6 (l:(List Int)) (n:Int):((List Int)×Bool×Int×(List Int)×(List Int))→Option (Sum ((List Int)×Bool×Int×(List Int)×(List Int)) ((List Int)×Bool×Int×(List Int)×(List Int))):=fun(out14,done15,i16,out17,out18)=>
 if(decide (i16<(l.length:Int)))=true then
  Option.bind (idx l i16) fun e36=>
  if(e36==n)=true then
   Option.bind (idx l i16) fun e39=>
   gd ((out18.length+([e39]:List Int).length)*8≤140737488355328∧out18.length+([e39]:List Int).length≤9223372036854775807)<|
   some (.inl (out14,true,(W (i16+1)),out17,(out18++([e39]:List Int))))
  else
   if(!done15)=true then
    Option.bind (idx l i16) fun e42=>
    if(decide (e42>n))=true then
     gd ((out18.length+([n]:List Int).length)*8≤140737488355328∧out18.length+([n]:List Int).length≤9223372036854775807)<|
     Option.bind (idx l i16) fun e45=>
     gd (((out18++([n]:List Int)).length+([e45]:List Int).length)*8≤140737488355328∧(out18++([n]:List Int)).length+([e45]:List Int).length≤9223372036854775807)<|
     some (.inl (out14,true,(W (i16+1)),out17,((out18++([n]:List Int))++([e45]:List Int))))
    else
     Option.bind (idx l i16) fun e47=>
     gd ((out18.length+([e47]:List Int).length)*8≤140737488355328∧out18.length+([e47]:List Int).length≤9223372036854775807)<|
     some (.inl (out14,done15,(W (i16+1)),out17,(out18++([e47]:List Int))))
   else
    Option.bind (idx l i16) fun e49=>
    gd ((out18.length+([e49]:List Int).length)*8≤140737488355328∧out18.length+([e49]:List Int).length≤9223372036854775807)<|
    some (.inl (out14,done15,(W (i16+1)),out17,(out18++([e49]:List Int))))
 else
  some (.inr (out14,done15,i16,out17,out18))
def a5S (l:(List Int)) (n:Int):Option (List Int):=
 Option.bind (l5 (N6 l n) ([],false,0, [], [])) fun(out51,done52,i53,out54,out55)=>
 if(!done52)=true then
  gd ((out55.length+([n]:List Int).length)*8≤140737488355328∧out55.length+([n]:List Int).length≤9223372036854775807)<|
  some (out55++([n]:List Int))
 else
  some out55
theorem b7Y (l:(List Int)) (n:Int) (r:(List Int)) (hm:a5S l n=some r):d0 Tryz.prog 108 [lD 1 l cI,DI n] (fun x=>x=lD 1 r cI):=by
 refine zn Tryz.func108 rfl ?_
 obtain⟨ev57,he,hk58⟩:=a8 hm
 refine q9.ofL (N6 l n) (fun(out14,done15,i16,out17,out18)=>⟨[(0,lD 1 l cI),(1,DI n),(4,nS),(5, .row 2 1),(6,DB done15),(7,DI i16)], [(0,rE 1 out14 cI 3),(1,rE 1 out17 cI 3),(2,rE 1 out18 cI 3)],3⟩) ([],false,0, [], []) (c5.of 0 rfl (tA rfl) ⟨⟨rfl,rfl⟩,⟨rfl,rfl⟩,⟨rfl,rfl⟩,trivial⟩) he ?_
 rintro fu59 ⟨out14,done15,i16,out17,out18⟩ b hm hi60
 apply vb hm<;>intro _ hm
 obtain⟨e62,hx63,hm⟩:=a8 hm
 refine⟨_,c8 (fun _=>rfl) hx63, ?_⟩
 apply vb hm<;>intro _ hm
 obtain⟨e65,hx66,hm⟩:=a8 hm
 refine⟨_,c8 (fun _=>rfl) hx66, ?_⟩
 refine⟨([e65]:List Int).flatMap cI,([e65]:List Int).length,⟨rfl,rfl⟩, ?_⟩
 obtain⟨hg,hm⟩:=i4 hm
 refine⟨hg,_,_,G8 (c:=cI) (l:=(out18:List Int)) (r:=(([e65]:List Int):List Int)), ?_⟩
 cases hm
 exact⟨(_,(out14,true,(W (i16+1)),out17,(out18++([e65]:List Int)))),c5.of 3 rfl (tA rfl) ⟨hW rfl,hW rfl,hW rfl,trivial⟩,hi60,Nat.lt_succ_self _⟩
 apply vb hm<;>intro _ hm
 obtain⟨e68,hx69,hm⟩:=a8 hm
 refine⟨_,c8 (fun _=>rfl) hx69, ?_⟩
 apply vb hm<;>intro _ hm
 refine⟨([n]:List Int).flatMap cI,([n]:List Int).length,⟨rfl,rfl⟩, ?_⟩
 obtain⟨hg,hm⟩:=i4 hm
 refine⟨hg,_,_,G8 (c:=cI) (l:=(out18:List Int)) (r:=(([n]:List Int):List Int)), ?_⟩
 obtain⟨e71,hx72,hm⟩:=a8 hm
 refine⟨_,c8 (fun _=>rfl) hx72, ?_⟩
 refine⟨([e71]:List Int).flatMap cI,([e71]:List Int).length,⟨rfl,rfl⟩, ?_⟩
 obtain⟨hg,hm⟩:=i4 hm
 refine⟨hg,_,_,G8 (c:=cI) (l:=((out18++([n]:List Int)):List Int)) (r:=(([e71]:List Int):List Int)), ?_⟩
 cases hm
 exact⟨(_,(out14,true,(W (i16+1)),out17,((out18++([n]:List Int))++([e71]:List Int)))),c5.of 3 rfl (tA rfl) ⟨hW rfl,hW rfl,hW rfl,trivial⟩,hi60,Nat.lt_succ_self _⟩
 obtain⟨e73,hx74,hm⟩:=a8 hm
 refine⟨_,c8 (fun _=>rfl) hx74, ?_⟩
 refine⟨([e73]:List Int).flatMap cI,([e73]:List Int).length,⟨rfl,rfl⟩, ?_⟩
 obtain⟨hg,hm⟩:=i4 hm
 refine⟨hg,_,_,G8 (c:=cI) (l:=(out18:List Int)) (r:=(([e73]:List Int):List Int)), ?_⟩
 cases hm
 exact⟨(_,(out14,done15,(W (i16+1)),out17,(out18++([e73]:List Int)))),c5.of 3 rfl (tA rfl) ⟨hW rfl,hW rfl,hW rfl,trivial⟩,hi60,Nat.lt_succ_self _⟩
 obtain⟨e75,hx76,hm⟩:=a8 hm
 refine⟨_,c8 (fun _=>rfl) hx76, ?_⟩
 refine⟨([e75]:List Int).flatMap cI,([e75]:List Int).length,⟨rfl,rfl⟩, ?_⟩
 obtain⟨hg,hm⟩:=i4 hm
 refine⟨hg,_,_,G8 (c:=cI) (l:=(out18:List Int)) (r:=(([e75]:List Int):List Int)), ?_⟩
 cases hm
 exact⟨(_,(out14,done15,(W (i16+1)),out17,(out18++([e75]:List Int)))),c5.of 3 rfl (tA rfl) ⟨hW rfl,hW rfl,hW rfl,trivial⟩,hi60,Nat.lt_succ_self _⟩
 cases hm
 cases hi60
 have hm:=hk58
 apply vb hm<;>intro _ hm
 refine⟨([n]:List Int).flatMap cI,([n]:List Int).length,⟨rfl,rfl⟩, ?_⟩
 obtain⟨hg,hm⟩:=i4 hm
 refine⟨hg,_,_,G8 (c:=cI) (l:=(out18:List Int)) (r:=(([n]:List Int):List Int)), ?_⟩
 cases hm
 exact d8.le (leD.refl _)
 cases hm
 exact d8.le (leD.refl _)
def a2g (s:b5) (at_:(Int×Int)):Int→Option (Sum Int (Sum Int Bool)):=fun i8=>
 if(decide (i8<(s.Leases.length:Int)))=true then
  Option.bind (idx s.Leases i8) fun e16=>
  if(e16.Thing==at_.1)=true then
   if(decide (e16.From≤at_.2))=true then
    if(decide (at_.2<e16.Until))=true then
     some (.inr (.inr false))
    else
     some (.inl (W (i8+1)))
   else
    some (.inl (W (i8+1)))
  else
   some (.inl (W (i8+1)))
 else
  some (.inr (.inl i8))
def a2c (s:b5) (at_:(Int×Int)):Int→Option (Sum Int (Sum Int Bool)):=fun i39=>
 if(decide (i39<(s.Loans.length:Int)))=true then
  Option.bind (idx s.Loans i39) fun e47=>
  if(e47.Thing==at_.1)=true then
   if(decide (e47.From≤at_.2))=true then
    if(decide (at_.2<e47.Until))=true then
     some (.inr (.inr true))
    else
     some (.inl (W (i39+1)))
   else
    some (.inl (W (i39+1)))
  else
   some (.inl (W (i39+1)))
 else
  some (.inr (.inl i39))
def a5N (me:Int) (s:b5) (at_:(Int×Int)):Option Bool:=
 if((at_.1.tmod 6)==me)=true then
  Option.bind (l5 (a2g s at_) 0) fun e=>
  match e with
  | .inl i21=>
   some true
  | .inr rr22=>
   some rr22
 else
  Option.bind (l5 (a2c s at_) 0) fun e=>
  match e with
  | .inl i52=>
   some false
  | .inr rr53=>
   some rr53
theorem b8o (me:Int) (s:b5) (at_:(Int×Int)) (r:Bool) (hm:a5N me s at_=some r):d0 Tryz.prog 109 [DI me, .agg (b5.c s), .agg [DI at_.1,DI at_.2]] (fun x=>x=DB r):=by
 refine zn Tryz.func109 rfl ?_
 refine⟨by decide, ?_⟩
 refine⟨by decide, ?_⟩
 apply vb hm<;>intro _ hm
 obtain⟨ev23,he,hk24⟩:=a8 hm
 refine q9.ofL (a2g s at_) (fun i8=>⟨[(0,DI me),(1, .agg (b5.c s)),(2, .agg [DI at_.1,DI at_.2]),(4, .own 0 0),(5, .own 1 0),(6,DB false),(7,DI i8),(15,DB ((at_.1.tmod 6)==me))], [(0, .blk (b5.c s) 28),(1, .blk [DI at_.1,DI at_.2] 92)],2⟩) 0 (c5.of 2 rfl (tA rfl) ⟨hR rfl,hR rfl,trivial⟩) he ?_
 rintro fu25 i8 b hm hi26
 apply vb hm<;>intro _ hm
 obtain⟨e28,hx29,hm⟩:=a8 hm
 refine⟨_,c8 (fun _=>rfl) hx29, ?_⟩
 refine⟨by decide, ?_⟩
 apply vb hm<;>intro _ hm
 refine⟨by decide, ?_⟩
 apply vb hm<;>intro _ hm
 refine⟨by decide, ?_⟩
 apply vb hm<;>intro _ hm
 cases hm
 cases hi26
 have hm:=hk24
 exact hm.rr
 cases hm
 exact⟨(_,(W (i8+1))),c5.of 2 rfl (tA rfl) ⟨hR rfl,hR rfl,trivial⟩,hi26,Nat.lt_succ_self _⟩
 cases hm
 exact⟨(_,(W (i8+1))),c5.of 2 rfl (tA rfl) ⟨hR rfl,hR rfl,trivial⟩,hi26,Nat.lt_succ_self _⟩
 cases hm
 exact⟨(_,(W (i8+1))),c5.of 2 rfl (tA rfl) ⟨hR rfl,hR rfl,trivial⟩,hi26,Nat.lt_succ_self _⟩
 cases hm
 cases hi26
 have hm:=hk24
 exact hm.rr
 obtain⟨ev54,he,hk55⟩:=a8 hm
 refine q9.ofL (a2c s at_) (fun i39=>⟨[(0,DI me),(1, .agg (b5.c s)),(2, .agg [DI at_.1,DI at_.2]),(4, .own 0 0),(5, .own 1 0),(6,DB false),(9,DI i39),(15,DB ((at_.1.tmod 6)==me))], [(0, .blk (b5.c s) 28),(1, .blk [DI at_.1,DI at_.2] 92)],2⟩) 0 (c5.of 2 rfl (tA rfl) ⟨hR rfl,hR rfl,trivial⟩) he ?_
 rintro fu56 i39 b hm hi57
 apply vb hm<;>intro _ hm
 obtain⟨e59,hx60,hm⟩:=a8 hm
 refine⟨_,c8 (fun _=>rfl) hx60, ?_⟩
 refine⟨by decide, ?_⟩
 apply vb hm<;>intro _ hm
 refine⟨by decide, ?_⟩
 apply vb hm<;>intro _ hm
 refine⟨by decide, ?_⟩
 apply vb hm<;>intro _ hm
 cases hm
 cases hi57
 have hm:=hk55
 exact hm.rr
 cases hm
 exact⟨(_,(W (i39+1))),c5.of 2 rfl (tA rfl) ⟨hR rfl,hR rfl,trivial⟩,hi57,Nat.lt_succ_self _⟩
 cases hm
 exact⟨(_,(W (i39+1))),c5.of 2 rfl (tA rfl) ⟨hR rfl,hR rfl,trivial⟩,hi57,Nat.lt_succ_self _⟩
 cases hm
 exact⟨(_,(W (i39+1))),c5.of 2 rfl (tA rfl) ⟨hR rfl,hR rfl,trivial⟩,hi57,Nat.lt_succ_self _⟩
 cases hm
 cases hi57
 have hm:=hk55
 exact hm.rr
def a0P (a:(List Int)) (b_:(List Int)):Int→Option (Sum Int (Sum Int Bool)):=fun i8=>
 if(decide (i8<(a.length:Int)))=true then
  Option.bind (idx a i8) fun e16=>
  Option.bind (idx b_ i8) fun e18=>
  if(e16 !=e18)=true then
   some (.inr (.inr false))
  else
   some (.inl (W (i8+1)))
 else
  some (.inr (.inl i8))
def V4 (a:(List Int)) (b_:(List Int)):Option Bool:=
 if((a.length:Int) !=(b_.length:Int))=true then
  some false
 else
  Option.bind (l5 (a0P a b_) 0) fun e=>
  match e with
  | .inl i21=>
   some true
  | .inr rr22=>
   some rr22
theorem a5I (a:(List Int)) (b_:(List Int)) (r:Bool) (hm:V4 a b_=some r):d0 Tryz.prog 55 [lD 1 a cI,lD 1 b_ cI] (fun x=>x=DB r):=by
 refine zy c4E [] [] [] Tryz.func55 rfl ?_
 apply vb hm<;>intro _ hm
 exact hm.rr
 obtain⟨ev23,he,hk24⟩:=a8 hm
 refine q9.ofL (a0P a b_) (fun i8=>⟨[(0,lD 1 a cI),(1,lD 1 b_ cI),(4,DB false),(5,DI i8),(10,DB ((a.length:Int) !=(b_.length:Int)))], [],0⟩) 0 (c5.of 0 rfl (tA rfl) trivial) he ?_
 rintro fu25 i8 b hm hi26
 apply vb hm<;>intro _ hm
 refine⟨rfl, ?_⟩
 obtain⟨e28,hx29,hm⟩:=a8 hm
 refine⟨_,c8 (fun _=>rfl) hx29, ?_⟩
 obtain⟨e30,hx31,hm⟩:=a8 hm
 refine⟨_,c8 (fun _=>rfl) hx31, ?_⟩
 apply vb hm<;>intro _ hm
 cases hm
 cases hi26
 have hm:=hk24
 exact hm.rr
 cases hm
 exact⟨(_,(W (i8+1))),c5.of 0 rfl (tA rfl) trivial,hi26,Nat.lt_succ_self _⟩
 cases hm
 cases hi26
 have hm:=hk24
 exact hm.rr
def F7 (l:(List a6)):((List (Option e8))×Int×(List (Option e8)))→Option (Sum ((List (Option e8))×Int×(List (Option e8))) (Sum ((List (Option e8))×Int×(List (Option e8))) ((List (Option e8))×Int))):=fun(out10,v11,out12)=>
 if(decide (v11<(l.length:Int)))=true then
  Option.bind (idx l v11) fun e31=>
  Option.bind (K8 e31) fun⟨x33,x34⟩=>
  b2Y x33 (
   if(x34 !=0)=true then
    some (.inr (.inr ([],97)))
   else
    if(decide (v11>0))=true then
     Option.bind (idx l (W (v11-1))) fun e39=>
     if(decide (e39.Me≥e31.Me))=true then
      some (.inr (.inr ([],97)))
     else
      gd ((out12.length+([none]:List (Option e8)).length)*8≤140737488355328∧out12.length+([none]:List (Option e8)).length≤9223372036854775807)<|
      some (.inl (out10,(W (v11+1)),(out12++([none]:List (Option e8)))))
    else
     gd ((out12.length+([none]:List (Option e8)).length)*8≤140737488355328∧out12.length+([none]:List (Option e8)).length≤9223372036854775807)<|
     some (.inl (out10,(W (v11+1)),(out12++([none]:List (Option e8)))))) fun p36=>
  if(x34 !=0)=true then
   some (.inr (.inr ([],97)))
  else
   if(decide (v11>0))=true then
    Option.bind (idx l (W (v11-1))) fun e44=>
    if(decide (e44.Me≥e31.Me))=true then
     some (.inr (.inr ([],97)))
    else
     gd ((out12.length+([(some p36)]:List (Option e8)).length)*8≤140737488355328∧out12.length+([(some p36)]:List (Option e8)).length≤9223372036854775807)<|
     some (.inl (out10,(W (v11+1)),(out12++([(some p36)]:List (Option e8)))))
   else
    gd ((out12.length+([(some p36)]:List (Option e8)).length)*8≤140737488355328∧out12.length+([(some p36)]:List (Option e8)).length≤9223372036854775807)<|
    some (.inl (out10,(W (v11+1)),(out12++([(some p36)]:List (Option e8)))))
 else
  some (.inr (.inl (out10,v11,out12)))
def S7 (l:(List a6)):Option ((List (Option e8))×Int):=
 Option.bind (l5 (F7 l) ([],0, [])) fun e=>
 match e with
 | .inl (out47,v48,out49)=>
  some (out49,0)
 | .inr rr50=>
  some rr50
theorem a4V (l:(List a6)) (r:((List (Option e8))×Int)) (hm:S7 l=some r):d0 Tryz.prog 110 [lD 13 l a6.c] (fun x=>x= .tup [lD 1 r.1 cf1,DI r.2]):=by
 refine zy c3K [] [] [] Tryz.func110 rfl ?_
 obtain⟨ev51,he,hk52⟩:=a8 hm
 refine q9.ofL (F7 l) (fun(out10,v11,out12)=>⟨[(0,lD 13 l a6.c),(2,nS),(3,DI 0),(4, .row 1 1),(9,lD 13 l a6.c),(10,DI (l.length:Int)),(11,DI v11)], [(0,rE 1 out10 cf1 97),(1,rE 1 out12 cf1 97)],2⟩) ([],0, []) (c5.of 0 rfl (tA rfl) ⟨⟨rfl,rfl⟩,⟨rfl,rfl⟩,trivial⟩) he ?_
 rintro fu53 ⟨out10,v11,out12⟩ b hm hi54
 apply vb hm<;>intro _ hm
 obtain⟨e56,hx57,hm⟩:=a8 hm
 refine⟨_,c8 (fun _=>rfl) hx57, ?_⟩
 refine cy hm (a1y e56) ?_
 rintro⟨x58,x59⟩ hm
 rcases x58 with _|p61
 replace hm:=a7x hm
 refine⟨rfl, ?_⟩
 apply vb hm<;>intro _ hm
 cases hm
 cases hi54
 have hm:=hk52
 cases hm
 exact d8.le (⟨_,rfl,⟨leD.nil,leD.refl _,trivial⟩⟩)
 apply vb hm<;>intro _ hm
 obtain⟨e64,hx65,hm⟩:=a8 hm
 refine⟨_,c8 (fun _=>rfl) hx65, ?_⟩
 apply vb hm<;>intro _ hm
 cases hm
 cases hi54
 have hm:=hk52
 cases hm
 exact d8.le (⟨_,rfl,⟨leD.nil,leD.refl _,trivial⟩⟩)
 refine⟨([none]:List (Option e8)).flatMap cf1,([none]:List (Option e8)).length,⟨rfl,rfl⟩, ?_⟩
 obtain⟨hg,hm⟩:=i4 hm
 refine⟨hg,_,_,G8 (c:=cf1) (l:=(out12:List (Option e8))) (r:=(([none]:List (Option e8)):List (Option e8))), ?_⟩
 cases hm
 exact⟨(_,(out10,(W (v11+1)),(out12++([none]:List (Option e8))))),c5.of 2 rfl (tA rfl) ⟨hW rfl,hW rfl,trivial⟩,hi54,Nat.lt_succ_self _⟩
 refine⟨([none]:List (Option e8)).flatMap cf1,([none]:List (Option e8)).length,⟨rfl,rfl⟩, ?_⟩
 obtain⟨hg,hm⟩:=i4 hm
 refine⟨hg,_,_,G8 (c:=cf1) (l:=(out12:List (Option e8))) (r:=(([none]:List (Option e8)):List (Option e8))), ?_⟩
 cases hm
 exact⟨(_,(out10,(W (v11+1)),(out12++([none]:List (Option e8))))),c5.of 2 rfl (tA rfl) ⟨hW rfl,hW rfl,trivial⟩,hi54,Nat.lt_succ_self _⟩
 replace hm:=a7j hm
 refine⟨rfl, ?_⟩
 apply vb hm<;>intro _ hm
 cases hm
 cases hi54
 have hm:=hk52
 cases hm
 exact d8.le (⟨_,rfl,⟨leD.nil,leD.refl _,trivial⟩⟩)
 apply vb hm<;>intro _ hm
 obtain⟨e69,hx70,hm⟩:=a8 hm
 refine⟨_,c8 (fun _=>rfl) hx70, ?_⟩
 apply vb hm<;>intro _ hm
 cases hm
 cases hi54
 have hm:=hk52
 cases hm
 exact d8.le (⟨_,rfl,⟨leD.nil,leD.refl _,trivial⟩⟩)
 refine⟨([(some p61)]:List (Option e8)).flatMap cf1,([(some p61)]:List (Option e8)).length,⟨rfl,rfl⟩, ?_⟩
 obtain⟨hg,hm⟩:=i4 hm
 refine⟨hg,_,_,G8 (c:=cf1) (l:=(out12:List (Option e8))) (r:=(([(some p61)]:List (Option e8)):List (Option e8))), ?_⟩
 cases hm
 exact⟨(_,(out10,(W (v11+1)),(out12++([(some p61)]:List (Option e8))))),c5.of 2 rfl (tA rfl) ⟨hW rfl,hW rfl,trivial⟩,hi54,Nat.lt_succ_self _⟩
 refine⟨([(some p61)]:List (Option e8)).flatMap cf1,([(some p61)]:List (Option e8)).length,⟨rfl,rfl⟩, ?_⟩
 obtain⟨hg,hm⟩:=i4 hm
 refine⟨hg,_,_,G8 (c:=cf1) (l:=(out12:List (Option e8))) (r:=(([(some p61)]:List (Option e8)):List (Option e8))), ?_⟩
 cases hm
 exact⟨(_,(out10,(W (v11+1)),(out12++([(some p61)]:List (Option e8))))),c5.of 2 rfl (tA rfl) ⟨hW rfl,hW rfl,trivial⟩,hi54,Nat.lt_succ_self _⟩
 cases hm
 cases hi54
 have hm:=hk52
 cases hm
 exact d8.le (leD.refl _)
def N9 (thing:Int) (moment:Int) (x1:(List (Option e8))):((List Int)×Int)→Option (Sum ((List Int)×Int) ((List Int)×Int)):=fun(out18,v19)=>
 if(decide (v19<(x1.length:Int)))=true then
  Option.bind (idx x1 v19) fun e28=>
  Option.bind e28 fun p30=>
  Option.bind (N7 p30 thing moment) fun x31=>
  if x31=true then
   gd ((out18.length+([p30.Station.Me]:List Int).length)*8≤140737488355328∧out18.length+([p30.Station.Me]:List Int).length≤9223372036854775807)<|
   some (.inl ((out18++([p30.Station.Me]:List Int)),(W (v19+1))))
  else
   some (.inl (out18,(W (v19+1))))
 else
  some (.inr (out18,v19))
def a0W (l:(List a6)) (thing:Int) (moment:Int):Option ((List Int)×Int):=
 Option.bind (S7 l) fun⟨x1,x2⟩=>
 if(x2 !=0)=true then
  some ([],x2)
 else
  Option.bind (s5 thing) fun x5=>
  if(!x5)=true then
   some ([],1)
  else
   Option.bind (d6 moment) fun x8=>
   if(!x8)=true then
    some ([],95)
   else
    Option.bind (l5 (N9 thing moment x1) ([],0)) fun(out34,v35)=>
    some (out34,0)
theorem b1i (l:(List a6)) (thing:Int) (moment:Int) (r:((List Int)×Int)) (hm:a0W l thing moment=some r):d0 Tryz.prog 56 [lD 13 l a6.c,DI thing,DI moment] (fun x=>x= .tup [lD 1 r.1 cI,DI r.2]):=by
 refine zn Tryz.func56 rfl ?_
 refine cy hm (a4V l) ?_
 rintro⟨x1,x2⟩ hm
 apply vb hm<;>intro _ hm
 cases hm
 exact d8.le (⟨_,rfl,⟨leD.nil,leD.refl _,trivial⟩⟩)
 refine cy hm (B9 thing) fun x5 hm=> ?_
 apply vb hm<;>intro _ hm
 cases hm
 exact d8.le (⟨_,rfl,⟨leD.nil,leD.refl _,trivial⟩⟩)
 refine cy hm (j6 moment) fun x8 hm=> ?_
 apply vb hm<;>intro _ hm
 cases hm
 exact d8.le (⟨_,rfl,⟨leD.nil,leD.refl _,trivial⟩⟩)
 obtain⟨ev36,he,hk37⟩:=a8 hm
 refine q9.ofL (N9 thing moment x1) (fun(out18,v19)=>⟨[(0,lD 13 l a6.c),(1,DI thing),(2,DI moment),(6,nS),(7,DI 0),(8,lD 1 x1 cf1),(9,DI x2),(10, .row 0 1),(18,DB (x2 !=0)),(22,DB (!x5)),(26,DB (!x8)),(30,lD 1 x1 cf1),(31,DI (x1.length:Int)),(32,DI v19)], [(0,rE 1 out18 cI 3)],1⟩) ([],0) (c5.of 0 rfl (tA rfl) ⟨⟨rfl,rfl⟩,trivial⟩) he ?_
 rintro fu38 ⟨out18,v19⟩ b hm hi39
 apply vb hm<;>intro _ hm
 obtain⟨e41,hx42,hm⟩:=a8 hm
 refine⟨_,c8 (fun _=>rfl) hx42, ?_⟩
 obtain⟨p43,hx,hm2⟩:=a8 hm
 subst hx
 have hm:=hm2
 refine cy hm (a3g p43 thing moment) fun x44 hm=> ?_
 apply vb hm<;>intro _ hm
 refine⟨([p43.Station.Me]:List Int).flatMap cI,([p43.Station.Me]:List Int).length,⟨rfl,rfl⟩, ?_⟩
 obtain⟨hg,hm⟩:=i4 hm
 refine⟨hg,_,_,G8 (c:=cI) (l:=(out18:List Int)) (r:=(([p43.Station.Me]:List Int):List Int)), ?_⟩
 cases hm
 exact⟨(_,((out18++([p43.Station.Me]:List Int)),(W (v19+1)))),c5.of 1 rfl (tA rfl) ⟨hW rfl,trivial⟩,hi39,Nat.lt_succ_self _⟩
 cases hm
 exact⟨(_,(out18,(W (v19+1)))),c5.of 1 rfl (tA rfl) ⟨hW rfl,trivial⟩,hi39,Nat.lt_succ_self _⟩
 cases hm
 cases hi39
 have hm:=hk37
 cases hm
 exact d8.le (leD.refl _)
def a1Z (l:(List a6)):Int→Option (Sum Int (Sum Int Bool)):=fun i8=>
 if(decide (i8<(l.length:Int)))=true then
  Option.bind (idx l i8) fun e22=>
  Option.bind (a3f e22) fun x24=>
  if(x24 !=0)=true then
   some (.inr (.inr false))
  else
   if(decide (i8>0))=true then
    Option.bind (idx l (W (i8-1))) fun e28=>
    Option.bind (idx l i8) fun e30=>
    if(decide (e28.Me≥e30.Me))=true then
     some (.inr (.inr false))
    else
     some (.inl (W (i8+1)))
   else
    some (.inl (W (i8+1)))
 else
  some (.inr (.inl i8))
def a5Q (l:(List a6)):Option Bool:=
 if(decide ((l.length:Int)>6))=true then
  some false
 else
  Option.bind (l5 (a1Z l) 0) fun e=>
  match e with
  | .inl i33=>
   some true
  | .inr rr34=>
   some rr34
theorem b2i (l:(List a6)) (r:Bool) (hm:a5Q l=some r):d0 Tryz.prog 111 [lD 13 l a6.c] (fun x=>x=DB r):=by
 refine zy c3P [] [] [] Tryz.func111 rfl ?_
 apply vb hm<;>intro _ hm
 exact hm.rr
 obtain⟨ev35,he,hk36⟩:=a8 hm
 refine q9.ofL (a1Z l) (fun i8=>⟨[(0,lD 13 l a6.c),(2,DB false),(3,DI i8),(6,DB (decide ((l.length:Int)>6)))], [],0⟩) 0 (c5.of 0 rfl (tA rfl) trivial) he ?_
 rintro fu37 i8 b hm hi38
 apply vb hm<;>intro _ hm
 refine⟨rfl, ?_⟩
 obtain⟨e40,hx41,hm⟩:=a8 hm
 refine⟨_,c8 (fun _=>rfl) hx41, ?_⟩
 refine cy hm (b5c e40) fun x42 hm=> ?_
 apply vb hm<;>intro _ hm
 cases hm
 cases hi38
 have hm:=hk36
 exact hm.rr
 apply vb hm<;>intro _ hm
 obtain⟨e46,hx47,hm⟩:=a8 hm
 refine⟨_,c8 (fun _=>rfl) hx47, ?_⟩
 obtain⟨e48,hx49,hm⟩:=a8 hm
 refine⟨_,c8 (fun _=>rfl) hx49, ?_⟩
 apply vb hm<;>intro _ hm
 cases hm
 cases hi38
 have hm:=hk36
 exact hm.rr
 cases hm
 exact⟨(_,(W (i8+1))),c5.of 0 rfl (tA rfl) trivial,hi38,Nat.lt_succ_self _⟩
 cases hm
 exact⟨(_,(W (i8+1))),c5.of 0 rfl (tA rfl) trivial,hi38,Nat.lt_succ_self _⟩
 cases hm
 cases hi38
 have hm:=hk36
 exact hm.rr
def V1 (l:(List a6)) (thing:Int) (moment:Int):((List Int)×Int)→Option (Sum ((List Int)×Int) ((List Int)×Int)):=fun(out20,i21)=>
 if(decide (i21<(l.length:Int)))=true then
  Option.bind (idx l i21) fun e33=>
  Option.bind (idx l i21) fun e35=>
  Option.bind (a5N e33.Me e35.Now (thing,moment)) fun x37=>
  if x37=true then
   Option.bind (idx l i21) fun e40=>
   gd ((out20.length+([e40.Me]:List Int).length)*8≤140737488355328∧out20.length+([e40.Me]:List Int).length≤9223372036854775807)<|
   some (.inl ((out20++([e40.Me]:List Int)),(W (i21+1))))
  else
   some (.inl (out20,(W (i21+1))))
 else
  some (.inr (out20,i21))
def a3d (l:(List a6)) (thing:Int) (moment:Int):Option ((List Int)×Int):=
 Option.bind (a5Q l) fun x1=>
 if(!x1)=true then
  some ([],97)
 else
  Option.bind (Y9 thing) fun x4=>
  if(!x4)=true then
   some ([],1)
  else
   Option.bind (L7 moment) fun x7=>
   if(!x7)=true then
    some ([],95)
   else
    Option.bind (l5 (V1 l thing moment) ([],0)) fun(out42,i43)=>
    some (out42,0)
theorem b4e (l:(List a6)) (thing:Int) (moment:Int) (r:((List Int)×Int)) (hm:a3d l thing moment=some r):d0 Tryz.prog 57 [lD 13 l a6.c,DI thing,DI moment] (fun x=>x= .tup [lD 1 r.1 cI,DI r.2]):=by
 refine zy c5c [] [] [] Tryz.func57 rfl ?_
 refine cy hm (b2i l) fun x1 hm=> ?_
 apply vb hm<;>intro _ hm
 cases hm
 exact d8.le (⟨_,rfl,⟨leD.nil,leD.refl _,trivial⟩⟩)
 refine cy hm (a3u thing) fun x4 hm=> ?_
 apply vb hm<;>intro _ hm
 cases hm
 exact d8.le (⟨_,rfl,⟨leD.nil,leD.refl _,trivial⟩⟩)
 refine cy hm (U7 moment) fun x7 hm=> ?_
 apply vb hm<;>intro _ hm
 cases hm
 exact d8.le (⟨_,rfl,⟨leD.nil,leD.refl _,trivial⟩⟩)
 obtain⟨ev44,he,hk45⟩:=a8 hm
 refine q9.ofL (V1 l thing moment) (fun(out20,i21)=>⟨[(0,lD 13 l a6.c),(1,DI thing),(2,DI moment),(6,nS),(7,DI 0),(8, .row 0 1),(9,DI i21),(12,DB (!x1)),(15,DB (!x4)),(18,DB (!x7))], [(0,rE 1 out20 cI 3)],1⟩) ([],0) (c5.of 0 rfl (tA rfl) ⟨⟨rfl,rfl⟩,trivial⟩) he ?_
 rintro fu46 ⟨out20,i21⟩ b hm hi47
 apply vb hm<;>intro _ hm
 refine⟨rfl, ?_⟩
 obtain⟨e49,hx50,hm⟩:=a8 hm
 refine⟨_,c8 (fun _=>rfl) hx50, ?_⟩
 obtain⟨e51,hx52,hm⟩:=a8 hm
 refine⟨_,c8 (fun _=>rfl) hx52, ?_⟩
 refine cy hm (b8o e49.Me e51.Now (thing,moment)) fun x53 hm=> ?_
 apply vb hm<;>intro _ hm
 obtain⟨e56,hx57,hm⟩:=a8 hm
 refine⟨_,c8 (fun _=>rfl) hx57, ?_⟩
 refine⟨([e56.Me]:List Int).flatMap cI,([e56.Me]:List Int).length,⟨rfl,rfl⟩, ?_⟩
 obtain⟨hg,hm⟩:=i4 hm
 refine⟨hg,_,_,G8 (c:=cI) (l:=(out20:List Int)) (r:=(([e56.Me]:List Int):List Int)), ?_⟩
 cases hm
 exact⟨(_,((out20++([e56.Me]:List Int)),(W (i21+1)))),c5.of 1 rfl (tA rfl) ⟨hW rfl,trivial⟩,hi47,Nat.lt_succ_self _⟩
 cases hm
 exact⟨(_,(out20,(W (i21+1)))),c5.of 1 rfl (tA rfl) ⟨hW rfl,trivial⟩,hi47,Nat.lt_succ_self _⟩
 cases hm
 cases hi47
 have hm:=hk45
 cases hm
 exact d8.le (leD.refl _)
def K2 (night:Int) (x1:(List (Option e8))):((List Int)×Int)→Option (Sum ((List Int)×Int) ((List Int)×Int)):=fun(out16,v17)=>
 if(decide (v17<(x1.length:Int)))=true then
  Option.bind (idx x1 v17) fun e27=>
  Option.bind e27 fun p29=>
  Option.bind (O1 p29 night) fun⟨x30,x31⟩=>
  if x31=true then
   gd ((out16.length+([x30]:List Int).length)*8≤140737488355328∧out16.length+([x30]:List Int).length≤9223372036854775807)<|
   some (.inl ((out16++([x30]:List Int)),(W (v17+1))))
  else
   some (.inl (out16,(W (v17+1))))
 else
  some (.inr (out16,v17))
def W8 (l:(List a6)) (night:Int):Option ((List Int)×Int):=
 Option.bind (S7 l) fun⟨x1,x2⟩=>
 if(x2 !=0)=true then
  some ([],x2)
 else
  Option.bind (o4 night) fun x5=>
  if(!x5)=true then
   some ([],6)
  else
   Option.bind (l5 (K2 night x1) ([],0)) fun(out34,v35)=>
   Option.bind (E9 out34) fun x37=>
   Option.bind (O9 x37) fun x38=>
   some (x38,0)
theorem a8K (l:(List a6)) (night:Int) (r:((List Int)×Int)) (hm:W8 l night=some r):d0 Tryz.prog 58 [lD 13 l a6.c,DI night] (fun x=>x= .tup [lD 1 r.1 cI,DI r.2]):=by
 refine zy [] [99,106,149,210,211,220] [] [] Tryz.func58 rfl ?_
 refine cy hm (a4V l) ?_
 rintro⟨x1,x2⟩ hm
 apply vb hm<;>intro _ hm
 cases hm
 exact d8.le (⟨_,rfl,⟨leD.nil,leD.refl _,trivial⟩⟩)
 refine cy hm (r7 night) fun x5 hm=> ?_
 apply vb hm<;>intro _ hm
 cases hm
 exact d8.le (⟨_,rfl,⟨leD.nil,leD.refl _,trivial⟩⟩)
 obtain⟨ev40,he,hk41⟩:=a8 hm
 refine q9.ofL (K2 night x1) (fun(out16,v17)=>⟨[(0,lD 13 l a6.c),(1,DI night),(4,nS),(5,DI 0),(6,lD 1 x1 cf1),(7,DI x2),(8, .row 0 1),(18,DB (x2 !=0)),(22,DB (!x5)),(26,lD 1 x1 cf1),(27,DI (x1.length:Int)),(28,DI v17)], [(0,rE 1 out16 cI 3)],1⟩) ([],0) (c5.of 0 rfl (tA rfl) ⟨⟨rfl,rfl⟩,trivial⟩) he ?_
 rintro fu42 ⟨out16,v17⟩ b hm hi43
 apply vb hm<;>intro _ hm
 obtain⟨e45,hx46,hm⟩:=a8 hm
 refine⟨_,c8 (fun _=>rfl) hx46, ?_⟩
 obtain⟨p47,hx,hm2⟩:=a8 hm
 subst hx
 have hm:=hm2
 refine cy hm (a5w p47 night) ?_
 rintro⟨x48,x49⟩ hm
 apply vb hm<;>intro _ hm
 refine⟨([x48]:List Int).flatMap cI,([x48]:List Int).length,⟨rfl,rfl⟩, ?_⟩
 obtain⟨hg,hm⟩:=i4 hm
 refine⟨hg,_,_,G8 (c:=cI) (l:=(out16:List Int)) (r:=(([x48]:List Int):List Int)), ?_⟩
 cases hm
 exact⟨(_,((out16++([x48]:List Int)),(W (v17+1)))),c5.of 1 rfl (tA rfl) ⟨hW rfl,trivial⟩,hi43,Nat.lt_succ_self _⟩
 cases hm
 exact⟨(_,(out16,(W (v17+1)))),c5.of 1 rfl (tA rfl) ⟨hW rfl,trivial⟩,hi43,Nat.lt_succ_self _⟩
 cases hm
 cases hi43
 have hm:=hk41
 obtain⟨x53,hx52,hm⟩:=a8 hm
 refine .inr (b6K.mk ⟨_,_,_,_,_,_,rfl,a1b out16 _ hx52, ?_⟩)
 obtain⟨x54,hx55,hm⟩:=a8 hm
 refine .inl (a8Q.mk ⟨_,_,_,_,_,_,_,rfl,a3p x53 _ hx55, ?_⟩)
 cases hm
 exact d8.le (leD.refl _)
def P6 (l:(List a6)) (night:Int):((List Int)×Int)→Option (Sum ((List Int)×Int) ((List Int)×Int)):=fun(out15,i16)=>
 if(decide (i16<(l.length:Int)))=true then
  Option.bind (idx l i16) fun e26=>
  Option.bind (a2d e26.Now night) fun x28=>
  if(x28 !=0)=true then
   Option.bind (a5S out15 x28) fun x31=>
   some (.inl (x31,(W (i16+1))))
  else
   some (.inl (out15,(W (i16+1))))
 else
  some (.inr (out15,i16))
def a1x (l:(List a6)) (night:Int):Option ((List Int)×Int):=
 Option.bind (a5Q l) fun x1=>
 if(!x1)=true then
  some ([],97)
 else
  Option.bind (S8 night) fun x4=>
  if(!x4)=true then
   some ([],6)
  else
   Option.bind (l5 (P6 l night) ([],0)) fun(out33,i34)=>
   some (out33,0)
theorem b1I (l:(List a6)) (night:Int) (r:((List Int)×Int)) (hm:a1x l night=some r):d0 Tryz.prog 59 [lD 13 l a6.c,DI night] (fun x=>x= .tup [lD 1 r.1 cI,DI r.2]):=by
 refine zn Tryz.func59 rfl ?_
 refine cy hm (b2i l) fun x1 hm=> ?_
 apply vb hm<;>intro _ hm
 cases hm
 exact d8.le (⟨_,rfl,⟨leD.nil,leD.refl _,trivial⟩⟩)
 refine cy hm (a1A night) fun x4 hm=> ?_
 apply vb hm<;>intro _ hm
 cases hm
 exact d8.le (⟨_,rfl,⟨leD.nil,leD.refl _,trivial⟩⟩)
 obtain⟨ev35,he,hk36⟩:=a8 hm
 refine q9.ofL (P6 l night) (fun(out15,i16)=>⟨[(0,lD 13 l a6.c),(1,DI night),(4,nS),(5,DI 0),(6,lD 1 out15 cI),(7,DI i16),(11,DB (!x1)),(14,DB (!x4))], [],0⟩) ([],0) (c5.of 0 rfl ⟨tR rfl,tR rfl,tR rfl,tR rfl,⟨_,rfl,leD.nil⟩,tR rfl,tR rfl,tR rfl,trivial⟩ trivial) he ?_
 rintro fu37 ⟨out15,i16⟩ b hm hi38
 apply vb hm<;>intro _ hm
 obtain⟨e40,hx41,hm⟩:=a8 hm
 refine⟨_,c8 (fun _=>rfl) hx41, ?_⟩
 refine cy hm (b3u e40.Now night) fun x42 hm=> ?_
 apply vb hm<;>intro _ hm
 refine cy hm (b7Y out15 x42) fun x45 hm=> ?_
 cases hm
 exact⟨(_,(x45,(W (i16+1)))),c5.of 0 rfl (tA rfl) trivial,hi38,Nat.lt_succ_self _⟩
 cases hm
 exact⟨(_,(out15,(W (i16+1)))),c5.of 0 rfl (tA rfl) trivial,hi38,Nat.lt_succ_self _⟩
 cases hm
 cases hi38
 have hm:=hk36
 cases hm
 exact d8.le (leD.refl _)
def a1M (l:(List a6)) (at_:(Int×Int)) (night:Int):Option Bool:=
 Option.bind (a0W l at_.1 at_.2) fun⟨x1,x2⟩=>
 Option.bind (a3d l at_.1 at_.2) fun⟨x4,x5⟩=>
 Option.bind (W8 l night) fun⟨x7,x8⟩=>
 Option.bind (a1x l night) fun⟨x10,x11⟩=>
 Option.bind (V4 x1 x4) fun x13=>
 if x13=true then
  if(x2==x5)=true then
   Option.bind (V4 x7 x10) fun x17=>
   if x17=true then
    if(x8==x11)=true then
     Option.bind (a4z) fun x21=>
     some x21
    else
     some false
   else
    some false
  else
   some false
 else
  some false
theorem a9r (l:(List a6)) (at_:(Int×Int)) (night:Int) (r:Bool) (hm:a1M l at_ night=some r):d0 Tryz.prog 10 [lD 13 l a6.c, .agg [DI at_.1,DI at_.2],DI night] (fun x=>x=DB r):=by
 refine zn Tryz.func10 rfl ?_
 refine⟨by decide, ?_⟩
 refine⟨by decide, ?_⟩
 refine cy hm (b1i l at_.1 at_.2) ?_
 rintro⟨x1,x2⟩ hm
 refine⟨by decide, ?_⟩
 refine⟨by decide, ?_⟩
 refine cy hm (b4e l at_.1 at_.2) ?_
 rintro⟨x4,x5⟩ hm
 refine cy hm (a8K l night) ?_
 rintro⟨x7,x8⟩ hm
 refine cy hm (b1I l night) ?_
 rintro⟨x10,x11⟩ hm
 refine cy hm (a5I x1 x4) fun x13 hm=> ?_
 apply vb hm<;>intro _ hm
 apply vb hm<;>intro _ hm
 refine cy hm (a5I x7 x10) fun x17 hm=> ?_
 apply vb hm<;>intro _ hm
 apply vb hm<;>intro _ hm
 refine cy hm (b5G) fun x21 hm=> ?_
 exact hm.rr
 exact hm.rr
 exact hm.rr
 exact hm.rr
 exact hm.rr
end Go.Proofs.YtcedmbakcchkiaaGreatDoor
