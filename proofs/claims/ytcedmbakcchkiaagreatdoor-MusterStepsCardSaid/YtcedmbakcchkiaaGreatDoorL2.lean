/- Functions of the program as pure Lean functions, and that calls do what these say. Printed by a program out of the given form. -/
import Derived.Test.YtcedmbakcchkiaaGreatDoorL1
set_option linter.unusedVariables false
set_option linter.unusedSimpArgs false
namespace Go.Proofs.YtcedmbakcchkiaaGreatDoor
open Go Go.RowKit Go.Sx
set_option maxRecDepth 100000
set_option maxHeartbeats 20000000
def N7 (x:a6) (c:b8):Option (a6×Int):=
 Option.bind (O2 x) fun e=>
 match e with
 | .inl x8=>
  if(x8 !=0)=true then
   some ((⟨0,(⟨0, [], [], [], [], []⟩:b7),(⟨0, [], [], [], [], []⟩:b7)⟩:a6),x8)
  else
   Option.bind (X6 c) fun x32=>
   if(!x32)=true then
    some ((⟨0,(⟨0, [], [], [], [], []⟩:b7),(⟨0, [], [], [], [], []⟩:b7)⟩:a6),91)
   else
    none
 | .inr (v9,v10,v11,v12,v13,v14,v15,v16,v17,v18,x19,x20,x21)=>
  Option.bind (X6 c) fun x35=>
  if(!x35)=true then
   some ((⟨0,(⟨0, [], [], [], [], []⟩:b7),(⟨0, [], [], [], [], []⟩:b7)⟩:a6),91)
  else
   if(c.To !=x19)=true then
    some ((⟨0,(⟨0, [], [], [], [], []⟩:b7),(⟨0, [], [], [], [], []⟩:b7)⟩:a6),91)
   else
    if(c.Kind==1)=true then
     Option.bind (R9 c v9) fun⟨v89,x90⟩=>
     if(!x90)=true then
      some ((⟨0,(⟨0, [], [], [], [], []⟩:b7),(⟨0, [], [], [], [], []⟩:b7)⟩:a6),2)
     else
      some ((⟨x19,(⟨x20,v89,v10,v11,v12,v13⟩:b7),(⟨x21,v14,v15,v16,v17,v18⟩:b7)⟩:a6),0)
    else
     if(c.Kind==2)=true then
      Option.bind (R4 c v10) fun v291=>
      some ((⟨x19,(⟨x20,v9,v291,v11,v12,v13⟩:b7),(⟨x21,v14,v15,v16,v17,v18⟩:b7)⟩:a6),0)
     else
      if(c.Kind==3)=true then
       Option.bind (U4 c v9) fun⟨v408,x409⟩=>
       if(!x409)=true then
        some ((⟨0,(⟨0, [], [], [], [], []⟩:b7),(⟨0, [], [], [], [], []⟩:b7)⟩:a6),2)
       else
        some ((⟨x19,(⟨x20,v408,v10,v11,v12,v13⟩:b7),(⟨x21,v14,v15,v16,v17,v18⟩:b7)⟩:a6),0)
      else
       if(c.Kind==4)=true then
        Option.bind (P7 c v11) fun⟨v621,x622⟩=>
        if(!x622)=true then
         some ((⟨0,(⟨0, [], [], [], [], []⟩:b7),(⟨0, [], [], [], [], []⟩:b7)⟩:a6),2)
        else
         some ((⟨x19,(⟨x20,v9,v10,v621,v12,v13⟩:b7),(⟨x21,v14,v15,v16,v17,v18⟩:b7)⟩:a6),0)
       else
        if(c.Kind==5)=true then
         Option.bind (V6 c v13) fun⟨v725,x726⟩=>
         if(!x726)=true then
          some ((⟨0,(⟨0, [], [], [], [], []⟩:b7),(⟨0, [], [], [], [], []⟩:b7)⟩:a6),2)
         else
          some ((⟨x19,(⟨x20,v9,v10,v11,v12,v725⟩:b7),(⟨x21,v14,v15,v16,v17,v18⟩:b7)⟩:a6),0)
        else
         if(c.Kind==6)=true then
          Option.bind (Y8 c v12) fun v839=>
          some ((⟨x19,(⟨x20,v9,v10,v11,v839,v13⟩:b7),(⟨x21,v14,v15,v16,v17,v18⟩:b7)⟩:a6),0)
         else
          none
theorem a2y (x:a6) (c:b8) (r:(a6×Int)) (hm:N7 x c=some r):d7 Tryz.prog 37 [.agg (a6.c x), .agg (b8.c c)] (fun x=>x= .tup [.agg (a6.c r.1),DI r.2]):=by
 refine zy c5x [99,106,149,210,211,220] [62] [61,154,155,156,157,158,159,184,188,189,208] Tryz.func37 rfl ?_
 obtain⟨ev29,he30,hm⟩:=b5 hm
 refine K1.ofZ pok ⟨[(0, .agg (a6.c x)),(1000000, .agg (a6.c x)),(1000001, .agg (b8.c c)),(1000002, .own 0 0),(1000003, .own 1 0),(1000004, .own 2 0),(1000005,DI 0)], [(0, .blk (a6.c x) 30),(1, .blk (b8.c c) 42),(2, .blk [DI 0,DI 0,nS,nS,nS,nS,nS,DI 0,nS,nS,nS,nS,nS] 30)],3⟩ (match ev29 with| .inl x8=>(⟨[(0, .agg (a6.c x)),(1, .agg (b8.c c)),(2, .own 0 0),(3, .own 1 0),(4, .own 2 0),(5,DI 0),(10, .tup [.v (.pointer none),DI x8])], [(0, .blk (a6.c x) 30),(1, .blk (b8.c c) 42),(2, .blk [DI 0,DI 0,nS,nS,nS,nS,nS,DI 0,nS,nS,nS,nS,nS] 30)],3⟩:Sy)| .inr (v9,v10,v11,v12,v13,v14,v15,v16,v17,v18,x19,x20,x21)=>(⟨[(0, .agg (a6.c x)),(1, .agg (b8.c c)),(2, .own 0 0),(3, .own 1 0),(4, .own 2 0),(5,DI 0),(10, .tup [.own 14 0,DI 0])], [(0, .blk (a6.c x) 30),(1, .blk (b8.c c) 42),(2, .blk [DI 0,DI 0,nS,nS,nS,nS,nS,DI 0,nS,nS,nS,nS,nS] 30),(4,rE 4 v9 a8.c 110),(5,rE 6 v10 b9.c 108),(6,rE 4 v11 a7.c 149),(7,rE 5 v12 b6.c 112),(8,rE 6 v13 b4.c 114),(9,rE 4 v14 a8.c 110),(10,rE 6 v15 b9.c 108),(11,rE 4 v16 a7.c 149),(12,rE 5 v17 b6.c 112),(13,rE 6 v18 b4.c 114),(14, .blk [DI x19,DI x20, .row 4 4, .row 5 6, .row 6 4, .row 7 5, .row 8 6,DI x21, .row 9 4, .row 10 6, .row 11 4, .row 12 5, .row 13 6] 102)],15⟩:Sy):Sy) b8Q [99,106,149,210,211,220] [62] [61,154,155,156,157,158,159,184,188,189,208] Tryz.func61 rfl rfl rfl (c5.of 3 rfl (tA rfl) ⟨hR rfl,hR rfl,hR rfl,trivial⟩) (fun sv=> ?_) ?_
 have hm:=he30
 refine cy hm (U2 x) fun x1002 hm=> ?_
 apply vb hm<;>intro _ hm
 cases hm
 exact c5.of 3 rfl (tA rfl) ⟨hR rfl,hR rfl,hR rfl,trivial⟩
 refine⟨rfl, ?_⟩
 obtain⟨x1005,hx1006,hm⟩:=b5 hm
 refine .inr (a3F.mk ⟨_,_,J1 x.Now _ hx1006, ?_⟩)
 obtain⟨x1007,hx1008,hm⟩:=b5 hm
 refine .inr (a3F.mk ⟨_,_,J1 x.Safe _ hx1008, ?_⟩)
 cases hm
 exact c5.of 15 rfl (tA rfl) ⟨hR rfl,hR rfl,hR rfl,hW rfl,hW rfl,hW rfl,hW rfl,hW rfl,hW rfl,hW rfl,hW rfl,hW rfl,hW rfl,hR rfl,trivial⟩
 rcases ev29 with x8|⟨v9,v10,v11,v12,v13,v14,v15,v16,v17,v18,x19,x20,x21⟩
 apply vb hm<;>intro _ hm
 cases hm
 exact d0.le (⟨_,rfl,⟨⟨_,rfl,⟨leD.refl _,leD.refl _,leD.nil,leD.nil,leD.nil,leD.nil,leD.nil,leD.refl _,leD.nil,leD.nil,leD.nil,leD.nil,leD.nil,trivial⟩⟩,leD.refl _,trivial⟩⟩)
 refine⟨rfl, ?_⟩
 refine cy hm (a5T c) fun x32 hm=> ?_
 apply vb hm<;>intro _ hm
 cases hm
 exact d0.le (⟨_,rfl,⟨⟨_,rfl,⟨leD.refl _,leD.refl _,leD.nil,leD.nil,leD.nil,leD.nil,leD.nil,leD.refl _,leD.nil,leD.nil,leD.nil,leD.nil,leD.nil,trivial⟩⟩,leD.refl _,trivial⟩⟩)
 cases hm
 refine⟨rfl, ?_⟩
 refine cy hm (a5T c) fun x35 hm=> ?_
 apply vb hm<;>intro _ hm
 cases hm
 exact d0.le (⟨_,rfl,⟨⟨_,rfl,⟨leD.refl _,leD.refl _,leD.nil,leD.nil,leD.nil,leD.nil,leD.nil,leD.refl _,leD.nil,leD.nil,leD.nil,leD.nil,leD.nil,trivial⟩⟩,leD.refl _,trivial⟩⟩)
 apply vb hm<;>intro _ hm
 cases hm
 exact d0.le (⟨_,rfl,⟨⟨_,rfl,⟨leD.refl _,leD.refl _,leD.nil,leD.nil,leD.nil,leD.nil,leD.nil,leD.refl _,leD.nil,leD.nil,leD.nil,leD.nil,leD.nil,trivial⟩⟩,leD.refl _,trivial⟩⟩)
 refine⟨rfl, ?_⟩
 refine a3v.det b2K ?_
 cases h39:(c.Kind==1)
 rotate_left
 replace hm:=b8D h39 hm
 refine⟨⟨3,139,by kernel_rfl,by kernel_rfl⟩,154,by simp only [a6w,h39], ?_⟩
 obtain⟨ev174,he175,hm⟩:=b5 hm
 refine K1.ofZ pok ⟨[(0, .own 14 0),(1, .agg (b8.c c)),(1000000, .agg (a6.c x)),(1000001, .agg (b8.c c)),(1000002, .own 0 0),(1000003, .own 1 0),(1000004, .own 2 0),(1000005,DI 0),(1000006, .own 14 0),(1000007,DI 0),(1000013,DB false),(1000018,DB (c.To !=x19))], [(0, .blk (a6.c x) 30),(1, .blk (b8.c c) 42),(2, .blk [DI 0,DI 0,nS,nS,nS,nS,nS,DI 0,nS,nS,nS,nS,nS] 30),(4,rE 4 v9 a8.c 110),(5,rE 6 v10 b9.c 108),(6,rE 4 v11 a7.c 149),(7,rE 5 v12 b6.c 112),(8,rE 6 v13 b4.c 114),(9,rE 4 v14 a8.c 110),(10,rE 6 v15 b9.c 108),(11,rE 4 v16 a7.c 149),(12,rE 5 v17 b6.c 112),(13,rE 6 v18 b4.c 114),(14, .blk [DI x19,DI x20, .row 4 4, .row 5 6, .row 6 4, .row 7 5, .row 8 6,DI x21, .row 9 4, .row 10 6, .row 11 4, .row 12 5, .row 13 6] 102)],15⟩ (match ev174 with|(v89,x90)=>(⟨[(0, .agg (a6.c x)),(1, .agg (b8.c c)),(2, .own 0 0),(3, .own 1 0),(4, .own 2 0),(5,DI 0),(6, .own 14 0),(7,DI 0),(13,DB false),(18,DB (c.To !=x19)),(40,DB x90)], [(0, .blk (a6.c x) 30),(1, .blk (b8.c c) 42),(2, .blk [DI 0,DI 0,nS,nS,nS,nS,nS,DI 0,nS,nS,nS,nS,nS] 30),(4,rE 4 v89 a8.c 110),(5,rE 6 v10 b9.c 108),(6,rE 4 v11 a7.c 149),(7,rE 5 v12 b6.c 112),(8,rE 6 v13 b4.c 114),(9,rE 4 v14 a8.c 110),(10,rE 6 v15 b9.c 108),(11,rE 4 v16 a7.c 149),(12,rE 5 v17 b6.c 112),(13,rE 6 v18 b4.c 114),(14, .blk [DI x19,DI x20, .row 4 4, .row 5 6, .row 6 4, .row 7 5, .row 8 6,DI x21, .row 9 4, .row 10 6, .row 11 4, .row 12 5, .row 13 6] 102)],15⟩:Sy):Sy) c4G [99,106,149,210,211,220] [62] [61,154,155,156,157,158,159,184,188,189,208] Tryz.func154 rfl rfl rfl (c5.of 15 rfl (tA rfl) ⟨hR rfl,hR rfl,hR rfl,hW rfl,hW rfl,hW rfl,hW rfl,hW rfl,hW rfl,hW rfl,hW rfl,hW rfl,hW rfl,hR rfl,trivial⟩) (fun sv=> ?_) ?_
 have hm:=he175
 obtain⟨ev226,he227,hm⟩:=b5 hm
 refine K1.ofZ pok ⟨[(0, .own 14 0),(1,DI c.Night),(1000000, .own 14 0),(1000001, .agg (b8.c c)),(1000003, .own 15 0),(1000004,DB false),(1000030, .agg (a6.c x)),(1000031, .agg (b8.c c)),(1000032, .own 0 0),(1000033, .own 1 0),(1000034, .own 2 0),(1000035,DI 0),(1000036, .own 14 0),(1000037,DI 0),(1000043,DB false),(1000048,DB (c.To !=x19))], [(0, .blk (a6.c x) 30),(1, .blk (b8.c c) 42),(2, .blk [DI 0,DI 0,nS,nS,nS,nS,nS,DI 0,nS,nS,nS,nS,nS] 30),(4,rE 4 v9 a8.c 110),(5,rE 6 v10 b9.c 108),(6,rE 4 v11 a7.c 149),(7,rE 5 v12 b6.c 112),(8,rE 6 v13 b4.c 114),(9,rE 4 v14 a8.c 110),(10,rE 6 v15 b9.c 108),(11,rE 4 v16 a7.c 149),(12,rE 5 v17 b6.c 112),(13,rE 6 v18 b4.c 114),(14, .blk [DI x19,DI x20, .row 4 4, .row 5 6, .row 6 4, .row 7 5, .row 8 6,DI x21, .row 9 4, .row 10 6, .row 11 4, .row 12 5, .row 13 6] 102),(15, .blk (b8.c c) 42)],16⟩ (match ev226 with| .inl (v197,x198)=>(⟨[(0, .own 14 0),(1, .agg (b8.c c)),(3, .own 15 0),(4,DB false),(11, .tup [.elr 4 4 (x198).toNat 0,DB true]),(1000000, .agg (a6.c x)),(1000001, .agg (b8.c c)),(1000002, .own 0 0),(1000003, .own 1 0),(1000004, .own 2 0),(1000005,DI 0),(1000006, .own 14 0),(1000007,DI 0),(1000013,DB false),(1000018,DB (c.To !=x19))], [(0, .blk (a6.c x) 30),(1, .blk (b8.c c) 42),(2, .blk [DI 0,DI 0,nS,nS,nS,nS,nS,DI 0,nS,nS,nS,nS,nS] 30),(4,rE 4 v197 a8.c 110),(5,rE 6 v10 b9.c 108),(6,rE 4 v11 a7.c 149),(7,rE 5 v12 b6.c 112),(8,rE 6 v13 b4.c 114),(9,rE 4 v14 a8.c 110),(10,rE 6 v15 b9.c 108),(11,rE 4 v16 a7.c 149),(12,rE 5 v17 b6.c 112),(13,rE 6 v18 b4.c 114),(14, .blk [DI x19,DI x20, .row 4 4, .row 5 6, .row 6 4, .row 7 5, .row 8 6,DI x21, .row 9 4, .row 10 6, .row 11 4, .row 12 5, .row 13 6] 102),(15, .blk (b8.c c) 42)],16⟩:Sy)| .inr _=>(⟨[(0, .own 14 0),(1, .agg (b8.c c)),(3, .own 15 0),(4,DB false),(11, .tup [.v (.pointer none),DB false]),(1000000, .agg (a6.c x)),(1000001, .agg (b8.c c)),(1000002, .own 0 0),(1000003, .own 1 0),(1000004, .own 2 0),(1000005,DI 0),(1000006, .own 14 0),(1000007,DI 0),(1000013,DB false),(1000018,DB (c.To !=x19))], [(0, .blk (a6.c x) 30),(1, .blk (b8.c c) 42),(2, .blk [DI 0,DI 0,nS,nS,nS,nS,nS,DI 0,nS,nS,nS,nS,nS] 30),(4,rE 4 v9 a8.c 110),(5,rE 6 v10 b9.c 108),(6,rE 4 v11 a7.c 149),(7,rE 5 v12 b6.c 112),(8,rE 6 v13 b4.c 114),(9,rE 4 v14 a8.c 110),(10,rE 6 v15 b9.c 108),(11,rE 4 v16 a7.c 149),(12,rE 5 v17 b6.c 112),(13,rE 6 v18 b4.c 114),(14, .blk [DI x19,DI x20, .row 4 4, .row 5 6, .row 6 4, .row 7 5, .row 8 6,DI x21, .row 9 4, .row 10 6, .row 11 4, .row 12 5, .row 13 6] 102),(15, .blk (b8.c c) 42)],16⟩:Sy):Sy) [] [99,106,149,210,211,220] [62] [61,154,155,156,157,158,159,184,188,189,208] Tryz.func184 rfl rfl rfl (c5.of 16 rfl (tA rfl) ⟨hR rfl,hR rfl,hR rfl,hW rfl,hW rfl,hW rfl,hW rfl,hW rfl,hW rfl,hW rfl,hW rfl,hW rfl,hW rfl,hR rfl,hR rfl,trivial⟩) (fun sv=> ?_) ?_
 have hm:=he227
 obtain⟨ev249,he250,hm⟩:=b5 hm
 refine K1.ofZ pok ⟨[(0, .row 4 4),(1, .agg [DI c.Night,DI 0,DI 0,DI 0]),(2,DI 12),(3, .fn 136 [] []),(1000000, .own 14 0),(1000001,DI c.Night),(1000004, .v (.pointer none)),(1000005,DB false),(1000033, .own 14 0),(1000034, .agg (b8.c c)),(1000036, .own 15 0),(1000037,DB false),(1000063, .agg (a6.c x)),(1000064, .agg (b8.c c)),(1000065, .own 0 0),(1000066, .own 1 0),(1000067, .own 2 0),(1000068,DI 0),(1000069, .own 14 0),(1000070,DI 0),(1000076,DB false),(1000081,DB (c.To !=x19))], [(0, .blk (a6.c x) 30),(1, .blk (b8.c c) 42),(2, .blk [DI 0,DI 0,nS,nS,nS,nS,nS,DI 0,nS,nS,nS,nS,nS] 30),(4,rE 4 v9 a8.c 110),(5,rE 6 v10 b9.c 108),(6,rE 4 v11 a7.c 149),(7,rE 5 v12 b6.c 112),(8,rE 6 v13 b4.c 114),(9,rE 4 v14 a8.c 110),(10,rE 6 v15 b9.c 108),(11,rE 4 v16 a7.c 149),(12,rE 5 v17 b6.c 112),(13,rE 6 v18 b4.c 114),(14, .blk [DI x19,DI x20, .row 4 4, .row 5 6, .row 6 4, .row 7 5, .row 8 6,DI x21, .row 9 4, .row 10 6, .row 11 4, .row 12 5, .row 13 6] 102),(15, .blk (b8.c c) 42)],16⟩ (match ev249 with| .inl (v240,x241)=>(⟨[(0, .own 14 0),(1,DI c.Night),(4, .v (.pointer none)),(5,DB false),(18, .tup [.row 4 4,DI x241,DB true]),(1000000, .own 14 0),(1000001, .agg (b8.c c)),(1000003, .own 15 0),(1000004,DB false),(1000030, .agg (a6.c x)),(1000031, .agg (b8.c c)),(1000032, .own 0 0),(1000033, .own 1 0),(1000034, .own 2 0),(1000035,DI 0),(1000036, .own 14 0),(1000037,DI 0),(1000043,DB false),(1000048,DB (c.To !=x19))], [(0, .blk (a6.c x) 30),(1, .blk (b8.c c) 42),(2, .blk [DI 0,DI 0,nS,nS,nS,nS,nS,DI 0,nS,nS,nS,nS,nS] 30),(4,rE 4 v240 a8.c 110),(5,rE 6 v10 b9.c 108),(6,rE 4 v11 a7.c 149),(7,rE 5 v12 b6.c 112),(8,rE 6 v13 b4.c 114),(9,rE 4 v14 a8.c 110),(10,rE 6 v15 b9.c 108),(11,rE 4 v16 a7.c 149),(12,rE 5 v17 b6.c 112),(13,rE 6 v18 b4.c 114),(14, .blk [DI x19,DI x20, .bad, .row 5 6, .row 6 4, .row 7 5, .row 8 6,DI x21, .row 9 4, .row 10 6, .row 11 4, .row 12 5, .row 13 6] 102),(15, .blk (b8.c c) 42)],16⟩:Sy)| .inr _=>(⟨[(0, .own 14 0),(1,DI c.Night),(4, .v (.pointer none)),(5,DB false),(18, .tup [nS,DI 0,DB false]),(1000000, .own 14 0),(1000001, .agg (b8.c c)),(1000003, .own 15 0),(1000004,DB false),(1000030, .agg (a6.c x)),(1000031, .agg (b8.c c)),(1000032, .own 0 0),(1000033, .own 1 0),(1000034, .own 2 0),(1000035,DI 0),(1000036, .own 14 0),(1000037,DI 0),(1000043,DB false),(1000048,DB (c.To !=x19))], [(0, .blk (a6.c x) 30),(1, .blk (b8.c c) 42),(2, .blk [DI 0,DI 0,nS,nS,nS,nS,nS,DI 0,nS,nS,nS,nS,nS] 30),(4,rE 4 v9 a8.c 110),(5,rE 6 v10 b9.c 108),(6,rE 4 v11 a7.c 149),(7,rE 5 v12 b6.c 112),(8,rE 6 v13 b4.c 114),(9,rE 4 v14 a8.c 110),(10,rE 6 v15 b9.c 108),(11,rE 4 v16 a7.c 149),(12,rE 5 v17 b6.c 112),(13,rE 6 v18 b4.c 114),(14, .blk [DI x19,DI x20, .row 4 4, .row 5 6, .row 6 4, .row 7 5, .row 8 6,DI x21, .row 9 4, .row 10 6, .row 11 4, .row 12 5, .row 13 6] 102),(15, .blk (b8.c c) 42)],16⟩:Sy):Sy) [] [99,106,149,210,211,220] [62] [61,154,155,156,157,158,159,184,188,189,208] Tryz.func208 rfl rfl rfl (c5.of 16 rfl (tA rfl) ⟨hR rfl,hR rfl,hR rfl,hW rfl,hW rfl,hW rfl,hW rfl,hW rfl,hW rfl,hW rfl,hW rfl,hW rfl,hW rfl,hR rfl,hR rfl,trivial⟩) (fun sv=> ?_) ?_
 have hm:=he250
 refine co hm (I7 v9 ((⟨c.Night,0,0,0⟩:a8))) ?_
 rintro⟨x253,x254⟩ hm
 apply vb hm<;>intro _ hm
 cases hm
 exact c5.of 16 rfl (tA rfl) ⟨hR rfl,hR rfl,hR rfl,hW rfl,hW rfl,hW rfl,hW rfl,hW rfl,hW rfl,hW rfl,hW rfl,hW rfl,hW rfl,⟨_,rfl,⟨leD.refl _,leD.refl _,leD.refl _,leD.refl _,leD.refl _,leD.refl _,leD.refl _,leD.refl _,leD.refl _,leD.refl _,leD.refl _,leD.refl _,trivial⟩⟩,hR rfl,trivial⟩
 apply vb hm<;>intro _ hm
 cases hm
 exact c5.of 16 rfl (tA rfl) ⟨hR rfl,hR rfl,hR rfl,hW rfl,hW rfl,hW rfl,hW rfl,hW rfl,hW rfl,hW rfl,hW rfl,hW rfl,hW rfl,hR rfl,hR rfl,trivial⟩
 refine⟨([(⟨c.Night,0,0,0⟩:a8)]:List a8).flatMap a8.c,([(⟨c.Night,0,0,0⟩:a8)]:List a8).length,⟨rfl,rfl⟩, ?_⟩
 obtain⟨x258,hx259,hm⟩:=b5 hm
 refine .inl (b1I.mk ⟨_,_,_,_,_,_,_,rfl,P6 v9 x253 (([(⟨c.Night,0,0,0⟩:a8)]:List a8)) _ hx259, ?_⟩)
 cases hm
 exact c5.of 16 rfl (tA rfl) ⟨hR rfl,hR rfl,hR rfl,hW rfl,hW rfl,hW rfl,hW rfl,hW rfl,hW rfl,hW rfl,hW rfl,hW rfl,hW rfl,hR rfl,hR rfl,trivial⟩
 rcases ev249 with⟨v240,x241⟩|⟨⟩
 obtain⟨e251,hx252,hm⟩:=b5 hm
 refine⟨z7 hx252, ?_⟩
 cases hm
 exact c5.of 16 rfl (tA rfl) ⟨hR rfl,hR rfl,hR rfl,hW rfl,hW rfl,hW rfl,hW rfl,hW rfl,hW rfl,hW rfl,hW rfl,hW rfl,hW rfl,hR rfl,hR rfl,trivial⟩
 cases hm
 exact c5.of 16 rfl (tA rfl) ⟨hR rfl,hR rfl,hR rfl,hW rfl,hW rfl,hW rfl,hW rfl,hW rfl,hW rfl,hW rfl,hW rfl,hW rfl,hW rfl,hR rfl,hR rfl,trivial⟩
 rcases ev226 with⟨v197,x198⟩|⟨⟩
 refine⟨rfl, ?_⟩
 obtain⟨e228,hx229,hm⟩:=b5 hm
 refine⟨_,r7 (fun _=>rfl) hx229, ?_⟩
 apply vb hm<;>intro _ hm
 obtain⟨e231,hx232,hm⟩:=b5 hm
 refine⟨_,r7 (fun _=>rfl) hx232,_,N6 (y:=(⟨e231.Night,c.Ballot,e231.Ballot,e231.Value⟩:a8)) (fun _=>rfl) hx232, ?_⟩
 cases hm
 exact c5.of 15 rfl (tA rfl) ⟨hR rfl,hR rfl,hR rfl,hW rfl,hW rfl,hW rfl,hW rfl,hW rfl,hW rfl,hW rfl,hW rfl,hW rfl,hW rfl,hR rfl,trivial⟩
 cases hm
 exact c5.of 15 rfl (tA rfl) ⟨hR rfl,hR rfl,hR rfl,hW rfl,hW rfl,hW rfl,hW rfl,hW rfl,hW rfl,hW rfl,hW rfl,hW rfl,hW rfl,hR rfl,trivial⟩
 refine⟨rfl, ?_⟩
 cases hm
 exact c5.of 15 rfl (tA rfl) ⟨hR rfl,hR rfl,hR rfl,hW rfl,hW rfl,hW rfl,hW rfl,hW rfl,hW rfl,hW rfl,hW rfl,hW rfl,hW rfl,hR rfl,trivial⟩
 obtain⟨v89,x90⟩:=ev174
 apply vb hm<;>intro _ hm
 cases hm
 exact d0.le (⟨_,rfl,⟨⟨_,rfl,⟨leD.refl _,leD.refl _,leD.nil,leD.nil,leD.nil,leD.nil,leD.nil,leD.refl _,leD.nil,leD.nil,leD.nil,leD.nil,leD.nil,trivial⟩⟩,leD.refl _,trivial⟩⟩)
 cases hm
 exact d0.le (leD.refl _)
 replace hm:=b8C h39 hm
 cases h260:(c.Kind==2)
 rotate_left
 replace hm:=b8D h260 hm
 refine⟨⟨3,139,by kernel_rfl,by kernel_rfl⟩,155,by simp only [a6w,h39,h260], ?_⟩
 obtain⟨ev322,he323,hm⟩:=b5 hm
 refine K1.ofZ pok ⟨[(0, .own 14 0),(1, .agg (b8.c c)),(1000000, .agg (a6.c x)),(1000001, .agg (b8.c c)),(1000002, .own 0 0),(1000003, .own 1 0),(1000004, .own 2 0),(1000005,DI 0),(1000006, .own 14 0),(1000007,DI 0),(1000013,DB false),(1000018,DB (c.To !=x19))], [(0, .blk (a6.c x) 30),(1, .blk (b8.c c) 42),(2, .blk [DI 0,DI 0,nS,nS,nS,nS,nS,DI 0,nS,nS,nS,nS,nS] 30),(4,rE 4 v9 a8.c 110),(5,rE 6 v10 b9.c 108),(6,rE 4 v11 a7.c 149),(7,rE 5 v12 b6.c 112),(8,rE 6 v13 b4.c 114),(9,rE 4 v14 a8.c 110),(10,rE 6 v15 b9.c 108),(11,rE 4 v16 a7.c 149),(12,rE 5 v17 b6.c 112),(13,rE 6 v18 b4.c 114),(14, .blk [DI x19,DI x20, .row 4 4, .row 5 6, .row 6 4, .row 7 5, .row 8 6,DI x21, .row 9 4, .row 10 6, .row 11 4, .row 12 5, .row 13 6] 102)],15⟩ (match ev322 with|v291=>(⟨[(0, .agg (a6.c x)),(1, .agg (b8.c c)),(2, .own 0 0),(3, .own 1 0),(4, .own 2 0),(5,DI 0),(6, .own 14 0),(7,DI 0),(13,DB false),(18,DB (c.To !=x19)),(40,DB true)], [(0, .blk (a6.c x) 30),(1, .blk (b8.c c) 42),(2, .blk [DI 0,DI 0,nS,nS,nS,nS,nS,DI 0,nS,nS,nS,nS,nS] 30),(4,rE 4 v9 a8.c 110),(5,rE 6 v291 b9.c 108),(6,rE 4 v11 a7.c 149),(7,rE 5 v12 b6.c 112),(8,rE 6 v13 b4.c 114),(9,rE 4 v14 a8.c 110),(10,rE 6 v15 b9.c 108),(11,rE 4 v16 a7.c 149),(12,rE 5 v17 b6.c 112),(13,rE 6 v18 b4.c 114),(14, .blk [DI x19,DI x20, .row 4 4, .row 5 6, .row 6 4, .row 7 5, .row 8 6,DI x21, .row 9 4, .row 10 6, .row 11 4, .row 12 5, .row 13 6] 102)],15⟩:Sy):Sy) c4L [99,106,149,210,211,220] [62] [61,154,155,156,157,158,159,184,188,189,208] Tryz.func155 rfl rfl rfl (c5.of 15 rfl (tA rfl) ⟨hR rfl,hR rfl,hR rfl,hW rfl,hW rfl,hW rfl,hW rfl,hW rfl,hW rfl,hW rfl,hW rfl,hW rfl,hW rfl,hR rfl,trivial⟩) (fun sv=> ?_) ?_
 have hm:=he323
 refine co hm (L3 v10 c) fun x324 hm=> ?_
 apply vb hm<;>intro _ hm
 cases hm
 exact c5.of 15 rfl (tA rfl) ⟨hR rfl,hR rfl,hR rfl,hW rfl,hW rfl,hW rfl,hW rfl,hW rfl,hW rfl,hW rfl,hW rfl,hW rfl,hW rfl,hR rfl,trivial⟩
 obtain⟨e327,hx328,hm⟩:=b5 hm
 refine⟨z7 hx328, ?_⟩
 refine⟨rfl, ?_⟩
 obtain⟨e329,hx330,hm⟩:=b5 hm
 refine⟨_,r7 (fun _=>rfl) hx330, ?_⟩
 apply vb hm<;>intro _ hm
 cases hm
 exact c5.of 15 rfl (tA rfl) ⟨hR rfl,hR rfl,hR rfl,hW rfl,hW rfl,hW rfl,hW rfl,hW rfl,hW rfl,hW rfl,hW rfl,hW rfl,hW rfl,hR rfl,trivial⟩
 obtain⟨e332,hx333,hm⟩:=b5 hm
 refine⟨_,r7 (fun _=>rfl) hx333, ?_⟩
 refine cy hm (a8x e332.Mask c.From) fun x334 hm=> ?_
 apply vb hm<;>intro _ hm
 cases hm
 exact c5.of 15 rfl (tA rfl) ⟨hR rfl,hR rfl,hR rfl,hW rfl,hW rfl,hW rfl,hW rfl,hW rfl,hW rfl,hW rfl,hW rfl,hW rfl,hW rfl,hR rfl,trivial⟩
 refine⟨rfl, ?_⟩
 obtain⟨e337,hx338,hm⟩:=b5 hm
 refine⟨_,r7 (fun _=>rfl) hx338, ?_⟩
 refine cy hm (a3p e337.Mask c.From) fun x339 hm=> ?_
 refine cy hm (a2J x339) fun x341 hm=> ?_
 obtain⟨e343,hx344,hm⟩:=b5 hm
 refine⟨_,r7 (fun _=>rfl) hx344,_,N6 (y:=(⟨e343.Night,e343.Ballot,e343.Value,e343.Best,x339,e343.Asked⟩:b9)) (fun _=>rfl) hx344, ?_⟩
 obtain⟨e345,hx346,hm⟩:=b5 hm
 refine⟨_,a5y (fun _=>rfl) hx346 (by first|rfl|simp only [List.length_set]),_,N6 (y:=(⟨e345.Night,e345.Ballot,e345.Value,e345.Best,e345.Mask,x341⟩:b9)) (fun _=>rfl) hx346, ?_⟩
 refine⟨rfl, ?_⟩
 obtain⟨e347,hx348,hm⟩:=b5 hm
 refine⟨_,a5y (fun _=>rfl) hx348 (by first|rfl|simp only [List.length_set]), ?_⟩
 apply vb hm<;>intro _ hm
 refine⟨rfl, ?_⟩
 obtain⟨e350,hx351,hm⟩:=b5 hm
 refine⟨_,a5y (fun _=>rfl) hx351 (by first|rfl|simp only [List.length_set]),_,N6 (y:=(⟨e350.Night,e350.Ballot,e350.Value,c.Best,e350.Mask,e350.Asked⟩:b9)) (fun _=>rfl) hx351, ?_⟩
 obtain⟨e352,hx353,hm⟩:=b5 hm
 refine⟨_,a5y (fun _=>rfl) hx353 (by first|rfl|simp only [List.length_set]),_,N6 (y:=(⟨e352.Night,e352.Ballot,c.Value,e352.Best,e352.Mask,e352.Asked⟩:b9)) (fun _=>rfl) hx353, ?_⟩
 cases hm
 exact c5.of 15 rfl (tA rfl) ⟨hR rfl,hR rfl,hR rfl,hW rfl,hW rfl,hW rfl,hW rfl,hW rfl,hW rfl,hW rfl,hW rfl,hW rfl,hW rfl,hR rfl,trivial⟩
 cases hm
 exact c5.of 15 rfl (tA rfl) ⟨hR rfl,hR rfl,hR rfl,hW rfl,hW rfl,hW rfl,hW rfl,hW rfl,hW rfl,hW rfl,hW rfl,hW rfl,hW rfl,hR rfl,trivial⟩
 obtain v291:=ev322
 cases hm
 exact d0.le (leD.refl _)
 replace hm:=b8C h260 hm
 cases h354:(c.Kind==3)
 rotate_left
 replace hm:=b8D h354 hm
 refine⟨⟨3,139,by kernel_rfl,by kernel_rfl⟩,156,by simp only [a6w,h39,h260,h354], ?_⟩
 obtain⟨ev497,he498,hm⟩:=b5 hm
 refine K1.ofZ pok ⟨[(0, .own 14 0),(1, .agg (b8.c c)),(1000000, .agg (a6.c x)),(1000001, .agg (b8.c c)),(1000002, .own 0 0),(1000003, .own 1 0),(1000004, .own 2 0),(1000005,DI 0),(1000006, .own 14 0),(1000007,DI 0),(1000013,DB false),(1000018,DB (c.To !=x19))], [(0, .blk (a6.c x) 30),(1, .blk (b8.c c) 42),(2, .blk [DI 0,DI 0,nS,nS,nS,nS,nS,DI 0,nS,nS,nS,nS,nS] 30),(4,rE 4 v9 a8.c 110),(5,rE 6 v10 b9.c 108),(6,rE 4 v11 a7.c 149),(7,rE 5 v12 b6.c 112),(8,rE 6 v13 b4.c 114),(9,rE 4 v14 a8.c 110),(10,rE 6 v15 b9.c 108),(11,rE 4 v16 a7.c 149),(12,rE 5 v17 b6.c 112),(13,rE 6 v18 b4.c 114),(14, .blk [DI x19,DI x20, .row 4 4, .row 5 6, .row 6 4, .row 7 5, .row 8 6,DI x21, .row 9 4, .row 10 6, .row 11 4, .row 12 5, .row 13 6] 102)],15⟩ (match ev497 with|(v408,x409)=>(⟨[(0, .agg (a6.c x)),(1, .agg (b8.c c)),(2, .own 0 0),(3, .own 1 0),(4, .own 2 0),(5,DI 0),(6, .own 14 0),(7,DI 0),(13,DB false),(18,DB (c.To !=x19)),(40,DB x409)], [(0, .blk (a6.c x) 30),(1, .blk (b8.c c) 42),(2, .blk [DI 0,DI 0,nS,nS,nS,nS,nS,DI 0,nS,nS,nS,nS,nS] 30),(4,rE 4 v408 a8.c 110),(5,rE 6 v10 b9.c 108),(6,rE 4 v11 a7.c 149),(7,rE 5 v12 b6.c 112),(8,rE 6 v13 b4.c 114),(9,rE 4 v14 a8.c 110),(10,rE 6 v15 b9.c 108),(11,rE 4 v16 a7.c 149),(12,rE 5 v17 b6.c 112),(13,rE 6 v18 b4.c 114),(14, .blk [DI x19,DI x20, .row 4 4, .row 5 6, .row 6 4, .row 7 5, .row 8 6,DI x21, .row 9 4, .row 10 6, .row 11 4, .row 12 5, .row 13 6] 102)],15⟩:Sy):Sy) c4Y [99,106,149,210,211,220] [62] [61,154,155,156,157,158,159,184,188,189,208] Tryz.func156 rfl rfl rfl (c5.of 15 rfl (tA rfl) ⟨hR rfl,hR rfl,hR rfl,hW rfl,hW rfl,hW rfl,hW rfl,hW rfl,hW rfl,hW rfl,hW rfl,hW rfl,hW rfl,hR rfl,trivial⟩) (fun sv=> ?_) ?_
 have hm:=he498
 obtain⟨ev549,he550,hm⟩:=b5 hm
 refine K1.ofZ pok ⟨[(0, .own 14 0),(1,DI c.Night),(1000000, .own 14 0),(1000001, .agg (b8.c c)),(1000003, .own 15 0),(1000004,DB false),(1000040, .agg (a6.c x)),(1000041, .agg (b8.c c)),(1000042, .own 0 0),(1000043, .own 1 0),(1000044, .own 2 0),(1000045,DI 0),(1000046, .own 14 0),(1000047,DI 0),(1000053,DB false),(1000058,DB (c.To !=x19))], [(0, .blk (a6.c x) 30),(1, .blk (b8.c c) 42),(2, .blk [DI 0,DI 0,nS,nS,nS,nS,nS,DI 0,nS,nS,nS,nS,nS] 30),(4,rE 4 v9 a8.c 110),(5,rE 6 v10 b9.c 108),(6,rE 4 v11 a7.c 149),(7,rE 5 v12 b6.c 112),(8,rE 6 v13 b4.c 114),(9,rE 4 v14 a8.c 110),(10,rE 6 v15 b9.c 108),(11,rE 4 v16 a7.c 149),(12,rE 5 v17 b6.c 112),(13,rE 6 v18 b4.c 114),(14, .blk [DI x19,DI x20, .row 4 4, .row 5 6, .row 6 4, .row 7 5, .row 8 6,DI x21, .row 9 4, .row 10 6, .row 11 4, .row 12 5, .row 13 6] 102),(15, .blk (b8.c c) 42)],16⟩ (match ev549 with| .inl (v520,x521)=>(⟨[(0, .own 14 0),(1, .agg (b8.c c)),(3, .own 15 0),(4,DB false),(11, .tup [.elr 4 4 (x521).toNat 0,DB true]),(1000000, .agg (a6.c x)),(1000001, .agg (b8.c c)),(1000002, .own 0 0),(1000003, .own 1 0),(1000004, .own 2 0),(1000005,DI 0),(1000006, .own 14 0),(1000007,DI 0),(1000013,DB false),(1000018,DB (c.To !=x19))], [(0, .blk (a6.c x) 30),(1, .blk (b8.c c) 42),(2, .blk [DI 0,DI 0,nS,nS,nS,nS,nS,DI 0,nS,nS,nS,nS,nS] 30),(4,rE 4 v520 a8.c 110),(5,rE 6 v10 b9.c 108),(6,rE 4 v11 a7.c 149),(7,rE 5 v12 b6.c 112),(8,rE 6 v13 b4.c 114),(9,rE 4 v14 a8.c 110),(10,rE 6 v15 b9.c 108),(11,rE 4 v16 a7.c 149),(12,rE 5 v17 b6.c 112),(13,rE 6 v18 b4.c 114),(14, .blk [DI x19,DI x20, .row 4 4, .row 5 6, .row 6 4, .row 7 5, .row 8 6,DI x21, .row 9 4, .row 10 6, .row 11 4, .row 12 5, .row 13 6] 102),(15, .blk (b8.c c) 42)],16⟩:Sy)| .inr _=>(⟨[(0, .own 14 0),(1, .agg (b8.c c)),(3, .own 15 0),(4,DB false),(11, .tup [.v (.pointer none),DB false]),(1000000, .agg (a6.c x)),(1000001, .agg (b8.c c)),(1000002, .own 0 0),(1000003, .own 1 0),(1000004, .own 2 0),(1000005,DI 0),(1000006, .own 14 0),(1000007,DI 0),(1000013,DB false),(1000018,DB (c.To !=x19))], [(0, .blk (a6.c x) 30),(1, .blk (b8.c c) 42),(2, .blk [DI 0,DI 0,nS,nS,nS,nS,nS,DI 0,nS,nS,nS,nS,nS] 30),(4,rE 4 v9 a8.c 110),(5,rE 6 v10 b9.c 108),(6,rE 4 v11 a7.c 149),(7,rE 5 v12 b6.c 112),(8,rE 6 v13 b4.c 114),(9,rE 4 v14 a8.c 110),(10,rE 6 v15 b9.c 108),(11,rE 4 v16 a7.c 149),(12,rE 5 v17 b6.c 112),(13,rE 6 v18 b4.c 114),(14, .blk [DI x19,DI x20, .row 4 4, .row 5 6, .row 6 4, .row 7 5, .row 8 6,DI x21, .row 9 4, .row 10 6, .row 11 4, .row 12 5, .row 13 6] 102),(15, .blk (b8.c c) 42)],16⟩:Sy):Sy) [] [99,106,149,210,211,220] [62] [61,154,155,156,157,158,159,184,188,189,208] Tryz.func184 rfl rfl rfl (c5.of 16 rfl (tA rfl) ⟨hR rfl,hR rfl,hR rfl,hW rfl,hW rfl,hW rfl,hW rfl,hW rfl,hW rfl,hW rfl,hW rfl,hW rfl,hW rfl,hR rfl,hR rfl,trivial⟩) (fun sv=> ?_) ?_
 have hm:=he550
 obtain⟨ev576,he577,hm⟩:=b5 hm
 refine K1.ofZ pok ⟨[(0, .row 4 4),(1, .agg [DI c.Night,DI 0,DI 0,DI 0]),(2,DI 12),(3, .fn 136 [] []),(1000000, .own 14 0),(1000001,DI c.Night),(1000004, .v (.pointer none)),(1000005,DB false),(1000033, .own 14 0),(1000034, .agg (b8.c c)),(1000036, .own 15 0),(1000037,DB false),(1000073, .agg (a6.c x)),(1000074, .agg (b8.c c)),(1000075, .own 0 0),(1000076, .own 1 0),(1000077, .own 2 0),(1000078,DI 0),(1000079, .own 14 0),(1000080,DI 0),(1000086,DB false),(1000091,DB (c.To !=x19))], [(0, .blk (a6.c x) 30),(1, .blk (b8.c c) 42),(2, .blk [DI 0,DI 0,nS,nS,nS,nS,nS,DI 0,nS,nS,nS,nS,nS] 30),(4,rE 4 v9 a8.c 110),(5,rE 6 v10 b9.c 108),(6,rE 4 v11 a7.c 149),(7,rE 5 v12 b6.c 112),(8,rE 6 v13 b4.c 114),(9,rE 4 v14 a8.c 110),(10,rE 6 v15 b9.c 108),(11,rE 4 v16 a7.c 149),(12,rE 5 v17 b6.c 112),(13,rE 6 v18 b4.c 114),(14, .blk [DI x19,DI x20, .row 4 4, .row 5 6, .row 6 4, .row 7 5, .row 8 6,DI x21, .row 9 4, .row 10 6, .row 11 4, .row 12 5, .row 13 6] 102),(15, .blk (b8.c c) 42)],16⟩ (match ev576 with| .inl (v567,x568)=>(⟨[(0, .own 14 0),(1,DI c.Night),(4, .v (.pointer none)),(5,DB false),(18, .tup [.row 4 4,DI x568,DB true]),(1000000, .own 14 0),(1000001, .agg (b8.c c)),(1000003, .own 15 0),(1000004,DB false),(1000040, .agg (a6.c x)),(1000041, .agg (b8.c c)),(1000042, .own 0 0),(1000043, .own 1 0),(1000044, .own 2 0),(1000045,DI 0),(1000046, .own 14 0),(1000047,DI 0),(1000053,DB false),(1000058,DB (c.To !=x19))], [(0, .blk (a6.c x) 30),(1, .blk (b8.c c) 42),(2, .blk [DI 0,DI 0,nS,nS,nS,nS,nS,DI 0,nS,nS,nS,nS,nS] 30),(4,rE 4 v567 a8.c 110),(5,rE 6 v10 b9.c 108),(6,rE 4 v11 a7.c 149),(7,rE 5 v12 b6.c 112),(8,rE 6 v13 b4.c 114),(9,rE 4 v14 a8.c 110),(10,rE 6 v15 b9.c 108),(11,rE 4 v16 a7.c 149),(12,rE 5 v17 b6.c 112),(13,rE 6 v18 b4.c 114),(14, .blk [DI x19,DI x20, .bad, .row 5 6, .row 6 4, .row 7 5, .row 8 6,DI x21, .row 9 4, .row 10 6, .row 11 4, .row 12 5, .row 13 6] 102),(15, .blk (b8.c c) 42)],16⟩:Sy)| .inr _=>(⟨[(0, .own 14 0),(1,DI c.Night),(4, .v (.pointer none)),(5,DB false),(18, .tup [nS,DI 0,DB false]),(1000000, .own 14 0),(1000001, .agg (b8.c c)),(1000003, .own 15 0),(1000004,DB false),(1000040, .agg (a6.c x)),(1000041, .agg (b8.c c)),(1000042, .own 0 0),(1000043, .own 1 0),(1000044, .own 2 0),(1000045,DI 0),(1000046, .own 14 0),(1000047,DI 0),(1000053,DB false),(1000058,DB (c.To !=x19))], [(0, .blk (a6.c x) 30),(1, .blk (b8.c c) 42),(2, .blk [DI 0,DI 0,nS,nS,nS,nS,nS,DI 0,nS,nS,nS,nS,nS] 30),(4,rE 4 v9 a8.c 110),(5,rE 6 v10 b9.c 108),(6,rE 4 v11 a7.c 149),(7,rE 5 v12 b6.c 112),(8,rE 6 v13 b4.c 114),(9,rE 4 v14 a8.c 110),(10,rE 6 v15 b9.c 108),(11,rE 4 v16 a7.c 149),(12,rE 5 v17 b6.c 112),(13,rE 6 v18 b4.c 114),(14, .blk [DI x19,DI x20, .row 4 4, .row 5 6, .row 6 4, .row 7 5, .row 8 6,DI x21, .row 9 4, .row 10 6, .row 11 4, .row 12 5, .row 13 6] 102),(15, .blk (b8.c c) 42)],16⟩:Sy):Sy) [] [99,106,149,210,211,220] [62] [61,154,155,156,157,158,159,184,188,189,208] Tryz.func208 rfl rfl rfl (c5.of 16 rfl (tA rfl) ⟨hR rfl,hR rfl,hR rfl,hW rfl,hW rfl,hW rfl,hW rfl,hW rfl,hW rfl,hW rfl,hW rfl,hW rfl,hW rfl,hR rfl,hR rfl,trivial⟩) (fun sv=> ?_) ?_
 have hm:=he577
 refine co hm (I7 v9 ((⟨c.Night,0,0,0⟩:a8))) ?_
 rintro⟨x580,x581⟩ hm
 apply vb hm<;>intro _ hm
 cases hm
 exact c5.of 16 rfl (tA rfl) ⟨hR rfl,hR rfl,hR rfl,hW rfl,hW rfl,hW rfl,hW rfl,hW rfl,hW rfl,hW rfl,hW rfl,hW rfl,hW rfl,⟨_,rfl,⟨leD.refl _,leD.refl _,leD.refl _,leD.refl _,leD.refl _,leD.refl _,leD.refl _,leD.refl _,leD.refl _,leD.refl _,leD.refl _,leD.refl _,trivial⟩⟩,hR rfl,trivial⟩
 apply vb hm<;>intro _ hm
 cases hm
 exact c5.of 16 rfl (tA rfl) ⟨hR rfl,hR rfl,hR rfl,hW rfl,hW rfl,hW rfl,hW rfl,hW rfl,hW rfl,hW rfl,hW rfl,hW rfl,hW rfl,hR rfl,hR rfl,trivial⟩
 refine⟨([(⟨c.Night,0,0,0⟩:a8)]:List a8).flatMap a8.c,([(⟨c.Night,0,0,0⟩:a8)]:List a8).length,⟨rfl,rfl⟩, ?_⟩
 obtain⟨x585,hx586,hm⟩:=b5 hm
 refine .inl (b1I.mk ⟨_,_,_,_,_,_,_,rfl,P6 v9 x580 (([(⟨c.Night,0,0,0⟩:a8)]:List a8)) _ hx586, ?_⟩)
 cases hm
 exact c5.of 16 rfl (tA rfl) ⟨hR rfl,hR rfl,hR rfl,hW rfl,hW rfl,hW rfl,hW rfl,hW rfl,hW rfl,hW rfl,hW rfl,hW rfl,hW rfl,hR rfl,hR rfl,trivial⟩
 rcases ev576 with⟨v567,x568⟩|⟨⟩
 obtain⟨e578,hx579,hm⟩:=b5 hm
 refine⟨z7 hx579, ?_⟩
 cases hm
 exact c5.of 16 rfl (tA rfl) ⟨hR rfl,hR rfl,hR rfl,hW rfl,hW rfl,hW rfl,hW rfl,hW rfl,hW rfl,hW rfl,hW rfl,hW rfl,hW rfl,hR rfl,hR rfl,trivial⟩
 cases hm
 exact c5.of 16 rfl (tA rfl) ⟨hR rfl,hR rfl,hR rfl,hW rfl,hW rfl,hW rfl,hW rfl,hW rfl,hW rfl,hW rfl,hW rfl,hW rfl,hW rfl,hR rfl,hR rfl,trivial⟩
 rcases ev549 with⟨v520,x521⟩|⟨⟩
 refine⟨rfl, ?_⟩
 obtain⟨e551,hx552,hm⟩:=b5 hm
 refine⟨_,r7 (fun _=>rfl) hx552, ?_⟩
 apply vb hm<;>intro _ hm
 refine⟨rfl, ?_⟩
 obtain⟨e554,hx555,hm⟩:=b5 hm
 refine⟨_,r7 (fun _=>rfl) hx555,_,N6 (y:=(⟨e554.Night,c.Ballot,e554.Ballot,e554.Value⟩:a8)) (fun _=>rfl) hx555, ?_⟩
 obtain⟨e556,hx557,hm⟩:=b5 hm
 refine⟨_,a5y (fun _=>rfl) hx557 (by first|rfl|simp only [List.length_set]),_,N6 (y:=(⟨e556.Night,e556.Promised,c.Ballot,e556.Value⟩:a8)) (fun _=>rfl) hx557, ?_⟩
 obtain⟨e558,hx559,hm⟩:=b5 hm
 refine⟨_,a5y (fun _=>rfl) hx559 (by first|rfl|simp only [List.length_set]),_,N6 (y:=(⟨e558.Night,e558.Promised,e558.Ballot,c.Value⟩:a8)) (fun _=>rfl) hx559, ?_⟩
 cases hm
 exact c5.of 15 rfl (tA rfl) ⟨hR rfl,hR rfl,hR rfl,hW rfl,hW rfl,hW rfl,hW rfl,hW rfl,hW rfl,hW rfl,hW rfl,hW rfl,hW rfl,hR rfl,trivial⟩
 cases hm
 exact c5.of 15 rfl (tA rfl) ⟨hR rfl,hR rfl,hR rfl,hW rfl,hW rfl,hW rfl,hW rfl,hW rfl,hW rfl,hW rfl,hW rfl,hW rfl,hW rfl,hR rfl,trivial⟩
 refine⟨rfl, ?_⟩
 cases hm
 exact c5.of 15 rfl (tA rfl) ⟨hR rfl,hR rfl,hR rfl,hW rfl,hW rfl,hW rfl,hW rfl,hW rfl,hW rfl,hW rfl,hW rfl,hW rfl,hW rfl,hR rfl,trivial⟩
 obtain⟨v408,x409⟩:=ev497
 apply vb hm<;>intro _ hm
 cases hm
 exact d0.le (⟨_,rfl,⟨⟨_,rfl,⟨leD.refl _,leD.refl _,leD.nil,leD.nil,leD.nil,leD.nil,leD.nil,leD.refl _,leD.nil,leD.nil,leD.nil,leD.nil,leD.nil,trivial⟩⟩,leD.refl _,trivial⟩⟩)
 cases hm
 exact d0.le (leD.refl _)
 replace hm:=b8C h354 hm
 cases h587:(c.Kind==4)
 rotate_left
 replace hm:=b8D h587 hm
 refine⟨⟨3,139,by kernel_rfl,by kernel_rfl⟩,157,by simp only [a6w,h39,h260,h354,h587], ?_⟩
 obtain⟨ev663,he664,hm⟩:=b5 hm
 refine K1.ofZ pok ⟨[(0, .own 14 0),(1, .agg (b8.c c)),(1000000, .agg (a6.c x)),(1000001, .agg (b8.c c)),(1000002, .own 0 0),(1000003, .own 1 0),(1000004, .own 2 0),(1000005,DI 0),(1000006, .own 14 0),(1000007,DI 0),(1000013,DB false),(1000018,DB (c.To !=x19))], [(0, .blk (a6.c x) 30),(1, .blk (b8.c c) 42),(2, .blk [DI 0,DI 0,nS,nS,nS,nS,nS,DI 0,nS,nS,nS,nS,nS] 30),(4,rE 4 v9 a8.c 110),(5,rE 6 v10 b9.c 108),(6,rE 4 v11 a7.c 149),(7,rE 5 v12 b6.c 112),(8,rE 6 v13 b4.c 114),(9,rE 4 v14 a8.c 110),(10,rE 6 v15 b9.c 108),(11,rE 4 v16 a7.c 149),(12,rE 5 v17 b6.c 112),(13,rE 6 v18 b4.c 114),(14, .blk [DI x19,DI x20, .row 4 4, .row 5 6, .row 6 4, .row 7 5, .row 8 6,DI x21, .row 9 4, .row 10 6, .row 11 4, .row 12 5, .row 13 6] 102)],15⟩ (match ev663 with|(v621,x622)=>(⟨[(0, .agg (a6.c x)),(1, .agg (b8.c c)),(2, .own 0 0),(3, .own 1 0),(4, .own 2 0),(5,DI 0),(6, .own 14 0),(7,DI 0),(13,DB false),(18,DB (c.To !=x19)),(40,DB x622)], [(0, .blk (a6.c x) 30),(1, .blk (b8.c c) 42),(2, .blk [DI 0,DI 0,nS,nS,nS,nS,nS,DI 0,nS,nS,nS,nS,nS] 30),(4,rE 4 v9 a8.c 110),(5,rE 6 v10 b9.c 108),(6,rE 4 v621 a7.c 149),(7,rE 5 v12 b6.c 112),(8,rE 6 v13 b4.c 114),(9,rE 4 v14 a8.c 110),(10,rE 6 v15 b9.c 108),(11,rE 4 v16 a7.c 149),(12,rE 5 v17 b6.c 112),(13,rE 6 v18 b4.c 114),(14, .blk [DI x19,DI x20, .row 4 4, .row 5 6, .row 6 4, .row 7 5, .row 8 6,DI x21, .row 9 4, .row 10 6, .row 11 4, .row 12 5, .row 13 6] 102)],15⟩:Sy):Sy) c5m [99,106,149,210,211,220] [62] [61,154,155,156,157,158,159,184,188,189,208] Tryz.func157 rfl rfl rfl (c5.of 15 rfl (tA rfl) ⟨hR rfl,hR rfl,hR rfl,hW rfl,hW rfl,hW rfl,hW rfl,hW rfl,hW rfl,hW rfl,hW rfl,hW rfl,hW rfl,hR rfl,trivial⟩) (fun sv=> ?_) ?_
 have hm:=he664
 refine⟨rfl, ?_⟩
 obtain⟨ev682,he683,hm⟩:=b5 hm
 refine K1.ofZ pok ⟨[(0, .row 6 4),(1, .agg [DI c.Night,DI c.Ballot,DI c.Value,DI 0]),(2,DI 60),(3, .fn 139 [] []),(1000000, .own 14 0),(1000001, .agg (b8.c c)),(1000003, .own 15 0),(1000004,DB false),(1000054, .agg (a6.c x)),(1000055, .agg (b8.c c)),(1000056, .own 0 0),(1000057, .own 1 0),(1000058, .own 2 0),(1000059,DI 0),(1000060, .own 14 0),(1000061,DI 0),(1000067,DB false),(1000072,DB (c.To !=x19))], [(0, .blk (a6.c x) 30),(1, .blk (b8.c c) 42),(2, .blk [DI 0,DI 0,nS,nS,nS,nS,nS,DI 0,nS,nS,nS,nS,nS] 30),(4,rE 4 v9 a8.c 110),(5,rE 6 v10 b9.c 108),(6,rE 4 v11 a7.c 149),(7,rE 5 v12 b6.c 112),(8,rE 6 v13 b4.c 114),(9,rE 4 v14 a8.c 110),(10,rE 6 v15 b9.c 108),(11,rE 4 v16 a7.c 149),(12,rE 5 v17 b6.c 112),(13,rE 6 v18 b4.c 114),(14, .blk [DI x19,DI x20, .row 4 4, .row 5 6, .row 6 4, .row 7 5, .row 8 6,DI x21, .row 9 4, .row 10 6, .row 11 4, .row 12 5, .row 13 6] 102),(15, .blk (b8.c c) 42)],16⟩ (match ev682 with| .inl (v673,x674)=>(⟨[(0, .own 14 0),(1, .agg (b8.c c)),(3, .own 15 0),(4,DB false),(22, .tup [.row 6 4,DI x674,DB true]),(1000000, .agg (a6.c x)),(1000001, .agg (b8.c c)),(1000002, .own 0 0),(1000003, .own 1 0),(1000004, .own 2 0),(1000005,DI 0),(1000006, .own 14 0),(1000007,DI 0),(1000013,DB false),(1000018,DB (c.To !=x19))], [(0, .blk (a6.c x) 30),(1, .blk (b8.c c) 42),(2, .blk [DI 0,DI 0,nS,nS,nS,nS,nS,DI 0,nS,nS,nS,nS,nS] 30),(4,rE 4 v9 a8.c 110),(5,rE 6 v10 b9.c 108),(6,rE 4 v673 a7.c 149),(7,rE 5 v12 b6.c 112),(8,rE 6 v13 b4.c 114),(9,rE 4 v14 a8.c 110),(10,rE 6 v15 b9.c 108),(11,rE 4 v16 a7.c 149),(12,rE 5 v17 b6.c 112),(13,rE 6 v18 b4.c 114),(14, .blk [DI x19,DI x20, .row 4 4, .row 5 6, .bad, .row 7 5, .row 8 6,DI x21, .row 9 4, .row 10 6, .row 11 4, .row 12 5, .row 13 6] 102),(15, .blk (b8.c c) 42)],16⟩:Sy)| .inr _=>(⟨[(0, .own 14 0),(1, .agg (b8.c c)),(3, .own 15 0),(4,DB false),(22, .tup [nS,DI 0,DB false]),(1000000, .agg (a6.c x)),(1000001, .agg (b8.c c)),(1000002, .own 0 0),(1000003, .own 1 0),(1000004, .own 2 0),(1000005,DI 0),(1000006, .own 14 0),(1000007,DI 0),(1000013,DB false),(1000018,DB (c.To !=x19))], [(0, .blk (a6.c x) 30),(1, .blk (b8.c c) 42),(2, .blk [DI 0,DI 0,nS,nS,nS,nS,nS,DI 0,nS,nS,nS,nS,nS] 30),(4,rE 4 v9 a8.c 110),(5,rE 6 v10 b9.c 108),(6,rE 4 v11 a7.c 149),(7,rE 5 v12 b6.c 112),(8,rE 6 v13 b4.c 114),(9,rE 4 v14 a8.c 110),(10,rE 6 v15 b9.c 108),(11,rE 4 v16 a7.c 149),(12,rE 5 v17 b6.c 112),(13,rE 6 v18 b4.c 114),(14, .blk [DI x19,DI x20, .row 4 4, .row 5 6, .row 6 4, .row 7 5, .row 8 6,DI x21, .row 9 4, .row 10 6, .row 11 4, .row 12 5, .row 13 6] 102),(15, .blk (b8.c c) 42)],16⟩:Sy):Sy) [] [99,106,149,210,211,220] [62] [61,154,155,156,157,158,159,184,188,189,208] Tryz.func188 rfl rfl rfl (c5.of 16 rfl (tA rfl) ⟨hR rfl,hR rfl,hR rfl,hW rfl,hW rfl,hW rfl,hW rfl,hW rfl,hW rfl,hW rfl,hW rfl,hW rfl,hW rfl,hR rfl,hR rfl,trivial⟩) (fun sv=> ?_) ?_
 have hm:=he683
 refine co hm (S3 v11 ((⟨c.Night,c.Ballot,c.Value,0⟩:a7))) ?_
 rintro⟨x699,x700⟩ hm
 apply vb hm<;>intro _ hm
 cases hm
 exact c5.of 16 rfl (tA rfl) ⟨hR rfl,hR rfl,hR rfl,hW rfl,hW rfl,hW rfl,hW rfl,hW rfl,hW rfl,hW rfl,hW rfl,hW rfl,hW rfl,⟨_,rfl,⟨leD.refl _,leD.refl _,leD.refl _,leD.refl _,leD.refl _,leD.refl _,leD.refl _,leD.refl _,leD.refl _,leD.refl _,leD.refl _,leD.refl _,trivial⟩⟩,hR rfl,trivial⟩
 apply vb hm<;>intro _ hm
 cases hm
 exact c5.of 16 rfl (tA rfl) ⟨hR rfl,hR rfl,hR rfl,hW rfl,hW rfl,hW rfl,hW rfl,hW rfl,hW rfl,hW rfl,hW rfl,hW rfl,hW rfl,hR rfl,hR rfl,trivial⟩
 refine⟨([(⟨c.Night,c.Ballot,c.Value,0⟩:a7)]:List a7).flatMap a7.c,([(⟨c.Night,c.Ballot,c.Value,0⟩:a7)]:List a7).length,⟨rfl,rfl⟩, ?_⟩
 obtain⟨x704,hx705,hm⟩:=b5 hm
 refine .inl (b1I.mk ⟨_,_,_,_,_,_,_,rfl,a0G v11 x699 (([(⟨c.Night,c.Ballot,c.Value,0⟩:a7)]:List a7)) _ hx705, ?_⟩)
 cases hm
 exact c5.of 16 rfl (tA rfl) ⟨hR rfl,hR rfl,hR rfl,hW rfl,hW rfl,hW rfl,hW rfl,hW rfl,hW rfl,hW rfl,hW rfl,hW rfl,hW rfl,hR rfl,hR rfl,trivial⟩
 rcases ev682 with⟨v673,x674⟩|⟨⟩
 refine⟨rfl, ?_⟩
 obtain⟨e684,hx685,hm⟩:=b5 hm
 refine⟨z7 hx685, ?_⟩
 obtain⟨e686,hx687,hm⟩:=b5 hm
 refine⟨_,r7 (fun _=>rfl) hx687, ?_⟩
 apply vb hm<;>intro _ hm
 refine⟨rfl, ?_⟩
 obtain⟨e689,hx690,hm⟩:=b5 hm
 refine⟨z7 hx690, ?_⟩
 obtain⟨e691,hx692,hm⟩:=b5 hm
 refine⟨_,r7 (fun _=>rfl) hx692, ?_⟩
 refine cy hm (a3p e691.Mask c.From) fun x693 hm=> ?_
 obtain⟨e695,hx696,hm⟩:=b5 hm
 refine⟨z7 hx696, ?_⟩
 obtain⟨e697,hx698,hm⟩:=b5 hm
 refine⟨_,r7 (fun _=>rfl) hx698,_,N6 (y:=(⟨e697.Night,e697.Ballot,e697.Value,x693⟩:a7)) (fun _=>rfl) hx698, ?_⟩
 cases hm
 exact c5.of 15 rfl (tA rfl) ⟨hR rfl,hR rfl,hR rfl,hW rfl,hW rfl,hW rfl,hW rfl,hW rfl,hW rfl,hW rfl,hW rfl,hW rfl,hW rfl,hR rfl,trivial⟩
 cases hm
 exact c5.of 15 rfl (tA rfl) ⟨hR rfl,hR rfl,hR rfl,hW rfl,hW rfl,hW rfl,hW rfl,hW rfl,hW rfl,hW rfl,hW rfl,hW rfl,hW rfl,hR rfl,trivial⟩
 cases hm
 exact c5.of 15 rfl (tA rfl) ⟨hR rfl,hR rfl,hR rfl,hW rfl,hW rfl,hW rfl,hW rfl,hW rfl,hW rfl,hW rfl,hW rfl,hW rfl,hW rfl,hR rfl,trivial⟩
 obtain⟨v621,x622⟩:=ev663
 apply vb hm<;>intro _ hm
 cases hm
 exact d0.le (⟨_,rfl,⟨⟨_,rfl,⟨leD.refl _,leD.refl _,leD.nil,leD.nil,leD.nil,leD.nil,leD.nil,leD.refl _,leD.nil,leD.nil,leD.nil,leD.nil,leD.nil,trivial⟩⟩,leD.refl _,trivial⟩⟩)
 cases hm
 exact d0.le (leD.refl _)
 replace hm:=b8C h587 hm
 cases h706:(c.Kind==5)
 rotate_left
 replace hm:=b8D h706 hm
 refine⟨⟨3,139,by kernel_rfl,by kernel_rfl⟩,158,by simp only [a6w,h39,h260,h354,h587,h706], ?_⟩
 obtain⟨ev752,he753,hm⟩:=b5 hm
 refine K1.ofZ pok ⟨[(0, .own 14 0),(1, .agg (b8.c c)),(1000000, .agg (a6.c x)),(1000001, .agg (b8.c c)),(1000002, .own 0 0),(1000003, .own 1 0),(1000004, .own 2 0),(1000005,DI 0),(1000006, .own 14 0),(1000007,DI 0),(1000013,DB false),(1000018,DB (c.To !=x19))], [(0, .blk (a6.c x) 30),(1, .blk (b8.c c) 42),(2, .blk [DI 0,DI 0,nS,nS,nS,nS,nS,DI 0,nS,nS,nS,nS,nS] 30),(4,rE 4 v9 a8.c 110),(5,rE 6 v10 b9.c 108),(6,rE 4 v11 a7.c 149),(7,rE 5 v12 b6.c 112),(8,rE 6 v13 b4.c 114),(9,rE 4 v14 a8.c 110),(10,rE 6 v15 b9.c 108),(11,rE 4 v16 a7.c 149),(12,rE 5 v17 b6.c 112),(13,rE 6 v18 b4.c 114),(14, .blk [DI x19,DI x20, .row 4 4, .row 5 6, .row 6 4, .row 7 5, .row 8 6,DI x21, .row 9 4, .row 10 6, .row 11 4, .row 12 5, .row 13 6] 102)],15⟩ (match ev752 with|(v725,x726)=>(⟨[(0, .agg (a6.c x)),(1, .agg (b8.c c)),(2, .own 0 0),(3, .own 1 0),(4, .own 2 0),(5,DI 0),(6, .own 14 0),(7,DI 0),(13,DB false),(18,DB (c.To !=x19)),(40,DB x726)], [(0, .blk (a6.c x) 30),(1, .blk (b8.c c) 42),(2, .blk [DI 0,DI 0,nS,nS,nS,nS,nS,DI 0,nS,nS,nS,nS,nS] 30),(4,rE 4 v9 a8.c 110),(5,rE 6 v10 b9.c 108),(6,rE 4 v11 a7.c 149),(7,rE 5 v12 b6.c 112),(8,rE 6 v725 b4.c 114),(9,rE 4 v14 a8.c 110),(10,rE 6 v15 b9.c 108),(11,rE 4 v16 a7.c 149),(12,rE 5 v17 b6.c 112),(13,rE 6 v18 b4.c 114),(14, .blk [DI x19,DI x20, .row 4 4, .row 5 6, .row 6 4, .row 7 5, .row 8 6,DI x21, .row 9 4, .row 10 6, .row 11 4, .row 12 5, .row 13 6] 102)],15⟩:Sy):Sy) c3K [99,106,149,210,211,220] [62] [61,154,155,156,157,158,159,184,188,189,208] Tryz.func158 rfl rfl rfl (c5.of 15 rfl (tA rfl) ⟨hR rfl,hR rfl,hR rfl,hW rfl,hW rfl,hW rfl,hW rfl,hW rfl,hW rfl,hW rfl,hW rfl,hW rfl,hW rfl,hR rfl,trivial⟩) (fun sv=> ?_) ?_
 have hm:=he753
 refine⟨rfl, ?_⟩
 obtain⟨ev771,he772,hm⟩:=b5 hm
 refine K1.ofZ pok ⟨[(0, .row 8 6),(1, .agg [DI c.From,DI c.No,DI c.Thing,DI c.Start,DI c.Until,DB false]),(2,DI 60),(3, .fn 95 [] []),(1000000, .own 14 0),(1000001, .agg (b8.c c)),(1000003, .own 15 0),(1000004,DB false),(1000038, .agg (a6.c x)),(1000039, .agg (b8.c c)),(1000040, .own 0 0),(1000041, .own 1 0),(1000042, .own 2 0),(1000043,DI 0),(1000044, .own 14 0),(1000045,DI 0),(1000051,DB false),(1000056,DB (c.To !=x19))], [(0, .blk (a6.c x) 30),(1, .blk (b8.c c) 42),(2, .blk [DI 0,DI 0,nS,nS,nS,nS,nS,DI 0,nS,nS,nS,nS,nS] 30),(4,rE 4 v9 a8.c 110),(5,rE 6 v10 b9.c 108),(6,rE 4 v11 a7.c 149),(7,rE 5 v12 b6.c 112),(8,rE 6 v13 b4.c 114),(9,rE 4 v14 a8.c 110),(10,rE 6 v15 b9.c 108),(11,rE 4 v16 a7.c 149),(12,rE 5 v17 b6.c 112),(13,rE 6 v18 b4.c 114),(14, .blk [DI x19,DI x20, .row 4 4, .row 5 6, .row 6 4, .row 7 5, .row 8 6,DI x21, .row 9 4, .row 10 6, .row 11 4, .row 12 5, .row 13 6] 102),(15, .blk (b8.c c) 42)],16⟩ (match ev771 with| .inl (v762,x763)=>(⟨[(0, .own 14 0),(1, .agg (b8.c c)),(3, .own 15 0),(4,DB false),(26, .tup [.row 8 6,DI x763,DB true]),(1000000, .agg (a6.c x)),(1000001, .agg (b8.c c)),(1000002, .own 0 0),(1000003, .own 1 0),(1000004, .own 2 0),(1000005,DI 0),(1000006, .own 14 0),(1000007,DI 0),(1000013,DB false),(1000018,DB (c.To !=x19))], [(0, .blk (a6.c x) 30),(1, .blk (b8.c c) 42),(2, .blk [DI 0,DI 0,nS,nS,nS,nS,nS,DI 0,nS,nS,nS,nS,nS] 30),(4,rE 4 v9 a8.c 110),(5,rE 6 v10 b9.c 108),(6,rE 4 v11 a7.c 149),(7,rE 5 v12 b6.c 112),(8,rE 6 v762 b4.c 114),(9,rE 4 v14 a8.c 110),(10,rE 6 v15 b9.c 108),(11,rE 4 v16 a7.c 149),(12,rE 5 v17 b6.c 112),(13,rE 6 v18 b4.c 114),(14, .blk [DI x19,DI x20, .row 4 4, .row 5 6, .row 6 4, .row 7 5, .bad,DI x21, .row 9 4, .row 10 6, .row 11 4, .row 12 5, .row 13 6] 102),(15, .blk (b8.c c) 42)],16⟩:Sy)| .inr _=>(⟨[(0, .own 14 0),(1, .agg (b8.c c)),(3, .own 15 0),(4,DB false),(26, .tup [nS,DI 0,DB false]),(1000000, .agg (a6.c x)),(1000001, .agg (b8.c c)),(1000002, .own 0 0),(1000003, .own 1 0),(1000004, .own 2 0),(1000005,DI 0),(1000006, .own 14 0),(1000007,DI 0),(1000013,DB false),(1000018,DB (c.To !=x19))], [(0, .blk (a6.c x) 30),(1, .blk (b8.c c) 42),(2, .blk [DI 0,DI 0,nS,nS,nS,nS,nS,DI 0,nS,nS,nS,nS,nS] 30),(4,rE 4 v9 a8.c 110),(5,rE 6 v10 b9.c 108),(6,rE 4 v11 a7.c 149),(7,rE 5 v12 b6.c 112),(8,rE 6 v13 b4.c 114),(9,rE 4 v14 a8.c 110),(10,rE 6 v15 b9.c 108),(11,rE 4 v16 a7.c 149),(12,rE 5 v17 b6.c 112),(13,rE 6 v18 b4.c 114),(14, .blk [DI x19,DI x20, .row 4 4, .row 5 6, .row 6 4, .row 7 5, .row 8 6,DI x21, .row 9 4, .row 10 6, .row 11 4, .row 12 5, .row 13 6] 102),(15, .blk (b8.c c) 42)],16⟩:Sy):Sy) [] [99,106,149,210,211,220] [62] [61,154,155,156,157,158,159,184,188,189,208] Tryz.func189 rfl rfl rfl (c5.of 16 rfl (tA rfl) ⟨hR rfl,hR rfl,hR rfl,hW rfl,hW rfl,hW rfl,hW rfl,hW rfl,hW rfl,hW rfl,hW rfl,hW rfl,hW rfl,hR rfl,hR rfl,trivial⟩) (fun sv=> ?_) ?_
 have hm:=he772
 refine co hm (I8 v13 ((⟨c.From,c.No,c.Thing,c.Start,c.Until,false⟩:b4))) ?_
 rintro⟨x773,x774⟩ hm
 apply vb hm<;>intro _ hm
 cases hm
 exact c5.of 16 rfl (tA rfl) ⟨hR rfl,hR rfl,hR rfl,hW rfl,hW rfl,hW rfl,hW rfl,hW rfl,hW rfl,hW rfl,hW rfl,hW rfl,hW rfl,⟨_,rfl,⟨leD.refl _,leD.refl _,leD.refl _,leD.refl _,leD.refl _,leD.refl _,leD.refl _,leD.refl _,leD.refl _,leD.refl _,leD.refl _,leD.refl _,trivial⟩⟩,hR rfl,trivial⟩
 apply vb hm<;>intro _ hm
 cases hm
 exact c5.of 16 rfl (tA rfl) ⟨hR rfl,hR rfl,hR rfl,hW rfl,hW rfl,hW rfl,hW rfl,hW rfl,hW rfl,hW rfl,hW rfl,hW rfl,hW rfl,hR rfl,hR rfl,trivial⟩
 refine⟨([(⟨c.From,c.No,c.Thing,c.Start,c.Until,false⟩:b4)]:List b4).flatMap b4.c,([(⟨c.From,c.No,c.Thing,c.Start,c.Until,false⟩:b4)]:List b4).length,⟨rfl,rfl⟩, ?_⟩
 obtain⟨x778,hx779,hm⟩:=b5 hm
 refine .inl (b1I.mk ⟨_,_,_,_,_,_,_,rfl,a1B v13 x773 (([(⟨c.From,c.No,c.Thing,c.Start,c.Until,false⟩:b4)]:List b4)) _ hx779, ?_⟩)
 cases hm
 exact c5.of 16 rfl (tA rfl) ⟨hR rfl,hR rfl,hR rfl,hW rfl,hW rfl,hW rfl,hW rfl,hW rfl,hW rfl,hW rfl,hW rfl,hW rfl,hW rfl,hR rfl,hR rfl,trivial⟩
 rcases ev771 with⟨v762,x763⟩|⟨⟩
 cases hm
 exact c5.of 15 rfl (tA rfl) ⟨hR rfl,hR rfl,hR rfl,hW rfl,hW rfl,hW rfl,hW rfl,hW rfl,hW rfl,hW rfl,hW rfl,hW rfl,hW rfl,hR rfl,trivial⟩
 cases hm
 exact c5.of 15 rfl (tA rfl) ⟨hR rfl,hR rfl,hR rfl,hW rfl,hW rfl,hW rfl,hW rfl,hW rfl,hW rfl,hW rfl,hW rfl,hW rfl,hW rfl,hR rfl,trivial⟩
 obtain⟨v725,x726⟩:=ev752
 apply vb hm<;>intro _ hm
 cases hm
 exact d0.le (⟨_,rfl,⟨⟨_,rfl,⟨leD.refl _,leD.refl _,leD.nil,leD.nil,leD.nil,leD.nil,leD.nil,leD.refl _,leD.nil,leD.nil,leD.nil,leD.nil,leD.nil,trivial⟩⟩,leD.refl _,trivial⟩⟩)
 cases hm
 exact d0.le (leD.refl _)
 replace hm:=b8C h706 hm
 cases h780:(c.Kind==6)
 rotate_left
 replace hm:=b8D h780 hm
 refine⟨⟨3,139,by kernel_rfl,by kernel_rfl⟩,159,by simp only [a6w,h39,h260,h354,h587,h706,h780], ?_⟩
 obtain⟨ev920,he921,hm⟩:=b5 hm
 refine K1.ofZ pok ⟨[(0, .own 14 0),(1, .agg (b8.c c)),(1000000, .agg (a6.c x)),(1000001, .agg (b8.c c)),(1000002, .own 0 0),(1000003, .own 1 0),(1000004, .own 2 0),(1000005,DI 0),(1000006, .own 14 0),(1000007,DI 0),(1000013,DB false),(1000018,DB (c.To !=x19))], [(0, .blk (a6.c x) 30),(1, .blk (b8.c c) 42),(2, .blk [DI 0,DI 0,nS,nS,nS,nS,nS,DI 0,nS,nS,nS,nS,nS] 30),(4,rE 4 v9 a8.c 110),(5,rE 6 v10 b9.c 108),(6,rE 4 v11 a7.c 149),(7,rE 5 v12 b6.c 112),(8,rE 6 v13 b4.c 114),(9,rE 4 v14 a8.c 110),(10,rE 6 v15 b9.c 108),(11,rE 4 v16 a7.c 149),(12,rE 5 v17 b6.c 112),(13,rE 6 v18 b4.c 114),(14, .blk [DI x19,DI x20, .row 4 4, .row 5 6, .row 6 4, .row 7 5, .row 8 6,DI x21, .row 9 4, .row 10 6, .row 11 4, .row 12 5, .row 13 6] 102)],15⟩ (match ev920 with|v839=>(⟨[(0, .agg (a6.c x)),(1, .agg (b8.c c)),(2, .own 0 0),(3, .own 1 0),(4, .own 2 0),(5,DI 0),(6, .own 14 0),(7,DI 0),(13,DB false),(18,DB (c.To !=x19)),(40,DB true)], [(0, .blk (a6.c x) 30),(1, .blk (b8.c c) 42),(2, .blk [DI 0,DI 0,nS,nS,nS,nS,nS,DI 0,nS,nS,nS,nS,nS] 30),(4,rE 4 v9 a8.c 110),(5,rE 6 v10 b9.c 108),(6,rE 4 v11 a7.c 149),(7,rE 5 v839 b6.c 112),(8,rE 6 v13 b4.c 114),(9,rE 4 v14 a8.c 110),(10,rE 6 v15 b9.c 108),(11,rE 4 v16 a7.c 149),(12,rE 5 v17 b6.c 112),(13,rE 6 v18 b4.c 114),(14, .blk [DI x19,DI x20, .row 4 4, .row 5 6, .row 6 4, .row 7 5, .row 8 6,DI x21, .row 9 4, .row 10 6, .row 11 4, .row 12 5, .row 13 6] 102)],15⟩:Sy):Sy) c4T [99,106,149,210,211,220] [62] [61,154,155,156,157,158,159,184,188,189,208] Tryz.func159 rfl rfl rfl (c5.of 15 rfl (tA rfl) ⟨hR rfl,hR rfl,hR rfl,hW rfl,hW rfl,hW rfl,hW rfl,hW rfl,hW rfl,hW rfl,hW rfl,hW rfl,hW rfl,hR rfl,trivial⟩) (fun sv=> ?_) ?_
 have hm:=he921
 obtain⟨ev980,he,hk981⟩:=b5 hm
 refine u4.ofL (L0 c v12) (fun(v940,v941)=>⟨[(0, .own 14 0),(1, .agg (b8.c c)),(3, .own 15 0),(4,DB false),(13,DI (v12.length:Int)),(14,DI v940),(1000000, .agg (a6.c x)),(1000001, .agg (b8.c c)),(1000002, .own 0 0),(1000003, .own 1 0),(1000004, .own 2 0),(1000005,DI 0),(1000006, .own 14 0),(1000007,DI 0),(1000013,DB false),(1000018,DB (c.To !=x19))], [(0, .blk (a6.c x) 30),(1, .blk (b8.c c) 42),(2, .blk [DI 0,DI 0,nS,nS,nS,nS,nS,DI 0,nS,nS,nS,nS,nS] 30),(4,rE 4 v9 a8.c 110),(5,rE 6 v10 b9.c 108),(6,rE 4 v11 a7.c 149),(7,rE 5 v941 b6.c 112),(8,rE 6 v13 b4.c 114),(9,rE 4 v14 a8.c 110),(10,rE 6 v15 b9.c 108),(11,rE 4 v16 a7.c 149),(12,rE 5 v17 b6.c 112),(13,rE 6 v18 b4.c 114),(14, .blk [DI x19,DI x20, .row 4 4, .row 5 6, .row 6 4, .row 7 5, .row 8 6,DI x21, .row 9 4, .row 10 6, .row 11 4, .row 12 5, .row 13 6] 102),(15, .blk (b8.c c) 42)],16⟩) (0,v12) (c5.of 16 rfl (tA rfl) ⟨hR rfl,hR rfl,hR rfl,hW rfl,hW rfl,hW rfl,hW rfl,hW rfl,hW rfl,hW rfl,hW rfl,hW rfl,hW rfl,hR rfl,hR rfl,trivial⟩) he ?_
 rintro fu982 ⟨v940,v941⟩ b hm hi983
 apply vb hm<;>intro _ hm
 obtain⟨e985,hx986,hm⟩:=b5 hm
 refine⟨z7 hx986, ?_⟩
 refine⟨rfl, ?_⟩
 obtain⟨e987,hx988,hm⟩:=b5 hm
 refine⟨_,r7 (fun _=>rfl) hx988, ?_⟩
 apply vb hm<;>intro _ hm
 obtain⟨e990,hx991,hm⟩:=b5 hm
 refine⟨_,r7 (fun _=>rfl) hx991, ?_⟩
 apply vb hm<;>intro _ hm
 obtain⟨e993,hx994,hm⟩:=b5 hm
 refine⟨_,r7 (fun _=>rfl) hx994, ?_⟩
 apply vb hm<;>intro _ hm
 refine⟨rfl, ?_⟩
 obtain⟨e996,hx997,hm⟩:=b5 hm
 refine⟨_,r7 (fun _=>rfl) hx997, ?_⟩
 obtain⟨e998,hx999,hm⟩:=b5 hm
 refine⟨_,r7 (fun _=>rfl) hx999, ?_⟩
 obtain⟨e1000,hx1001,hm⟩:=b5 hm
 refine⟨_,r7 (fun _=>rfl) hx1001,_,N6 (y:=(⟨e1000.No,e1000.Thing,e1000.To,e1000.From,(if(if e998.From>c.Until then e998.From else c.Until)<e996.Until then(if e998.From>c.Until then e998.From else c.Until)else e996.Until)⟩:b6)) (fun _=>rfl) hx1001, ?_⟩
 cases hm
 exact⟨(_,((W (v940+1)),(v941.set v940.toNat (⟨e1000.No,e1000.Thing,e1000.To,e1000.From,(if(if e998.From>c.Until then e998.From else c.Until)<e996.Until then(if e998.From>c.Until then e998.From else c.Until)else e996.Until)⟩:b6)))),c5.of 16 rfl (tA rfl) ⟨hR rfl,hR rfl,hR rfl,hW rfl,hW rfl,hW rfl,hW rfl,hW rfl,hW rfl,hW rfl,hW rfl,hW rfl,hW rfl,hR rfl,hR rfl,trivial⟩,hi983,Nat.lt_succ_self _⟩
 cases hm
 exact⟨(_,((W (v940+1)),v941)),c5.of 16 rfl (tA rfl) ⟨hR rfl,hR rfl,hR rfl,hW rfl,hW rfl,hW rfl,hW rfl,hW rfl,hW rfl,hW rfl,hW rfl,hW rfl,hW rfl,hR rfl,hR rfl,trivial⟩,hi983,Nat.lt_succ_self _⟩
 cases hm
 exact⟨(_,((W (v940+1)),v941)),c5.of 16 rfl (tA rfl) ⟨hR rfl,hR rfl,hR rfl,hW rfl,hW rfl,hW rfl,hW rfl,hW rfl,hW rfl,hW rfl,hW rfl,hW rfl,hW rfl,hR rfl,hR rfl,trivial⟩,hi983,Nat.lt_succ_self _⟩
 cases hm
 exact⟨(_,((W (v940+1)),v941)),c5.of 16 rfl (tA rfl) ⟨hR rfl,hR rfl,hR rfl,hW rfl,hW rfl,hW rfl,hW rfl,hW rfl,hW rfl,hW rfl,hW rfl,hW rfl,hW rfl,hR rfl,hR rfl,trivial⟩,hi983,Nat.lt_succ_self _⟩
 cases hm
 cases hi983
 have hm:=hk981
 cases hm
 exact c5.of 15 rfl (tA rfl) ⟨hR rfl,hR rfl,hR rfl,hW rfl,hW rfl,hW rfl,hW rfl,hW rfl,hW rfl,hW rfl,hW rfl,hW rfl,hW rfl,hR rfl,trivial⟩
 obtain v839:=ev920
 cases hm
 exact d0.le (leD.refl _)
 replace hm:=b8C h780 hm
 cases hm
def a2Y (l:b6) (c_0:Int) (c_1:Int):Option Bool:=
 if(l.Thing==c_0)=true then
  if(decide (l.From≤c_1))=true then
   some (decide (c_1<l.Until))
  else
   some false
 else
  some false
theorem a7e (l:b6) (c_0:Int) (c_1:Int) (r:Bool) (hm:a2Y l c_0 c_1=some r):d7 Tryz.prog 164 [.agg (b6.c l), .ptr [DI c_0] 0, .ptr [DI c_1] 0] (fun x=>x=DB r):=by
 refine zn Tryz.func164 rfl ?_
 apply vb hm<;>intro _ hm
 apply vb hm<;>intro _ hm
 exact hm.rr
 exact hm.rr
 exact hm.rr
def y8 (s:(List b6)) (c1_0:Int) (c1_1:Int):Int→Option (Sum Int (Sum Int Int)):=fun v7=>
 if(decide (v7<(s.length:Int)))=true then
  Option.bind (idx s v7) fun e15=>
  Option.bind (a2Y e15 c1_0 c1_1) fun x17=>
  if x17=true then
   some (.inr (.inr v7))
  else
   some (.inl (W (v7+1)))
 else
  some (.inr (.inl v7))
def B3 (s:(List b6)) (c1_0:Int) (c1_1:Int):Option Int:=
 Option.bind (l8 (y8 s c1_0 c1_1) 0) fun e=>
 match e with
 | .inl v20=>
  some (-1)
 | .inr rr21=>
  some rr21
theorem L2 (s:(List b6)) (c1_0:Int) (c1_1:Int) (r:Int) (hm:B3 s c1_0 c1_1=some r):d7 Tryz.prog 179 [lD 5 s b6.c, .fn 164 [] [.ptr [DI c1_0] 0, .ptr [DI c1_1] 0]] (fun x=>x=DI r):=by
 refine zn Tryz.func179 rfl ?_
 obtain⟨ev22,he,hk23⟩:=b5 hm
 refine u4.ofL (y8 s c1_0 c1_1) (fun v7=>⟨[(0,lD 5 s b6.c),(1, .fn 164 [] [.ptr [DI c1_0] 0, .ptr [DI c1_1] 0]),(4,DI 0),(7,DI (s.length:Int)),(8,DI v7)], [],0⟩) 0 (c5.of 0 rfl (tA rfl) trivial) he ?_
 rintro fu24 v7 b hm hi25
 apply vb hm<;>intro _ hm
 obtain⟨e27,hx28,hm⟩:=b5 hm
 refine⟨_,d9 (fun _=>rfl) hx28, ?_⟩
 refine cy hm (a7e e27 c1_0 c1_1) fun x29 hm=> ?_
 apply vb hm<;>intro _ hm
 cases hm
 cases hi25
 have hm:=hk23
 exact hm.rr
 cases hm
 exact⟨(_,(W (v7+1))),c5.of 0 rfl (tA rfl) trivial,hi25,Nat.lt_succ_self _⟩
 cases hm
 cases hi25
 have hm:=hk23
 exact hm.rr
def y9 (s:(List b6)) (c1_0:Int) (c1_1:Int):Option Bool:=
 Option.bind (B3 s c1_0 c1_1) fun x1=>
 some (decide (x1≥0))
theorem K2 (s:(List b6)) (c1_0:Int) (c1_1:Int) (r:Bool) (hm:y9 s c1_0 c1_1=some r):d7 Tryz.prog 143 [lD 5 s b6.c, .fn 164 [] [.ptr [DI c1_0] 0, .ptr [DI c1_1] 0]] (fun x=>x=DB r):=by
 refine zn Tryz.func143 rfl ?_
 refine cy hm (L2 s c1_0 c1_1) fun x1 hm=> ?_
 exact hm.rr
def a2V (l:b4) (c_0:Int) (c_1:Int):Option Bool:=
 if(l.Thing==c_0)=true then
  if(decide (l.From≤c_1))=true then
   some (decide (c_1<l.Until))
  else
   some false
 else
  some false
theorem a7h (l:b4) (c_0:Int) (c_1:Int) (r:Bool) (hm:a2V l c_0 c_1=some r):d7 Tryz.prog 166 [.agg (b4.c l), .ptr [DI c_0] 0, .ptr [DI c_1] 0] (fun x=>x=DB r):=by
 refine zn Tryz.func166 rfl ?_
 apply vb hm<;>intro _ hm
 apply vb hm<;>intro _ hm
 exact hm.rr
 exact hm.rr
 exact hm.rr
def A4 (s:(List b4)) (c1_0:Int) (c1_1:Int):Int→Option (Sum Int (Sum Int Int)):=fun v7=>
 if(decide (v7<(s.length:Int)))=true then
  Option.bind (idx s v7) fun e15=>
  Option.bind (a2V e15 c1_0 c1_1) fun x17=>
  if x17=true then
   some (.inr (.inr v7))
  else
   some (.inl (W (v7+1)))
 else
  some (.inr (.inl v7))
def D0 (s:(List b4)) (c1_0:Int) (c1_1:Int):Option Int:=
 Option.bind (l8 (A4 s c1_0 c1_1) 0) fun e=>
 match e with
 | .inl v20=>
  some (-1)
 | .inr rr21=>
  some rr21
theorem M2 (s:(List b4)) (c1_0:Int) (c1_1:Int) (r:Int) (hm:D0 s c1_0 c1_1=some r):d7 Tryz.prog 190 [lD 6 s b4.c, .fn 166 [] [.ptr [DI c1_0] 0, .ptr [DI c1_1] 0]] (fun x=>x=DI r):=by
 refine zn Tryz.func190 rfl ?_
 obtain⟨ev22,he,hk23⟩:=b5 hm
 refine u4.ofL (A4 s c1_0 c1_1) (fun v7=>⟨[(0,lD 6 s b4.c),(1, .fn 166 [] [.ptr [DI c1_0] 0, .ptr [DI c1_1] 0]),(4,DI 0),(7,DI (s.length:Int)),(8,DI v7)], [],0⟩) 0 (c5.of 0 rfl (tA rfl) trivial) he ?_
 rintro fu24 v7 b hm hi25
 apply vb hm<;>intro _ hm
 obtain⟨e27,hx28,hm⟩:=b5 hm
 refine⟨_,d9 (fun _=>rfl) hx28, ?_⟩
 refine cy hm (a7h e27 c1_0 c1_1) fun x29 hm=> ?_
 apply vb hm<;>intro _ hm
 cases hm
 cases hi25
 have hm:=hk23
 exact hm.rr
 cases hm
 exact⟨(_,(W (v7+1))),c5.of 0 rfl (tA rfl) trivial,hi25,Nat.lt_succ_self _⟩
 cases hm
 cases hi25
 have hm:=hk23
 exact hm.rr
def A8 (s:(List b4)) (c1_0:Int) (c1_1:Int):Option Bool:=
 Option.bind (D0 s c1_0 c1_1) fun x1=>
 some (decide (x1≥0))
theorem K8 (s:(List b4)) (c1_0:Int) (c1_1:Int) (r:Bool) (hm:A8 s c1_0 c1_1=some r):d7 Tryz.prog 165 [lD 6 s b4.c, .fn 166 [] [.ptr [DI c1_0] 0, .ptr [DI c1_1] 0]] (fun x=>x=DB r):=by
 refine zn Tryz.func165 rfl ?_
 refine cy hm (M2 s c1_0 c1_1) fun x1 hm=> ?_
 exact hm.rr
def a4i (p:G7) (thing:Int) (moment:Int):Option Bool:=
 Option.bind (d6 thing) fun x1=>
 if(x1==p.Station.Me)=true then
  Option.bind (y9 p.Station.Now.Leases thing moment) fun x4=>
  some (!x4)
 else
  Option.bind (A8 p.Station.Now.Loans thing moment) fun x6=>
  some x6
theorem a8I (p:G7) (thing:Int) (moment:Int) (r:Bool) (hm:a4i p thing moment=some r):d7 Tryz.prog 98 [.ptr (G7.c p) 0,DI thing,DI moment] (fun x=>x=DB r):=by
 refine zy c5H [] [] [] Tryz.func98 rfl ?_
 refine⟨rfl, ?_⟩
 refine cy hm (j2 thing) fun x1 hm=> ?_
 apply vb hm<;>intro _ hm
 refine co hm (K2 p.Station.Now.Leases thing moment) fun x4 hm=> ?_
 exact hm.rr
 refine co hm (K8 p.Station.Now.Loans thing moment) fun x6 hm=> ?_
 exact hm.rr
def V7 (x:a6) (thing:Int) (moment:Int):Option (Bool×Int):=
 Option.bind (a0y x) fun⟨x1,x2⟩=>
 b8X x1 (
  if(x2 !=0)=true then
   some (false,x2)
  else
   Option.bind (w6 thing) fun x6=>
   if(!x6)=true then
    some (false,1)
   else
    Option.bind (d8 moment) fun x9=>
    if(!x9)=true then
     some (false,95)
    else
     none) fun p4=>
 if(x2 !=0)=true then
  some (false,x2)
 else
  Option.bind (w6 thing) fun x13=>
  if(!x13)=true then
   some (false,1)
  else
   Option.bind (d8 moment) fun x16=>
   if(!x16)=true then
    some (false,95)
   else
    Option.bind (a4i p4 thing moment) fun x19=>
    some (x19,0)
theorem a3g (x:a6) (thing:Int) (moment:Int) (r:(Bool×Int)) (hm:V7 x thing moment=some r):d7 Tryz.prog 41 [.agg (a6.c x),DI thing,DI moment] (fun x=>x= .tup [DB r.1,DI r.2]):=by
 refine zn Tryz.func41 rfl ?_
 refine cy hm (a4B x) ?_
 rintro⟨x1,x2⟩ hm
 rcases x1 with _|p4
 replace hm:=b2x hm
 apply vb hm<;>intro _ hm
 cases hm
 exact d0.le (leD.refl _)
 refine cy hm (H4 thing) fun x6 hm=> ?_
 apply vb hm<;>intro _ hm
 cases hm
 exact d0.le (leD.refl _)
 refine cy hm (k9 moment) fun x9 hm=> ?_
 apply vb hm<;>intro _ hm
 cases hm
 exact d0.le (leD.refl _)
 cases hm
 replace hm:=b1F hm
 apply vb hm<;>intro _ hm
 cases hm
 exact d0.le (leD.refl _)
 refine cy hm (H4 thing) fun x13 hm=> ?_
 apply vb hm<;>intro _ hm
 cases hm
 exact d0.le (leD.refl _)
 refine cy hm (k9 moment) fun x16 hm=> ?_
 apply vb hm<;>intro _ hm
 cases hm
 exact d0.le (leD.refl _)
 refine cy hm (a8I p4 thing moment) fun x19 hm=> ?_
 cases hm
 exact d0.le (leD.refl _)
def P3 (x:List Int):Option (List Int):=gd (x.length<4611686018427387904) (some (a7A x))
theorem a5Z (x r:List Int) (hm:P3 x=some r):c1m Tryz.prog 99 1 x.length (x.flatMap cI) 3 [] r.length (r.flatMap cI):=by
 obtain⟨hg,hm⟩:=c6 hm
 cases hm
 exact b8q c0P x 3 hg
def a2m (thing:Int) (from_:Int) (p4:G7):(Int×(List Int))→Option (Sum (Int×(List Int)) (Int×(List Int))):=fun(v34,v35)=>
 if(decide (v34<(p4.Station.Now.Leases.length:Int)))=true then
  Option.bind (idx p4.Station.Now.Leases v34) fun e42=>
  if(e42.Thing==thing)=true then
   if(decide (e42.Until>from_))=true then
    gd ((v35.length+([e42.Until]:List Int).length)*8≤140737488355328∧v35.length+([e42.Until]:List Int).length≤9223372036854775807)<|
    some (.inl ((W (v34+1)),(v35++([e42.Until]:List Int))))
   else
    some (.inl ((W (v34+1)),v35))
  else
   some (.inl ((W (v34+1)),v35))
 else
  some (.inr (v34,v35))
def a2g (thing:Int) (from_:Int) (until_:Int) (p4:G7) (x49:(List Int)):Int→Option (Sum Int (Sum Int (Int×Int))):=fun v61=>
 if(decide (v61<(x49.length:Int)))=true then
  Option.bind (idx x49 v61) fun e74=>
  Option.bind (idx x49 v61) fun e76=>
  Option.bind (d8 (W ((W (e76+until_))-from_))) fun x78=>
  if x78=true then
   Option.bind (V4 p4 (⟨0,thing,0,e76,(W ((W (e76+until_))-from_))⟩:b6)) fun x81=>
   if(!x81)=true then
    some (.inr (.inr (e76,0)))
   else
    some (.inl (W (v61+1)))
  else
   some (.inl (W (v61+1)))
 else
  some (.inr (.inl v61))
def a0B (x:a6) (thing:Int) (from_:Int) (until_:Int):Option (Int×Int):=
 Option.bind (a0y x) fun⟨x1,x2⟩=>
 b8X x1 (
  if(x2 !=0)=true then
   some (0,x2)
  else
   Option.bind (w6 thing) fun x6=>
   if(!x6)=true then
    some (0,1)
   else
    Option.bind (d8 from_) fun x9=>
    if(!x9)=true then
     some (0,95)
    else
     Option.bind (d8 until_) fun x12=>
     if(!x12)=true then
      some (0,95)
     else
      none) fun p4=>
 if(x2 !=0)=true then
  some (0,x2)
 else
  Option.bind (w6 thing) fun x16=>
  if(!x16)=true then
   some (0,1)
  else
   Option.bind (d8 from_) fun x19=>
   if(!x19)=true then
    some (0,95)
   else
    Option.bind (d8 until_) fun x22=>
    if(!x22)=true then
     some (0,95)
    else
     Option.bind (d6 thing) fun x25=>
     if(x25 !=p4.Station.Me)=true then
      some (0,92)
     else
      if(decide (from_>until_))=true then
       some (0,95)
      else
       Option.bind (l8 (a2m thing from_ p4) (0,([from_]:List Int))) fun(v46,v47)=>
       Option.bind (P3 v47) fun x49=>
       Option.bind (l8 (a2g thing from_ until_ p4 x49) 0) fun e=>
       match e with
       | .inl v84=>
        some (0,3)
       | .inr rr85=>
        some rr85
theorem a7y (x:a6) (thing:Int) (from_:Int) (until_:Int) (r:(Int×Int)) (hm:a0B x thing from_ until_=some r):d7 Tryz.prog 42 [.agg (a6.c x),DI thing,DI from_,DI until_] (fun x=>x= .tup [DI r.1,DI r.2]):=by
 refine zy c5W [99,106,149,210,211,220] [] [] Tryz.func42 rfl ?_
 refine cy hm (a4B x) ?_
 rintro⟨x1,x2⟩ hm
 rcases x1 with _|p4
 replace hm:=b2x hm
 apply vb hm<;>intro _ hm
 cases hm
 exact d0.le (leD.refl _)
 refine cy hm (H4 thing) fun x6 hm=> ?_
 apply vb hm<;>intro _ hm
 cases hm
 exact d0.le (leD.refl _)
 refine cy hm (k9 from_) fun x9 hm=> ?_
 apply vb hm<;>intro _ hm
 cases hm
 exact d0.le (leD.refl _)
 refine cy hm (k9 until_) fun x12 hm=> ?_
 apply vb hm<;>intro _ hm
 cases hm
 exact d0.le (leD.refl _)
 refine⟨rfl, ?_⟩
 cases hm
 replace hm:=b1F hm
 apply vb hm<;>intro _ hm
 cases hm
 exact d0.le (leD.refl _)
 refine cy hm (H4 thing) fun x16 hm=> ?_
 apply vb hm<;>intro _ hm
 cases hm
 exact d0.le (leD.refl _)
 refine cy hm (k9 from_) fun x19 hm=> ?_
 apply vb hm<;>intro _ hm
 cases hm
 exact d0.le (leD.refl _)
 refine cy hm (k9 until_) fun x22 hm=> ?_
 apply vb hm<;>intro _ hm
 cases hm
 exact d0.le (leD.refl _)
 refine⟨rfl, ?_⟩
 refine cy hm (j2 thing) fun x25 hm=> ?_
 apply vb hm<;>intro _ hm
 cases hm
 exact d0.le (leD.refl _)
 apply vb hm<;>intro _ hm
 cases hm
 exact d0.le (leD.refl _)
 refine⟨([from_]:List Int).flatMap cI,([from_]:List Int).length,⟨rfl,rfl⟩, ?_⟩
 obtain⟨ev101,he,hk102⟩:=b5 hm
 refine u4.ofL (a2m thing from_ p4) (fun(v34,v35)=>⟨[(0, .agg (a6.c x)),(1,DI thing),(2,DI from_),(3,DI until_),(4, .own 0 0),(8,DI 0),(9,DI 0),(10, .ptr (G7.c p4) 0),(11,DI x2),(12, .row 1 1),(23,DB (x2 !=0)),(27,DB (!x16)),(31,DB (!x22)),(40,DB (x25 !=p4.Station.Me)),(49,DB (decide (from_>until_))),(60,lD 5 p4.Station.Now.Leases b6.c),(61,DI (p4.Station.Now.Leases.length:Int)),(62,DI v34)], [(0, .blk (a6.c x) 30),(1,rE 1 v35 cI 3)],2⟩) (0,([from_]:List Int)) (c5.of 2 rfl (tA rfl) ⟨hR rfl,hW rfl,trivial⟩) he ?_
 rintro fu103 ⟨v34,v35⟩ b hm hi104
 apply vb hm<;>intro _ hm
 obtain⟨e106,hx107,hm⟩:=b5 hm
 refine⟨_,d9 (fun _=>rfl) hx107, ?_⟩
 apply vb hm<;>intro _ hm
 apply vb hm<;>intro _ hm
 refine⟨([e106.Until]:List Int).flatMap cI,([e106.Until]:List Int).length,⟨rfl,rfl⟩, ?_⟩
 obtain⟨hg,hm⟩:=c6 hm
 refine⟨hg,_,_,c9 (c:=cI) (l:=(v35:List Int)) (r:=(([e106.Until]:List Int):List Int)), ?_⟩
 cases hm
 exact⟨(_,((W (v34+1)),(v35++([e106.Until]:List Int)))),c5.of 2 rfl (tA rfl) ⟨hR rfl,hW rfl,trivial⟩,hi104,Nat.lt_succ_self _⟩
 cases hm
 exact⟨(_,((W (v34+1)),v35)),c5.of 2 rfl (tA rfl) ⟨hR rfl,hW rfl,trivial⟩,hi104,Nat.lt_succ_self _⟩
 cases hm
 exact⟨(_,((W (v34+1)),v35)),c5.of 2 rfl (tA rfl) ⟨hR rfl,hW rfl,trivial⟩,hi104,Nat.lt_succ_self _⟩
 cases hm
 cases hi104
 have hm:=hk102
 obtain⟨x111,hx110,hm⟩:=b5 hm
 refine .inr (c0T.mk ⟨_,_,_,_,_,_,rfl,a5Z v35 _ hx110, ?_⟩)
 obtain⟨ev148,he,hk149⟩:=b5 hm
 refine u4.ofL (a2g thing from_ until_ p4 x111) (fun v123=>⟨[(0, .agg (a6.c x)),(1,DI thing),(2,DI from_),(3,DI until_),(4, .own 0 0),(8,DI 0),(9,DI 0),(10, .ptr (G7.c p4) 0),(11,DI x2),(12, .row 1 1),(23,DB (x2 !=0)),(27,DB (!x16)),(31,DB (!x22)),(40,DB (x25 !=p4.Station.Me)),(49,DB (decide (from_>until_))),(60,lD 5 p4.Station.Now.Leases b6.c),(61,DI (p4.Station.Now.Leases.length:Int)),(62,DI v34),(63,DB (decide (v34<(p4.Station.Now.Leases.length:Int)))),(84, .row 1 1),(85,DI (x111.length:Int)),(86,DI v123)], [(0, .blk (a6.c x) 30),(1,rE 1 x111 cI 3)],2⟩) 0 (c5.of 2 rfl (tA rfl) ⟨hR rfl,hW rfl,trivial⟩) he ?_
 rintro fu150 v123 b hm hi151
 apply vb hm<;>intro _ hm
 obtain⟨e153,hx154,hm⟩:=b5 hm
 refine⟨z7 hx154, ?_⟩
 obtain⟨e155,hx156,hm⟩:=b5 hm
 refine⟨_,r7 (fun _=>rfl) hx156, ?_⟩
 refine cy hm (k9 (W ((W (e155+until_))-from_))) fun x157 hm=> ?_
 apply vb hm<;>intro _ hm
 refine cy hm (a3N p4 ((⟨0,thing,0,e155,(W ((W (e155+until_))-from_))⟩:b6))) fun x160 hm=> ?_
 apply vb hm<;>intro _ hm
 cases hm
 cases hi151
 have hm:=hk149
 cases hm
 exact d0.le (leD.refl _)
 cases hm
 exact⟨(_,(W (v123+1))),c5.of 2 rfl (tA rfl) ⟨hR rfl,hW rfl,trivial⟩,hi151,Nat.lt_succ_self _⟩
 cases hm
 exact⟨(_,(W (v123+1))),c5.of 2 rfl (tA rfl) ⟨hR rfl,hW rfl,trivial⟩,hi151,Nat.lt_succ_self _⟩
 cases hm
 cases hi151
 have hm:=hk149
 cases hm
 exact d0.le (leD.refl _)
def K3 (s:(List b9)) (i:Int) (v:(List b9)):Option (List b9):=
 gd (0≤i∧i.toNat≤s.length)<|
 if((v.length:Int)==0)=true then
  some s
 else
  if(i==(s.length:Int))=true then
   gd ((s.length+v.length)*48≤140737488355328∧s.length+v.length≤9223372036854775807)<|
   some (s++v)
  else
   gd (0≤i∧i.toNat<s.length∧0<v.length∧(s.length+v.length)*48≤140737488355328∧s.length+v.length≤9223372036854775807) (some (s.take i.toNat++v++s.drop i.toNat))
theorem a1U (s:(List b9)) (i:Int) (v:(List b9)) (r:(List b9)) (hm:K3 s i v=some r):b2C Tryz.prog 149 6 s.length (s.flatMap b9.c) 108 [DI i,lD 6 v b9.c] 6 r.length (r.flatMap b9.c):=by
 obtain⟨hg0,hm⟩:=c6 hm
 refine a7b (X:=⟨Tryz.prog,tt,Tryz.f149.ntmps, [], [], [], [], [], []⟩) (t:=23) (tI:=3) (tB:=4) (ov:=181) (ty:=108) (args:= [lD 6 v b9.c]) pok Tryz.func149 rfl rfl .mk .mk (Nat.le_of_ble_eq_true rfl) hg0 rfl rfl rfl rfl rfl rfl (by kernel_rfl) ⟨⟨_,4,Tryz.func181,by kernel_rfl,by kernel_rfl,by kernel_rfl,by kernel_rfl⟩⟩ (by decide) ?_
 apply vb hm<;>intro _ hm
 cases hm
 exact⟨rfl,rfl⟩
 apply vb hm<;>intro _ hm
 obtain⟨hg,hm⟩:=c6 hm
 refine⟨hg,_,_,c9 (c:=b9.c) (l:=(s:List b9)) (r:=(v:List b9)), ?_⟩
 cases hm
 exact⟨rfl,rfl⟩
 obtain⟨hg,hm⟩:=c6 hm
 cases hm
 exact b7O (fun _=>rfl) hg
def u1 (x:(List b9)) (target:b9):(Int×Int)→Option (Sum (Int×Int) (Int×Int)):=fun(i7,j8)=>
 if(decide (i7<j8))=true then
  Option.bind (idx x (W ((IntKind.u64.wrap (W (i7+j8))).fdiv (2^(min (1:Int).toNat IntKind.u64.bits))))) fun e16=>
  Option.bind (G4 e16 target) fun x18=>
  if(decide (x18<0))=true then
   some (.inl ((W ((W ((IntKind.u64.wrap (W (i7+j8))).fdiv (2^(min (1:Int).toNat IntKind.u64.bits))))+1)),j8))
  else
   some (.inl (i7,(W ((IntKind.u64.wrap (W (i7+j8))).fdiv (2^(min (1:Int).toNat IntKind.u64.bits))))))
 else
  some (.inr (i7,j8))
def l5 (x:(List b9)) (target:b9):Option (Int×Bool):=
 Option.bind (l8 (u1 x target) (0,(x.length:Int))) fun(i21,j22)=>
 if(decide (i21<(x.length:Int)))=true then
  Option.bind (idx x i21) fun e24=>
  Option.bind (G4 e24 target) fun x26=>
  some (i21,(x26==0))
 else
  some (i21,false)
theorem I0 (x:(List b9)) (target:b9) (r:(Int×Bool)) (hm:l5 x target=some r):d7 Tryz.prog 180 [lD 6 x b9.c, .agg (b9.c target), .fn 89 [] []] (fun x=>x= .tup [DI r.1,DB r.2]):=by
 refine zy c3z [] [] [] Tryz.func180 rfl ?_
 obtain⟨ev28,he,hk29⟩:=b5 hm
 refine u4.ofL (u1 x target) (fun(i7,j8)=>⟨[(0,lD 6 x b9.c),(1, .agg (b9.c target)),(2, .fn 89 [] []),(4, .own 0 0),(6,DI 0),(7,DB false),(8,DI (x.length:Int)),(9,DI i7),(10,DI j8)], [(0, .blk (b9.c target) 108)],1⟩) (0,(x.length:Int)) (c5.of 1 rfl (tA rfl) ⟨hR rfl,trivial⟩) he ?_
 rintro fu30 ⟨i7,j8⟩ b hm hi31
 apply vb hm<;>intro _ hm
 refine⟨by decide, ?_⟩
 refine⟨rfl, ?_⟩
 obtain⟨e33,hx34,hm⟩:=b5 hm
 refine⟨_,d9 (fun _=>rfl) hx34, ?_⟩
 refine cy hm (a0k e33 target) fun x35 hm=> ?_
 apply vb hm<;>intro _ hm
 cases hm
 exact⟨(_,((W ((W ((IntKind.u64.wrap (W (i7+j8))).fdiv (2^(min (1:Int).toNat IntKind.u64.bits))))+1)),j8)),c5.of 1 rfl (tA rfl) ⟨hR rfl,trivial⟩,hi31,Nat.lt_succ_self _⟩
 cases hm
 exact⟨(_,(i7,(W ((IntKind.u64.wrap (W (i7+j8))).fdiv (2^(min (1:Int).toNat IntKind.u64.bits)))))),c5.of 1 rfl (tA rfl) ⟨hR rfl,trivial⟩,hi31,Nat.lt_succ_self _⟩
 cases hm
 cases hi31
 have hm:=hk29
 refine⟨rfl, ?_⟩
 apply vb hm<;>intro _ hm
 obtain⟨e39,hx40,hm⟩:=b5 hm
 refine⟨_,d9 (fun _=>rfl) hx40, ?_⟩
 refine cy hm (a0k e39 target) fun x41 hm=> ?_
 cases hm
 exact d0.le (leD.refl _)
 cases hm
 exact d0.le (leD.refl _)
def u5 (l:(List b9)) (x:b9):Option (Int×Bool):=
 Option.bind (l5 l x) fun⟨x1,x2⟩=>
 some (x1,x2)
theorem V9 (l:(List b9)) (x:b9) (r:(Int×Bool)) (hm:u5 l x=some r):d7 Tryz.prog 148 [lD 6 l b9.c, .agg (b9.c x), .fn 89 [] []] (fun x=>x= .tup [DI r.1,DB r.2]):=by
 refine zn Tryz.func148 rfl ?_
 refine cy hm (I0 l x) ?_
 rintro⟨x1,x2⟩ hm
 cases hm
 exact d0.le (leD.refl _)
def S8 (night:Int) (value:Int) (v10:(List b9)) (x19:Int) (x20:Int):Option (Sum ((List b9)×Int) Unit):=
 Option.bind (u5 v10 (⟨night,(W ((W (6*(W (x20+1))))+x19)),value,0,0,false⟩:b9)) fun⟨x54,x55⟩=>
 if x55=true then
  some (.inl (v10,x54))
 else
  if((v10.length:Int)==12)=true then
   some (.inr ())
  else
   Option.bind (K3 v10 x54 ([(⟨night,(W ((W (6*(W (x20+1))))+x19)),value,0,0,false⟩:b9)]:List b9)) fun x59=>
   some (.inl (x59,x54))
def U6 (x:a6) (night:Int) (value:Int):Option (a6×Int):=
 Option.bind (O2 x) fun e=>
 match e with
 | .inl x8=>
  if(x8 !=0)=true then
   some ((⟨0,(⟨0, [], [], [], [], []⟩:b7),(⟨0, [], [], [], [], []⟩:b7)⟩:a6),x8)
  else
   Option.bind (u0 night) fun x32=>
   if(!x32)=true then
    some ((⟨0,(⟨0, [], [], [], [], []⟩:b7),(⟨0, [], [], [], [], []⟩:b7)⟩:a6),6)
   else
    Option.bind (j1 value) fun x35=>
    if(!x35)=true then
     some ((⟨0,(⟨0, [], [], [], [], []⟩:b7),(⟨0, [], [], [], [], []⟩:b7)⟩:a6),1)
    else
     none
 | .inr (v9,v10,v11,v12,v13,v14,v15,v16,v17,v18,x19,x20,x21)=>
  Option.bind (u0 night) fun x38=>
  if(!x38)=true then
   some ((⟨0,(⟨0, [], [], [], [], []⟩:b7),(⟨0, [], [], [], [], []⟩:b7)⟩:a6),6)
  else
   Option.bind (j1 value) fun x41=>
   if(!x41)=true then
    some ((⟨0,(⟨0, [], [], [], [], []⟩:b7),(⟨0, [], [], [], [], []⟩:b7)⟩:a6),1)
   else
    if(x20==9999)=true then
     some ((⟨0,(⟨0, [], [], [], [], []⟩:b7),(⟨0, [], [], [], [], []⟩:b7)⟩:a6),2)
    else
     Option.bind (S8 night value v10 x19 x20) fun e=>
     match e with
     | .inl (v52,x53)=>
      Option.bind (idx v52 x53) fun e63=>
      Option.bind (idx v52 x53) fun e65=>
      some ((⟨x19,(⟨(W (x20+1)),v9,(v52.set x53.toNat (⟨night,(W ((W (6*(W (x20+1))))+x19)),value,0,0,false⟩:b9)),v11,v12,v13⟩:b7),(⟨x21,v14,v15,v16,v17,v18⟩:b7)⟩:a6),0)
     | .inr _=>
      some ((⟨0,(⟨0, [], [], [], [], []⟩:b7),(⟨0, [], [], [], [], []⟩:b7)⟩:a6),2)
theorem a4Y (x:a6) (night:Int) (value:Int) (r:(a6×Int)) (hm:U6 x night value=some r):d7 Tryz.prog 31 [.agg (a6.c x),DI night,DI value] (fun x=>x= .tup [.agg (a6.c r.1),DI r.2]):=by
 refine zy c5U [99,106,149,210,211,220] [62] [61,88] Tryz.func31 rfl ?_
 obtain⟨ev29,he30,hm⟩:=b5 hm
 refine K1.ofZ pok ⟨[(0, .agg (a6.c x)),(1000000, .agg (a6.c x)),(1000001,DI night),(1000002,DI value),(1000003, .own 0 0),(1000006, .own 1 0),(1000007,DI 0)], [(0, .blk (a6.c x) 30),(1, .blk [DI 0,DI 0,nS,nS,nS,nS,nS,DI 0,nS,nS,nS,nS,nS] 30)],2⟩ (match ev29 with| .inl x8=>(⟨[(0, .agg (a6.c x)),(1,DI night),(2,DI value),(3, .own 0 0),(6, .own 1 0),(7,DI 0),(16, .tup [.v (.pointer none),DI x8])], [(0, .blk (a6.c x) 30),(1, .blk [DI 0,DI 0,nS,nS,nS,nS,nS,DI 0,nS,nS,nS,nS,nS] 30)],2⟩:Sy)| .inr (v9,v10,v11,v12,v13,v14,v15,v16,v17,v18,x19,x20,x21)=>(⟨[(0, .agg (a6.c x)),(1,DI night),(2,DI value),(3, .own 0 0),(6, .own 1 0),(7,DI 0),(16, .tup [.own 13 0,DI 0])], [(0, .blk (a6.c x) 30),(1, .blk [DI 0,DI 0,nS,nS,nS,nS,nS,DI 0,nS,nS,nS,nS,nS] 30),(3,rE 4 v9 a8.c 110),(4,rE 6 v10 b9.c 108),(5,rE 4 v11 a7.c 149),(6,rE 5 v12 b6.c 112),(7,rE 6 v13 b4.c 114),(8,rE 4 v14 a8.c 110),(9,rE 6 v15 b9.c 108),(10,rE 4 v16 a7.c 149),(11,rE 5 v17 b6.c 112),(12,rE 6 v18 b4.c 114),(13, .blk [DI x19,DI x20, .row 3 4, .row 4 6, .row 5 4, .row 6 5, .row 7 6,DI x21, .row 8 4, .row 9 6, .row 10 4, .row 11 5, .row 12 6] 102)],14⟩:Sy):Sy) b8Q [99,106,149,210,211,220] [62] [61,88] Tryz.func61 rfl rfl rfl (c5.of 2 rfl (tA rfl) ⟨hR rfl,hR rfl,trivial⟩) (fun sv=> ?_) ?_
 have hm:=he30
 refine cy hm (U2 x) fun x74 hm=> ?_
 apply vb hm<;>intro _ hm
 cases hm
 exact c5.of 2 rfl (tA rfl) ⟨hR rfl,hR rfl,trivial⟩
 refine⟨rfl, ?_⟩
 obtain⟨x77,hx78,hm⟩:=b5 hm
 refine .inr (a3F.mk ⟨_,_,J1 x.Now _ hx78, ?_⟩)
 obtain⟨x79,hx80,hm⟩:=b5 hm
 refine .inr (a3F.mk ⟨_,_,J1 x.Safe _ hx80, ?_⟩)
 cases hm
 exact c5.of 14 rfl (tA rfl) ⟨hR rfl,hR rfl,hW rfl,hW rfl,hW rfl,hW rfl,hW rfl,hW rfl,hW rfl,hW rfl,hW rfl,hW rfl,hR rfl,trivial⟩
 rcases ev29 with x8|⟨v9,v10,v11,v12,v13,v14,v15,v16,v17,v18,x19,x20,x21⟩
 apply vb hm<;>intro _ hm
 cases hm
 exact d0.le (⟨_,rfl,⟨⟨_,rfl,⟨leD.refl _,leD.refl _,leD.nil,leD.nil,leD.nil,leD.nil,leD.nil,leD.refl _,leD.nil,leD.nil,leD.nil,leD.nil,leD.nil,trivial⟩⟩,leD.refl _,trivial⟩⟩)
 refine cy hm (w5 night) fun x32 hm=> ?_
 apply vb hm<;>intro _ hm
 cases hm
 exact d0.le (⟨_,rfl,⟨⟨_,rfl,⟨leD.refl _,leD.refl _,leD.nil,leD.nil,leD.nil,leD.nil,leD.nil,leD.refl _,leD.nil,leD.nil,leD.nil,leD.nil,leD.nil,trivial⟩⟩,leD.refl _,trivial⟩⟩)
 refine cy hm (l7 value) fun x35 hm=> ?_
 apply vb hm<;>intro _ hm
 cases hm
 exact d0.le (⟨_,rfl,⟨⟨_,rfl,⟨leD.refl _,leD.refl _,leD.nil,leD.nil,leD.nil,leD.nil,leD.nil,leD.refl _,leD.nil,leD.nil,leD.nil,leD.nil,leD.nil,trivial⟩⟩,leD.refl _,trivial⟩⟩)
 cases hm
 refine cy hm (w5 night) fun x38 hm=> ?_
 apply vb hm<;>intro _ hm
 cases hm
 exact d0.le (⟨_,rfl,⟨⟨_,rfl,⟨leD.refl _,leD.refl _,leD.nil,leD.nil,leD.nil,leD.nil,leD.nil,leD.refl _,leD.nil,leD.nil,leD.nil,leD.nil,leD.nil,trivial⟩⟩,leD.refl _,trivial⟩⟩)
 refine cy hm (l7 value) fun x41 hm=> ?_
 apply vb hm<;>intro _ hm
 cases hm
 exact d0.le (⟨_,rfl,⟨⟨_,rfl,⟨leD.refl _,leD.refl _,leD.nil,leD.nil,leD.nil,leD.nil,leD.nil,leD.refl _,leD.nil,leD.nil,leD.nil,leD.nil,leD.nil,trivial⟩⟩,leD.refl _,trivial⟩⟩)
 apply vb hm<;>intro _ hm
 cases hm
 exact d0.le (⟨_,rfl,⟨⟨_,rfl,⟨leD.refl _,leD.refl _,leD.nil,leD.nil,leD.nil,leD.nil,leD.nil,leD.refl _,leD.nil,leD.nil,leD.nil,leD.nil,leD.nil,trivial⟩⟩,leD.refl _,trivial⟩⟩)
 refine⟨rfl, ?_⟩
 refine⟨rfl, ?_⟩
 obtain⟨ev61,he62,hm⟩:=b5 hm
 refine K1.ofZ pok ⟨[(0, .row 4 6),(1, .agg [DI night,DI (W ((W (6*(W (x20+1))))+x19)),DI value,DI 0,DI 0,DB false]),(2,DI 12),(3, .fn 89 [] []),(1000000, .agg (a6.c x)),(1000001,DI night),(1000002,DI value),(1000003, .own 0 0),(1000006, .own 1 0),(1000007,DI 0),(1000008, .own 13 0),(1000009,DI 0),(1000010, .own 14 0),(1000019,DB false),(1000024,DB (!x38)),(1000029,DB (!x41)),(1000034,DB (x20==9999))], [(0, .blk (a6.c x) 30),(1, .blk [DI 0,DI 0,nS,nS,nS,nS,nS,DI 0,nS,nS,nS,nS,nS] 30),(3,rE 4 v9 a8.c 110),(4,rE 6 v10 b9.c 108),(5,rE 4 v11 a7.c 149),(6,rE 5 v12 b6.c 112),(7,rE 6 v13 b4.c 114),(8,rE 4 v14 a8.c 110),(9,rE 6 v15 b9.c 108),(10,rE 4 v16 a7.c 149),(11,rE 5 v17 b6.c 112),(12,rE 6 v18 b4.c 114),(13, .blk [DI x19,DI (W (x20+1)), .row 3 4, .row 4 6, .row 5 4, .row 6 5, .row 7 6,DI x21, .row 8 4, .row 9 6, .row 10 4, .row 11 5, .row 12 6] 102),(14, .blk [DI night,DI (W ((W (6*(W (x20+1))))+x19)),DI value,DI 0,DI 0,DB false] 108)],15⟩ (match ev61 with| .inl (v52,x53)=>(⟨[(0, .agg (a6.c x)),(1,DI night),(2,DI value),(3, .own 0 0),(6, .own 1 0),(7,DI 0),(8, .own 13 0),(9,DI 0),(10, .own 14 0),(19,DB false),(24,DB (!x38)),(29,DB (!x41)),(34,DB (x20==9999)),(78, .tup [.row 4 6,DI x53,DB true])], [(0, .blk (a6.c x) 30),(1, .blk [DI 0,DI 0,nS,nS,nS,nS,nS,DI 0,nS,nS,nS,nS,nS] 30),(3,rE 4 v9 a8.c 110),(4,rE 6 v52 b9.c 108),(5,rE 4 v11 a7.c 149),(6,rE 5 v12 b6.c 112),(7,rE 6 v13 b4.c 114),(8,rE 4 v14 a8.c 110),(9,rE 6 v15 b9.c 108),(10,rE 4 v16 a7.c 149),(11,rE 5 v17 b6.c 112),(12,rE 6 v18 b4.c 114),(13, .blk [DI x19,DI (W (x20+1)), .row 3 4, .bad, .row 5 4, .row 6 5, .row 7 6,DI x21, .row 8 4, .row 9 6, .row 10 4, .row 11 5, .row 12 6] 102),(14, .blk [DI night,DI (W ((W (6*(W (x20+1))))+x19)),DI value,DI 0,DI 0,DB false] 108)],15⟩:Sy)| .inr _=>(⟨[(0, .agg (a6.c x)),(1,DI night),(2,DI value),(3, .own 0 0),(6, .own 1 0),(7,DI 0),(8, .own 13 0),(9,DI 0),(10, .own 14 0),(19,DB false),(24,DB (!x38)),(29,DB (!x41)),(34,DB (x20==9999)),(78, .tup [nS,DI 0,DB false])], [(0, .blk (a6.c x) 30),(1, .blk [DI 0,DI 0,nS,nS,nS,nS,nS,DI 0,nS,nS,nS,nS,nS] 30),(3,rE 4 v9 a8.c 110),(4,rE 6 v10 b9.c 108),(5,rE 4 v11 a7.c 149),(6,rE 5 v12 b6.c 112),(7,rE 6 v13 b4.c 114),(8,rE 4 v14 a8.c 110),(9,rE 6 v15 b9.c 108),(10,rE 4 v16 a7.c 149),(11,rE 5 v17 b6.c 112),(12,rE 6 v18 b4.c 114),(13, .blk [DI x19,DI (W (x20+1)), .row 3 4, .row 4 6, .row 5 4, .row 6 5, .row 7 6,DI x21, .row 8 4, .row 9 6, .row 10 4, .row 11 5, .row 12 6] 102),(14, .blk [DI night,DI (W ((W (6*(W (x20+1))))+x19)),DI value,DI 0,DI 0,DB false] 108)],15⟩:Sy):Sy) [] [99,106,149,210,211,220] [62] [61,88] Tryz.func88 rfl rfl rfl (c5.of 15 rfl (tA rfl) ⟨hR rfl,hR rfl,hW rfl,hW rfl,hW rfl,hW rfl,hW rfl,hW rfl,hW rfl,hW rfl,hW rfl,hW rfl,hR rfl,hR rfl,trivial⟩) (fun sv=> ?_) ?_
 have hm:=he62
 refine co hm (V9 v10 ((⟨night,(W ((W (6*(W (x20+1))))+x19)),value,0,0,false⟩:b9))) ?_
 rintro⟨x67,x68⟩ hm
 apply vb hm<;>intro _ hm
 cases hm
 exact c5.of 15 rfl (tA rfl) ⟨hR rfl,hR rfl,hW rfl,hW rfl,hW rfl,hW rfl,hW rfl,hW rfl,hW rfl,hW rfl,hW rfl,hW rfl,⟨_,rfl,⟨leD.refl _,leD.refl _,leD.refl _,leD.refl _,leD.refl _,leD.refl _,leD.refl _,leD.refl _,leD.refl _,leD.refl _,leD.refl _,leD.refl _,trivial⟩⟩,hR rfl,trivial⟩
 apply vb hm<;>intro _ hm
 cases hm
 exact c5.of 15 rfl (tA rfl) ⟨hR rfl,hR rfl,hW rfl,hW rfl,hW rfl,hW rfl,hW rfl,hW rfl,hW rfl,hW rfl,hW rfl,hW rfl,hR rfl,hR rfl,trivial⟩
 refine⟨([(⟨night,(W ((W (6*(W (x20+1))))+x19)),value,0,0,false⟩:b9)]:List b9).flatMap b9.c,([(⟨night,(W ((W (6*(W (x20+1))))+x19)),value,0,0,false⟩:b9)]:List b9).length,⟨rfl,rfl⟩, ?_⟩
 obtain⟨x72,hx73,hm⟩:=b5 hm
 refine .inl (b1I.mk ⟨_,_,_,_,_,_,_,rfl,a1U v10 x67 (([(⟨night,(W ((W (6*(W (x20+1))))+x19)),value,0,0,false⟩:b9)]:List b9)) _ hx73, ?_⟩)
 cases hm
 exact c5.of 15 rfl (tA rfl) ⟨hR rfl,hR rfl,hW rfl,hW rfl,hW rfl,hW rfl,hW rfl,hW rfl,hW rfl,hW rfl,hW rfl,hW rfl,hR rfl,hR rfl,trivial⟩
 rcases ev61 with⟨v52,x53⟩|⟨⟩
 obtain⟨e63,hx64,hm⟩:=b5 hm
 refine⟨z7 hx64, ?_⟩
 obtain⟨e65,hx66,hm⟩:=b5 hm
 refine⟨_,r7 (fun _=>rfl) hx66,_,N6 (y:=(⟨night,(W ((W (6*(W (x20+1))))+x19)),value,0,0,false⟩:b9)) (fun _=>rfl) hx66, ?_⟩
 cases hm
 exact d0.le (by first|exact leD.refl _|(simp only [a6.c,lD,List.length_set];exact leD.refl _))
 cases hm
 exact d0.le (⟨_,rfl,⟨⟨_,rfl,⟨leD.refl _,leD.refl _,leD.nil,leD.nil,leD.nil,leD.nil,leD.nil,leD.refl _,leD.nil,leD.nil,leD.nil,leD.nil,leD.nil,trivial⟩⟩,leD.refl _,trivial⟩⟩)
def a8T:(Bool×Int×Int×Int×(List a8)×(List b9)×(List a7)×(List b6)×(List b4)×Int×(List a8)×(List b9)×(List a7)×(List b6)×(List b4))→Option (Sum (Bool×Int×Int×Int×(List a8)×(List b9)×(List a7)×(List b6)×(List b4)×Int×(List a8)×(List b9)×(List a7)×(List b6)×(List b4)) (Bool×Int×Int×Int×(List a8)×(List b9)×(List a7)×(List b6)×(List b4)×Int×(List a8)×(List b9)×(List a7)×(List b6)×(List b4))):=fun(ok12,d13,v14,v15,v16,v17,v18,v19,v20,v21,v22,v23,v24,v25,v26)=>
 if(decide (d13≤3))=true then
  Option.bind (N7 (⟨v14,(⟨v15,v16,v17,v18,v19,v20⟩:b7),(⟨v21,v22,v23,v24,v25,v26⟩:b7)⟩:a6) (⟨2,d13,1,4,7,0,0,0,0,0,0⟩:b8)) fun⟨x33,x34⟩=>
  if ok12=true then
   some (.inl ((x34==0),(W (d13+1)),x33.Me,x33.Now.Round,x33.Now.Slots,x33.Now.Bids,x33.Now.Heard,x33.Now.Leases,x33.Now.Loans,x33.Safe.Round,x33.Safe.Slots,x33.Safe.Bids,x33.Safe.Heard,x33.Safe.Leases,x33.Safe.Loans))
  else
   some (.inl (false,(W (d13+1)),x33.Me,x33.Now.Round,x33.Now.Slots,x33.Now.Bids,x33.Now.Heard,x33.Now.Leases,x33.Now.Loans,x33.Safe.Round,x33.Safe.Slots,x33.Safe.Bids,x33.Safe.Heard,x33.Safe.Leases,x33.Safe.Loans))
 else
  some (.inr (ok12,d13,v14,v15,v16,v17,v18,v19,v20,v21,v22,v23,v24,v25,v26))
def a8M:(Int×Int×Int×(List a8)×(List b9)×(List a7)×(List b6)×(List b4)×Int×(List a8)×(List b9)×(List a7)×(List b6)×(List b4))→Option (Sum (Int×Int×Int×(List a8)×(List b9)×(List a7)×(List b6)×(List b4)×Int×(List a8)×(List b9)×(List a7)×(List b6)×(List b4)) (Int×Int×Int×(List a8)×(List b9)×(List a7)×(List b6)×(List b4)×Int×(List a8)×(List b9)×(List a7)×(List b6)×(List b4))):=fun(d64,v65,v66,v67,v68,v69,v70,v71,v72,v73,v74,v75,v76,v77)=>
 if(decide (d64≤3))=true then
  Option.bind (N7 (⟨v65,(⟨v66,v67,v68,v69,v70,v71⟩:b7),(⟨v72,v73,v74,v75,v76,v77⟩:b7)⟩:a6) (⟨2,d64,1,4,7,0,0,0,0,0,0⟩:b8)) fun⟨x83,x84⟩=>
  some (.inl ((W (d64+1)),x83.Me,x83.Now.Round,x83.Now.Slots,x83.Now.Bids,x83.Now.Heard,x83.Now.Leases,x83.Now.Loans,x83.Safe.Round,x83.Safe.Slots,x83.Safe.Bids,x83.Safe.Heard,x83.Safe.Leases,x83.Safe.Loans))
 else
  some (.inr (d64,v65,v66,v67,v68,v69,v70,v71,v72,v73,v74,v75,v76,v77))
def a9M:Option (a6×Bool):=
 Option.bind (a1K 1) fun⟨x1,x2⟩=>
 Option.bind (U6 x1 4 77) fun⟨x4,x5⟩=>
 if(x2==0)=true then
  Option.bind (l8 a8T ((x5==0),1,x4.Me,x4.Now.Round,x4.Now.Slots,x4.Now.Bids,x4.Now.Heard,x4.Now.Leases,x4.Now.Loans,x4.Safe.Round,x4.Safe.Slots,x4.Safe.Bids,x4.Safe.Heard,x4.Safe.Leases,x4.Safe.Loans)) fun(ok37,d38,v39,v40,v41,v42,v43,v44,v45,v46,v47,v48,v49,v50,v51)=>
  some ((⟨v39,(⟨v40,v41,v42,v43,v44,v45⟩:b7),(⟨v46,v47,v48,v49,v50,v51⟩:b7)⟩:a6),ok37)
 else
  Option.bind (l8 a8M (1,x4.Me,x4.Now.Round,x4.Now.Slots,x4.Now.Bids,x4.Now.Heard,x4.Now.Leases,x4.Now.Loans,x4.Safe.Round,x4.Safe.Slots,x4.Safe.Bids,x4.Safe.Heard,x4.Safe.Leases,x4.Safe.Loans)) fun(d86,v87,v88,v89,v90,v91,v92,v93,v94,v95,v96,v97,v98,v99)=>
  some ((⟨v87,(⟨v88,v89,v90,v91,v92,v93⟩:b7),(⟨v94,v95,v96,v97,v98,v99⟩:b7)⟩:a6),false)
theorem b9i (r:(a6×Bool)) (hm:a9M=some r):d7 Tryz.prog 68 [] (fun x=>x= .tup [.agg (a6.c r.1),DB r.2]):=by
 refine zn Tryz.func68 rfl ?_
 refine cy hm (a5G 1) ?_
 rintro⟨x1,x2⟩ hm
 refine cy hm (a4Y x1 4 77) ?_
 rintro⟨x4,x5⟩ hm
 apply vb hm<;>intro _ hm
 obtain⟨ev52,he,hk53⟩:=b5 hm
 refine u4.ofL a8T (fun(ok12,d13,v14,v15,v16,v17,v18,v19,v20,v21,v22,v23,v24,v25,v26)=>⟨[(0, .own 0 0),(1,DB false),(2, .own 1 0),(3,DI x2),(4, .own 2 0),(5,DI x5),(6,DB ok12),(7,DI d13)], [(0, .blk [DI 0,DI 0,nS,nS,nS,nS,nS,DI 0,nS,nS,nS,nS,nS] 30),(1, .blk (a6.c x1) 30),(2, .blk [DI v14,DI v15,lD 4 v16 a8.c,lD 6 v17 b9.c,lD 4 v18 a7.c,lD 5 v19 b6.c,lD 6 v20 b4.c,DI v21,lD 4 v22 a8.c,lD 6 v23 b9.c,lD 4 v24 a7.c,lD 5 v25 b6.c,lD 6 v26 b4.c] 30)],3⟩) ((x5==0),1,x4.Me,x4.Now.Round,x4.Now.Slots,x4.Now.Bids,x4.Now.Heard,x4.Now.Leases,x4.Now.Loans,x4.Safe.Round,x4.Safe.Slots,x4.Safe.Bids,x4.Safe.Heard,x4.Safe.Leases,x4.Safe.Loans) (c5.of 3 rfl (tA rfl) ⟨hR rfl,hR rfl,hR rfl,trivial⟩) he ?_
 rintro fu54 ⟨ok12,d13,v14,v15,v16,v17,v18,v19,v20,v21,v22,v23,v24,v25,v26⟩ b hm hi55
 apply vb hm<;>intro _ hm
 refine cy hm (a2y ((⟨v14,(⟨v15,v16,v17,v18,v19,v20⟩:b7),(⟨v21,v22,v23,v24,v25,v26⟩:b7)⟩:a6)) ((⟨2,d13,1,4,7,0,0,0,0,0,0⟩:b8))) ?_
 rintro⟨x57,x58⟩ hm
 apply vb hm<;>intro _ hm
 cases hm
 exact⟨(_,((x58==0),(W (d13+1)),x57.Me,x57.Now.Round,x57.Now.Slots,x57.Now.Bids,x57.Now.Heard,x57.Now.Leases,x57.Now.Loans,x57.Safe.Round,x57.Safe.Slots,x57.Safe.Bids,x57.Safe.Heard,x57.Safe.Leases,x57.Safe.Loans)),c5.of 3 rfl (tA rfl) ⟨hR rfl,hR rfl,hR rfl,trivial⟩,hi55,Nat.lt_succ_self _⟩
 cases hm
 exact⟨(_,(false,(W (d13+1)),x57.Me,x57.Now.Round,x57.Now.Slots,x57.Now.Bids,x57.Now.Heard,x57.Now.Leases,x57.Now.Loans,x57.Safe.Round,x57.Safe.Slots,x57.Safe.Bids,x57.Safe.Heard,x57.Safe.Leases,x57.Safe.Loans)),c5.of 3 rfl (tA rfl) ⟨hR rfl,hR rfl,hR rfl,trivial⟩,hi55,Nat.lt_succ_self _⟩
 cases hm
 cases hi55
 have hm:=hk53
 cases hm
 exact d0.le (leD.refl _)
 obtain⟨ev100,he,hk101⟩:=b5 hm
 refine u4.ofL a8M (fun(d64,v65,v66,v67,v68,v69,v70,v71,v72,v73,v74,v75,v76,v77)=>⟨[(0, .own 0 0),(1,DB false),(2, .own 1 0),(3,DI x2),(4, .own 2 0),(5,DI x5),(6,DB false),(7,DI d64)], [(0, .blk [DI 0,DI 0,nS,nS,nS,nS,nS,DI 0,nS,nS,nS,nS,nS] 30),(1, .blk (a6.c x1) 30),(2, .blk [DI v65,DI v66,lD 4 v67 a8.c,lD 6 v68 b9.c,lD 4 v69 a7.c,lD 5 v70 b6.c,lD 6 v71 b4.c,DI v72,lD 4 v73 a8.c,lD 6 v74 b9.c,lD 4 v75 a7.c,lD 5 v76 b6.c,lD 6 v77 b4.c] 30)],3⟩) (1,x4.Me,x4.Now.Round,x4.Now.Slots,x4.Now.Bids,x4.Now.Heard,x4.Now.Leases,x4.Now.Loans,x4.Safe.Round,x4.Safe.Slots,x4.Safe.Bids,x4.Safe.Heard,x4.Safe.Leases,x4.Safe.Loans) (c5.of 3 rfl (tA rfl) ⟨hR rfl,hR rfl,hR rfl,trivial⟩) he ?_
 rintro fu102 ⟨d64,v65,v66,v67,v68,v69,v70,v71,v72,v73,v74,v75,v76,v77⟩ b hm hi103
 apply vb hm<;>intro _ hm
 refine cy hm (a2y ((⟨v65,(⟨v66,v67,v68,v69,v70,v71⟩:b7),(⟨v72,v73,v74,v75,v76,v77⟩:b7)⟩:a6)) ((⟨2,d64,1,4,7,0,0,0,0,0,0⟩:b8))) ?_
 rintro⟨x105,x106⟩ hm
 cases hm
 exact⟨(_,((W (d64+1)),x105.Me,x105.Now.Round,x105.Now.Slots,x105.Now.Bids,x105.Now.Heard,x105.Now.Leases,x105.Now.Loans,x105.Safe.Round,x105.Safe.Slots,x105.Safe.Bids,x105.Safe.Heard,x105.Safe.Leases,x105.Safe.Loans)),c5.of 3 rfl (tA rfl) ⟨hR rfl,hR rfl,hR rfl,trivial⟩,hi103,Nat.lt_succ_self _⟩
 cases hm
 cases hi103
 have hm:=hk101
 cases hm
 exact d0.le (leD.refl _)
def a6r (n:Int):Option ByteArray:=gd (0≤n∧n<100) (some (c2D n))
theorem b2h (n:Int) (r:ByteArray) (hm:a6r n=some r):d7 Tryz.prog 170 [DI n] (fun x=>x= .v (.string r)):=by
 obtain⟨hg,hm⟩:=c6 hm
 cases hm
 exact b8r c1i n hg
def a5R (l:(List Int)):(ByteArray×Int)→Option (Sum (ByteArray×Int) (ByteArray×Int)):=fun(word6,v7)=>
 if(decide (v7<(l.length:Int)))=true then
  Option.bind (idx l v7) fun e14=>
  Option.bind (a6r e14) fun x16=>
  gd ((((⟨#[32]⟩:ByteArray).size+x16.size:Nat):Int)≤9223372036854775807)<|
  gd (((word6.size+((⟨#[32]⟩:ByteArray)++x16).size:Nat):Int)≤9223372036854775807)<|
  some (.inl ((word6++((⟨#[32]⟩:ByteArray)++x16)),(W (v7+1))))
 else
  some (.inr (word6,v7))
def X4 (word:ByteArray) (l:(List Int)):Option ByteArray:=
 Option.bind (l8 (a5R l) (word,0)) fun(word18,v19)=>
 gd (((word18.size+(⟨#[10]⟩:ByteArray).size:Nat):Int)≤9223372036854775807)<|
 some (word18++(⟨#[10]⟩:ByteArray))
theorem a0s (word:ByteArray) (l:(List Int)) (r:ByteArray) (hm:X4 word l=some r):d7 Tryz.prog 120 [.v (.string word),lD 1 l cI] (fun x=>x= .v (.string r)):=by
 refine zn Tryz.func120 rfl ?_
 obtain⟨ev20,he,hk21⟩:=b5 hm
 refine u4.ofL (a5R l) (fun(word6,v7)=>⟨[(0, .v (.string word6)),(1,lD 1 l cI),(4, .v (.string (⟨#[]⟩:ByteArray))),(7,lD 1 l cI),(8,DI (l.length:Int)),(9,DI v7)], [],0⟩) (word,0) (c5.of 0 rfl (tA rfl) trivial) he ?_
 rintro fu22 ⟨word6,v7⟩ b hm hi23
 apply vb hm<;>intro _ hm
 obtain⟨e25,hx26,hm⟩:=b5 hm
 refine⟨_,d9 (fun _=>rfl) hx26, ?_⟩
 refine cy hm (b2h e25) fun x27 hm=> ?_
 obtain⟨hg,hm⟩:=c6 hm
 refine⟨hg, ?_⟩
 obtain⟨hg,hm⟩:=c6 hm
 refine⟨hg, ?_⟩
 cases hm
 exact⟨(_,((word6++((⟨#[32]⟩:ByteArray)++x27)),(W (v7+1)))),c5.of 0 rfl (tA rfl) trivial,hi23,Nat.lt_succ_self _⟩
 cases hm
 cases hi23
 have hm:=hk21
 obtain⟨hg,hm⟩:=c6 hm
 refine⟨hg, ?_⟩
 cases hm
 exact d0.le (leD.refl _)
def a5v (is:Bool):Option Int:=
 if is=true then
  some 1
 else
  some 0
theorem a8q (is:Bool) (r:Int) (hm:a5v is=some r):d7 Tryz.prog 121 [DB is] (fun x=>x=DI r):=by
 refine zn Tryz.func121 rfl ?_
 apply vb hm<;>intro _ hm
 exact hm.rr
 exact hm.rr
def a4n (s:b7):(Bool×Int)→Option (Sum (Bool×Int) (Bool×Int)):=fun(some_3,v4)=>
 if(decide (v4<6))=true then
  if some_3=true then
   some (.inl (true,(W (v4+1))))
  else
   Option.bind (O1 v4 s) fun x11=>
   some (.inl (x11,(W (v4+1))))
 else
  some (.inr (some_3,v4))
def a4l (s:b7):(ByteArray×Int)→Option (Sum (ByteArray×Int) (ByteArray×Int)):=fun(out23,v24)=>
 if(decide (v24<(s.Slots.length:Int)))=true then
  Option.bind (idx s.Slots v24) fun e31=>
  Option.bind (X4 (⟨#[115,108,111,116]⟩:ByteArray) ([e31.Night,e31.Promised,e31.Ballot,e31.Value]:List Int)) fun x33=>
  gd (((out23.size+x33.size:Nat):Int)≤9223372036854775807)<|
  some (.inl ((out23++x33),(W (v24+1))))
 else
  some (.inr (out23,v24))
def a4b (s:b7):(ByteArray×Int)→Option (Sum (ByteArray×Int) (ByteArray×Int)):=fun(out44,v45)=>
 if(decide (v45<(s.Bids.length:Int)))=true then
  Option.bind (idx s.Bids v45) fun e54=>
  Option.bind (a5v e54.Asked) fun x56=>
  Option.bind (X4 (⟨#[98,105,100]⟩:ByteArray) ([e54.Night,e54.Ballot,e54.Value,e54.Best,e54.Mask,x56]:List Int)) fun x58=>
  gd (((out44.size+x58.size:Nat):Int)≤9223372036854775807)<|
  some (.inl ((out44++x58),(W (v45+1))))
 else
  some (.inr (out44,v45))
def a4m (s:b7):(ByteArray×Int)→Option (Sum (ByteArray×Int) (ByteArray×Int)):=fun(out67,v68)=>
 if(decide (v68<(s.Heard.length:Int)))=true then
  Option.bind (idx s.Heard v68) fun e75=>
  Option.bind (X4 (⟨#[104,101,97,114,100]⟩:ByteArray) ([e75.Night,e75.Ballot,e75.Value,e75.Mask]:List Int)) fun x77=>
  gd (((out67.size+x77.size:Nat):Int)≤9223372036854775807)<|
  some (.inl ((out67++x77),(W (v68+1))))
 else
  some (.inr (out67,v68))
def a4p (s:b7):(ByteArray×Int)→Option (Sum (ByteArray×Int) (ByteArray×Int)):=fun(out86,v87)=>
 if(decide (v87<(s.Leases.length:Int)))=true then
  Option.bind (idx s.Leases v87) fun e94=>
  Option.bind (X4 (⟨#[108,101,97,115,101]⟩:ByteArray) ([e94.No,e94.Thing,e94.To,e94.From,e94.Until]:List Int)) fun x96=>
  gd (((out86.size+x96.size:Nat):Int)≤9223372036854775807)<|
  some (.inl ((out86++x96),(W (v87+1))))
 else
  some (.inr (out86,v87))
def a4r (s:b7):(ByteArray×Int)→Option (Sum (ByteArray×Int) (ByteArray×Int)):=fun(out107,v108)=>
 if(decide (v108<(s.Loans.length:Int)))=true then
  Option.bind (idx s.Loans v108) fun e117=>
  Option.bind (a5v e117.Back) fun x119=>
  Option.bind (X4 (⟨#[108,111,97,110]⟩:ByteArray) ([e117.Owner,e117.No,e117.Thing,e117.From,e117.Until,x119]:List Int)) fun x121=>
  gd (((out107.size+x121.size:Nat):Int)≤9223372036854775807)<|
  some (.inl ((out107++x121),(W (v108+1))))
 else
  some (.inr (out107,v108))
def a1M (s:b7):Option (ByteArray×Int):=
 Option.bind (l8 (a4n s) (false,0)) fun(some_13,v14)=>
 if(!some_13)=true then
  some ((⟨#[]⟩:ByteArray),90)
 else
  Option.bind (X4 (⟨#[114,111,117,110,100]⟩:ByteArray) ([s.Round]:List Int)) fun x16=>
  Option.bind (l8 (a4l s) (x16,0)) fun(out35,v36)=>
  Option.bind (l8 (a4b s) (out35,0)) fun(out60,v61)=>
  Option.bind (l8 (a4m s) (out60,0)) fun(out79,v80)=>
  Option.bind (l8 (a4p s) (out79,0)) fun(out98,v99)=>
  Option.bind (l8 (a4r s) (out98,0)) fun(out123,v124)=>
  some (out123,0)
theorem a6s (s:b7) (r:(ByteArray×Int)) (hm:a1M s=some r):d7 Tryz.prog 69 [.agg (b7.c s)] (fun x=>x= .tup [.v (.string r.1),DI r.2]):=by
 refine zy c5M [] [] [] Tryz.func69 rfl ?_
 obtain⟨ev1030,he,hk1031⟩:=b5 hm
 refine u4.ofL (a4n s) (fun(some_3,v4)=>⟨[(0, .agg (b7.c s)),(1, .own 0 0),(2, .v (.string (⟨#[]⟩:ByteArray))),(3,DI 0),(4,DB some_3),(17,DI v4)], [(0, .blk (b7.c s) 28)],1⟩) (false,0) (c5.of 1 rfl (tA rfl) ⟨hR rfl,trivial⟩) he ?_
 rintro fu1032 ⟨some_3,v4⟩ b hm hi1033
 apply vb hm<;>intro _ hm
 apply vb hm<;>intro _ hm
 cases hm
 exact⟨(_,(true,(W (v4+1)))),c5.of 1 rfl (tA rfl) ⟨hR rfl,trivial⟩,hi1033,Nat.lt_succ_self _⟩
 refine cy hm (a2c v4 s) fun x1036 hm=> ?_
 cases hm
 exact⟨(_,(x1036,(W (v4+1)))),c5.of 1 rfl (tA rfl) ⟨hR rfl,trivial⟩,hi1033,Nat.lt_succ_self _⟩
 cases hm
 cases hi1033
 have hm:=hk1031
 apply vb hm<;>intro _ hm
 cases hm
 exact d0.le (leD.refl _)
 refine⟨([s.Round]:List Int).flatMap cI,([s.Round]:List Int).length,⟨rfl,rfl⟩, ?_⟩
 refine co hm (a0s ((⟨#[114,111,117,110,100]⟩:ByteArray)) (([s.Round]:List Int))) fun x1039 hm=> ?_
 obtain⟨ev1552,he,hk1553⟩:=b5 hm
 refine u4.ofL (a4l s) (fun(out1046,v1047)=>⟨[(0, .agg (b7.c s)),(1, .own 0 0),(2, .v (.string (⟨#[]⟩:ByteArray))),(3,DI 0),(4,DB some_3),(6, .v (.string out1046)),(17,DI v4),(18,DB (decide (v4<6))),(28,DB (!some_3)),(34,lD 4 s.Slots a8.c),(35,DI (s.Slots.length:Int)),(36,DI v1047)], [(0, .blk (b7.c s) 28),(1,rE 1 ([s.Round]:List Int) cI 3)],2⟩) (x1039,0) (c5.of 2 rfl (tA rfl) ⟨hR rfl,hW rfl,trivial⟩) he ?_
 rintro fu1554 ⟨out1046,v1047⟩ b hm hi1555
 apply vb hm<;>intro _ hm
 obtain⟨e1557,hx1558,hm⟩:=b5 hm
 refine⟨_,d9 (fun _=>rfl) hx1558, ?_⟩
 refine⟨([e1557.Night,e1557.Promised,e1557.Ballot,e1557.Value]:List Int).flatMap cI,([e1557.Night,e1557.Promised,e1557.Ballot,e1557.Value]:List Int).length,⟨rfl,rfl⟩, ?_⟩
 refine co hm (a0s ((⟨#[115,108,111,116]⟩:ByteArray)) (([e1557.Night,e1557.Promised,e1557.Ballot,e1557.Value]:List Int))) fun x1559 hm=> ?_
 obtain⟨hg,hm⟩:=c6 hm
 refine⟨hg, ?_⟩
 cases hm
 exact⟨(_,((out1046++x1559),(W (v1047+1)))),c5.of 2 rfl (tA rfl) ⟨hR rfl,hW rfl,trivial⟩,hi1555,Nat.lt_succ_self _⟩
 cases hm
 cases hi1555
 have hm:=hk1553
 obtain⟨ev1814,he,hk1815⟩:=b5 hm
 refine u4.ofL (a4b s) (fun(out1568,v1569)=>⟨[(0, .agg (b7.c s)),(1, .own 0 0),(2, .v (.string (⟨#[]⟩:ByteArray))),(3,DI 0),(4,DB some_3),(6, .v (.string out1568)),(17,DI v4),(18,DB (decide (v4<6))),(28,DB (!some_3)),(34,lD 4 s.Slots a8.c),(35,DI (s.Slots.length:Int)),(36,DI v1047),(37,DB (decide (v1047<(s.Slots.length:Int)))),(54,lD 6 s.Bids b9.c),(55,DI (s.Bids.length:Int)),(56,DI v1569)], [(0, .blk (b7.c s) 28),(1,rE 1 ([s.Round]:List Int) cI 3)],2⟩) (out1046,0) (c5.of 2 rfl (tA rfl) ⟨hR rfl,hW rfl,trivial⟩) he ?_
 rintro fu1816 ⟨out1568,v1569⟩ b hm hi1817
 apply vb hm<;>intro _ hm
 obtain⟨e1819,hx1820,hm⟩:=b5 hm
 refine⟨_,d9 (fun _=>rfl) hx1820, ?_⟩
 refine⟨rfl, ?_⟩
 refine cy hm (a8q e1819.Asked) fun x1821 hm=> ?_
 refine⟨([e1819.Night,e1819.Ballot,e1819.Value,e1819.Best,e1819.Mask,x1821]:List Int).flatMap cI,([e1819.Night,e1819.Ballot,e1819.Value,e1819.Best,e1819.Mask,x1821]:List Int).length,⟨rfl,rfl⟩, ?_⟩
 refine co hm (a0s ((⟨#[98,105,100]⟩:ByteArray)) (([e1819.Night,e1819.Ballot,e1819.Value,e1819.Best,e1819.Mask,x1821]:List Int))) fun x1823 hm=> ?_
 obtain⟨hg,hm⟩:=c6 hm
 refine⟨hg, ?_⟩
 cases hm
 exact⟨(_,((out1568++x1823),(W (v1569+1)))),c5.of 2 rfl (tA rfl) ⟨hR rfl,hW rfl,trivial⟩,hi1817,Nat.lt_succ_self _⟩
 cases hm
 cases hi1817
 have hm:=hk1815
 obtain⟨ev1944,he,hk1945⟩:=b5 hm
 refine u4.ofL (a4m s) (fun(out1830,v1831)=>⟨[(0, .agg (b7.c s)),(1, .own 0 0),(2, .v (.string (⟨#[]⟩:ByteArray))),(3,DI 0),(4,DB some_3),(6, .v (.string out1830)),(17,DI v4),(18,DB (decide (v4<6))),(28,DB (!some_3)),(34,lD 4 s.Slots a8.c),(35,DI (s.Slots.length:Int)),(36,DI v1047),(37,DB (decide (v1047<(s.Slots.length:Int)))),(54,lD 6 s.Bids b9.c),(55,DI (s.Bids.length:Int)),(56,DI v1569),(57,DB (decide (v1569<(s.Bids.length:Int)))),(79,lD 4 s.Heard a7.c),(80,DI (s.Heard.length:Int)),(81,DI v1831)], [(0, .blk (b7.c s) 28),(1,rE 1 ([s.Round]:List Int) cI 3)],2⟩) (out1568,0) (c5.of 2 rfl (tA rfl) ⟨hR rfl,hW rfl,trivial⟩) he ?_
 rintro fu1946 ⟨out1830,v1831⟩ b hm hi1947
 apply vb hm<;>intro _ hm
 obtain⟨e1949,hx1950,hm⟩:=b5 hm
 refine⟨_,d9 (fun _=>rfl) hx1950, ?_⟩
 refine⟨([e1949.Night,e1949.Ballot,e1949.Value,e1949.Mask]:List Int).flatMap cI,([e1949.Night,e1949.Ballot,e1949.Value,e1949.Mask]:List Int).length,⟨rfl,rfl⟩, ?_⟩
 refine co hm (a0s ((⟨#[104,101,97,114,100]⟩:ByteArray)) (([e1949.Night,e1949.Ballot,e1949.Value,e1949.Mask]:List Int))) fun x1951 hm=> ?_
 obtain⟨hg,hm⟩:=c6 hm
 refine⟨hg, ?_⟩
 cases hm
 exact⟨(_,((out1830++x1951),(W (v1831+1)))),c5.of 2 rfl (tA rfl) ⟨hR rfl,hW rfl,trivial⟩,hi1947,Nat.lt_succ_self _⟩
 cases hm
 cases hi1947
 have hm:=hk1945
 obtain⟨ev2008,he,hk2009⟩:=b5 hm
 refine u4.ofL (a4p s) (fun(out1958,v1959)=>⟨[(0, .agg (b7.c s)),(1, .own 0 0),(2, .v (.string (⟨#[]⟩:ByteArray))),(3,DI 0),(4,DB some_3),(6, .v (.string out1958)),(17,DI v4),(18,DB (decide (v4<6))),(28,DB (!some_3)),(34,lD 4 s.Slots a8.c),(35,DI (s.Slots.length:Int)),(36,DI v1047),(37,DB (decide (v1047<(s.Slots.length:Int)))),(54,lD 6 s.Bids b9.c),(55,DI (s.Bids.length:Int)),(56,DI v1569),(57,DB (decide (v1569<(s.Bids.length:Int)))),(79,lD 4 s.Heard a7.c),(80,DI (s.Heard.length:Int)),(81,DI v1831),(82,DB (decide (v1831<(s.Heard.length:Int)))),(99,lD 5 s.Leases b6.c),(100,DI (s.Leases.length:Int)),(101,DI v1959)], [(0, .blk (b7.c s) 28),(1,rE 1 ([s.Round]:List Int) cI 3)],2⟩) (out1830,0) (c5.of 2 rfl (tA rfl) ⟨hR rfl,hW rfl,trivial⟩) he ?_
 rintro fu2010 ⟨out1958,v1959⟩ b hm hi2011
 apply vb hm<;>intro _ hm
 obtain⟨e2013,hx2014,hm⟩:=b5 hm
 refine⟨_,d9 (fun _=>rfl) hx2014, ?_⟩
 refine⟨([e2013.No,e2013.Thing,e2013.To,e2013.From,e2013.Until]:List Int).flatMap cI,([e2013.No,e2013.Thing,e2013.To,e2013.From,e2013.Until]:List Int).length,⟨rfl,rfl⟩, ?_⟩
 refine co hm (a0s ((⟨#[108,101,97,115,101]⟩:ByteArray)) (([e2013.No,e2013.Thing,e2013.To,e2013.From,e2013.Until]:List Int))) fun x2015 hm=> ?_
 obtain⟨hg,hm⟩:=c6 hm
 refine⟨hg, ?_⟩
 cases hm
 exact⟨(_,((out1958++x2015),(W (v1959+1)))),c5.of 2 rfl (tA rfl) ⟨hR rfl,hW rfl,trivial⟩,hi2011,Nat.lt_succ_self _⟩
 cases hm
 cases hi2011
 have hm:=hk2009
 obtain⟨ev2042,he,hk2043⟩:=b5 hm
 refine u4.ofL (a4r s) (fun(out2024,v2025)=>⟨[(0, .agg (b7.c s)),(1, .own 0 0),(2, .v (.string (⟨#[]⟩:ByteArray))),(3,DI 0),(4,DB some_3),(6, .v (.string out2024)),(17,DI v4),(18,DB (decide (v4<6))),(28,DB (!some_3)),(34,lD 4 s.Slots a8.c),(35,DI (s.Slots.length:Int)),(36,DI v1047),(37,DB (decide (v1047<(s.Slots.length:Int)))),(54,lD 6 s.Bids b9.c),(55,DI (s.Bids.length:Int)),(56,DI v1569),(57,DB (decide (v1569<(s.Bids.length:Int)))),(79,lD 4 s.Heard a7.c),(80,DI (s.Heard.length:Int)),(81,DI v1831),(82,DB (decide (v1831<(s.Heard.length:Int)))),(99,lD 5 s.Leases b6.c),(100,DI (s.Leases.length:Int)),(101,DI v1959),(102,DB (decide (v1959<(s.Leases.length:Int)))),(121,lD 6 s.Loans b4.c),(122,DI (s.Loans.length:Int)),(123,DI v2025)], [(0, .blk (b7.c s) 28),(1,rE 1 ([s.Round]:List Int) cI 3)],2⟩) (out1958,0) (c5.of 2 rfl (tA rfl) ⟨hR rfl,hW rfl,trivial⟩) he ?_
 rintro fu2044 ⟨out2024,v2025⟩ b hm hi2045
 apply vb hm<;>intro _ hm
 obtain⟨e2047,hx2048,hm⟩:=b5 hm
 refine⟨_,d9 (fun _=>rfl) hx2048, ?_⟩
 refine⟨rfl, ?_⟩
 refine cy hm (a8q e2047.Back) fun x2049 hm=> ?_
 refine⟨([e2047.Owner,e2047.No,e2047.Thing,e2047.From,e2047.Until,x2049]:List Int).flatMap cI,([e2047.Owner,e2047.No,e2047.Thing,e2047.From,e2047.Until,x2049]:List Int).length,⟨rfl,rfl⟩, ?_⟩
 refine co hm (a0s ((⟨#[108,111,97,110]⟩:ByteArray)) (([e2047.Owner,e2047.No,e2047.Thing,e2047.From,e2047.Until,x2049]:List Int))) fun x2051 hm=> ?_
 obtain⟨hg,hm⟩:=c6 hm
 refine⟨hg, ?_⟩
 cases hm
 exact⟨(_,((out2024++x2051),(W (v2025+1)))),c5.of 2 rfl (tA rfl) ⟨hR rfl,hW rfl,trivial⟩,hi2045,Nat.lt_succ_self _⟩
 cases hm
 cases hi2045
 have hm:=hk2043
 cases hm
 exact d0.le (leD.refl _)
def a5t:Option Bool:=
 Option.bind (a9M) fun⟨x1,x2⟩=>
 Option.bind (N7 x1 (⟨2,5,1,4,7,0,0,0,0,0,0⟩:b8)) fun⟨x4,x5⟩=>
 Option.bind (a3K x4) fun⟨x7,x8⟩=>
 Option.bind (a3A x7 2) fun⟨x10,x11⟩=>
 if(!x2)=true then
  some false
 else
  if(x5 !=0)=true then
   some false
  else
   if(x8 !=0)=true then
    some false
   else
    if(x11 !=0)=true then
     some false
    else
     if((x1.Now.Bids.length:Int) !=1)=true then
      some false
     else
      if((x4.Now.Bids.length:Int) !=1)=true then
       some false
      else
       Option.bind (idx x1.Now.Bids 0) fun e19=>
       if((e19.Night==4)&&((e19.Ballot==7)&&((e19.Value==77)&&((e19.Best==0)&&((e19.Mask==14)&&(e19.Asked==false))))))=true then
        Option.bind (idx x4.Now.Bids 0) fun e22=>
        Option.bind (a0N x10 ([(⟨3,1,2,4,7,0,77,0,0,0,0⟩:b8)]:List b8)) fun x24=>
        Option.bind (a1K 2) fun⟨x26,x27⟩=>
        Option.bind (J6 x26 8 0 100 200) fun⟨x29,x30⟩=>
        Option.bind (V7 x29 8 150) fun⟨x32,x33⟩=>
        Option.bind (V7 x29 8 200) fun⟨x35,x36⟩=>
        Option.bind (J6 x29 8 1 150 250) fun⟨x38,x39⟩=>
        Option.bind (a0B x29 8 150 250) fun⟨x41,x42⟩=>
        Option.bind (a1M x1.Now) fun⟨x44,x45⟩=>
        if(x27==0)=true then
         if(x30==0)=true then
          if(x33==0)=true then
           if(x36==0)=true then
            if(x39==93)=true then
             if(x42==0)=true then
              if((e22.Night==4)&&((e22.Ballot==7)&&((e22.Value==77)&&((e22.Best==0)&&((e22.Mask==46)&&(e22.Asked==true))))))=true then
               if x24=true then
                if(x45==0)=true then
                 if(!x32)=true then
                  if x35=true then
                   if(x41==200)=true then
                    some (x44.toList==(⟨#[114,111,117,110,100,32,49,10,98,105,100,32,52,32,55,32,55,55,32,48,32,49,52,32,48,10]⟩:ByteArray).toList)
                   else
                    some false
                  else
                   some false
                 else
                  some false
                else
                 some false
               else
                some false
              else
               some false
             else
              if((e22.Night==4)&&((e22.Ballot==7)&&((e22.Value==77)&&((e22.Best==0)&&((e22.Mask==46)&&(e22.Asked==true))))))=true then
               if x24=true then
                some false
               else
                some false
              else
               some false
            else
             if((e22.Night==4)&&((e22.Ballot==7)&&((e22.Value==77)&&((e22.Best==0)&&((e22.Mask==46)&&(e22.Asked==true))))))=true then
              if x24=true then
               some false
              else
               some false
             else
              some false
           else
            if((e22.Night==4)&&((e22.Ballot==7)&&((e22.Value==77)&&((e22.Best==0)&&((e22.Mask==46)&&(e22.Asked==true))))))=true then
             if x24=true then
              some false
             else
              some false
            else
             some false
          else
           if((e22.Night==4)&&((e22.Ballot==7)&&((e22.Value==77)&&((e22.Best==0)&&((e22.Mask==46)&&(e22.Asked==true))))))=true then
            if x24=true then
             some false
            else
             some false
           else
            some false
         else
          if((e22.Night==4)&&((e22.Ballot==7)&&((e22.Value==77)&&((e22.Best==0)&&((e22.Mask==46)&&(e22.Asked==true))))))=true then
           if x24=true then
            some false
           else
            some false
          else
           some false
        else
         if((e22.Night==4)&&((e22.Ballot==7)&&((e22.Value==77)&&((e22.Best==0)&&((e22.Mask==46)&&(e22.Asked==true))))))=true then
          if x24=true then
           some false
          else
           some false
         else
          some false
       else
        Option.bind (a0N x10 ([(⟨3,1,2,4,7,0,77,0,0,0,0⟩:b8)]:List b8)) fun x71=>
        Option.bind (a1K 2) fun⟨x73,x74⟩=>
        Option.bind (J6 x73 8 0 100 200) fun⟨x76,x77⟩=>
        Option.bind (V7 x76 8 150) fun⟨x79,x80⟩=>
        Option.bind (V7 x76 8 200) fun⟨x82,x83⟩=>
        Option.bind (J6 x76 8 1 150 250) fun⟨x85,x86⟩=>
        Option.bind (a0B x76 8 150 250) fun⟨x88,x89⟩=>
        Option.bind (a1M x1.Now) fun⟨x91,x92⟩=>
        if(x74==0)=true then
         if(x77==0)=true then
          if(x80==0)=true then
           if(x83==0)=true then
            if(x86==93)=true then
             if(x89==0)=true then
              some false
             else
              some false
            else
             some false
           else
            some false
          else
           some false
         else
          some false
        else
         some false
theorem b6p (r:Bool) (hm:a5t=some r):d7 Tryz.prog 20 [] (fun x=>x=DB r):=by
 refine zn Tryz.func20 rfl ?_
 refine cy hm (b9i) ?_
 rintro⟨x1,x2⟩ hm
 refine cy hm (a2y x1 ((⟨2,5,1,4,7,0,0,0,0,0,0⟩:b8))) ?_
 rintro⟨x4,x5⟩ hm
 refine cy hm (b1R x4) ?_
 rintro⟨x7,x8⟩ hm
 refine cy hm (b1K x7 2) ?_
 rintro⟨x10,x11⟩ hm
 apply vb hm<;>intro _ hm
 exact hm.rr
 apply vb hm<;>intro _ hm
 exact hm.rr
 apply vb hm<;>intro _ hm
 exact hm.rr
 apply vb hm<;>intro _ hm
 exact hm.rr
 apply vb hm<;>intro _ hm
 exact hm.rr
 apply vb hm<;>intro _ hm
 exact hm.rr
 obtain⟨e19,hx20,hm⟩:=b5 hm
 refine⟨_,d9 (fun _=>rfl) hx20, ?_⟩
 apply vb hm<;>intro _ hm
 obtain⟨e22,hx23,hm⟩:=b5 hm
 refine⟨_,d9 (fun _=>rfl) hx23, ?_⟩
 refine⟨([(⟨3,1,2,4,7,0,77,0,0,0,0⟩:b8)]:List b8).flatMap b8.c,([(⟨3,1,2,4,7,0,77,0,0,0,0⟩:b8)]:List b8).length,⟨rfl,rfl⟩, ?_⟩
 refine co hm (a5U x10 (([(⟨3,1,2,4,7,0,77,0,0,0,0⟩:b8)]:List b8))) fun x24 hm=> ?_
 refine cy hm (a5G 2) ?_
 rintro⟨x26,x27⟩ hm
 refine cy hm (a0z x26 8 0 100 200) ?_
 rintro⟨x29,x30⟩ hm
 refine cy hm (a3g x29 8 150) ?_
 rintro⟨x32,x33⟩ hm
 refine cy hm (a3g x29 8 200) ?_
 rintro⟨x35,x36⟩ hm
 refine cy hm (a0z x29 8 1 150 250) ?_
 rintro⟨x38,x39⟩ hm
 refine cy hm (a7y x29 8 150 250) ?_
 rintro⟨x41,x42⟩ hm
 refine cy hm (a6s x1.Now) ?_
 rintro⟨x44,x45⟩ hm
 apply vb hm<;>intro _ hm
 apply vb hm<;>intro _ hm
 apply vb hm<;>intro _ hm
 apply vb hm<;>intro _ hm
 apply vb hm<;>intro _ hm
 apply vb hm<;>intro _ hm
 apply vb hm<;>intro _ hm
 apply vb hm<;>intro _ hm
 apply vb hm<;>intro _ hm
 apply vb hm<;>intro _ hm
 apply vb hm<;>intro _ hm
 apply vb hm<;>intro _ hm
 exact hm.rr
 exact hm.rr
 exact hm.rr
 exact hm.rr
 exact hm.rr
 exact hm.rr
 exact hm.rr
 apply vb hm<;>intro _ hm
 apply vb hm<;>intro _ hm
 exact hm.rr
 exact hm.rr
 exact hm.rr
 apply vb hm<;>intro _ hm
 apply vb hm<;>intro _ hm
 exact hm.rr
 exact hm.rr
 exact hm.rr
 apply vb hm<;>intro _ hm
 apply vb hm<;>intro _ hm
 exact hm.rr
 exact hm.rr
 exact hm.rr
 apply vb hm<;>intro _ hm
 apply vb hm<;>intro _ hm
 exact hm.rr
 exact hm.rr
 exact hm.rr
 apply vb hm<;>intro _ hm
 apply vb hm<;>intro _ hm
 exact hm.rr
 exact hm.rr
 exact hm.rr
 apply vb hm<;>intro _ hm
 apply vb hm<;>intro _ hm
 exact hm.rr
 exact hm.rr
 exact hm.rr
 refine⟨([(⟨3,1,2,4,7,0,77,0,0,0,0⟩:b8)]:List b8).flatMap b8.c,([(⟨3,1,2,4,7,0,77,0,0,0,0⟩:b8)]:List b8).length,⟨rfl,rfl⟩, ?_⟩
 refine co hm (a5U x10 (([(⟨3,1,2,4,7,0,77,0,0,0,0⟩:b8)]:List b8))) fun x71 hm=> ?_
 refine cy hm (a5G 2) ?_
 rintro⟨x73,x74⟩ hm
 refine cy hm (a0z x73 8 0 100 200) ?_
 rintro⟨x76,x77⟩ hm
 refine cy hm (a3g x76 8 150) ?_
 rintro⟨x79,x80⟩ hm
 refine cy hm (a3g x76 8 200) ?_
 rintro⟨x82,x83⟩ hm
 refine cy hm (a0z x76 8 1 150 250) ?_
 rintro⟨x85,x86⟩ hm
 refine cy hm (a7y x76 8 150 250) ?_
 rintro⟨x88,x89⟩ hm
 refine cy hm (a6s x1.Now) ?_
 rintro⟨x91,x92⟩ hm
 apply vb hm<;>intro _ hm
 apply vb hm<;>intro _ hm
 apply vb hm<;>intro _ hm
 apply vb hm<;>intro _ hm
 apply vb hm<;>intro _ hm
 apply vb hm<;>intro _ hm
 exact hm.rr
 exact hm.rr
 exact hm.rr
 exact hm.rr
 exact hm.rr
 exact hm.rr
 exact hm.rr
def a7U (c:b8):Option b8:=
 if(c.Kind==1)=true then
  if(c.Kind==2)=true then
   if(c.Kind !=1)=true then
    some (⟨c.Kind,c.From,c.To,c.Night,c.Ballot,c.Best,c.Value,0,0,0,0⟩:b8)
   else
    some (⟨c.Kind,c.From,c.To,c.Night,c.Ballot,c.Best,0,0,0,0,0⟩:b8)
  else
   if(c.Kind !=1)=true then
    some (⟨c.Kind,c.From,c.To,c.Night,c.Ballot,0,c.Value,0,0,0,0⟩:b8)
   else
    some (⟨c.Kind,c.From,c.To,c.Night,c.Ballot,0,0,0,0,0,0⟩:b8)
 else
  if(c.Kind==2)=true then
   if(c.Kind !=1)=true then
    some (⟨c.Kind,c.From,c.To,c.Night,c.Ballot,c.Best,c.Value,0,0,0,0⟩:b8)
   else
    some (⟨c.Kind,c.From,c.To,c.Night,c.Ballot,c.Best,0,0,0,0,0⟩:b8)
  else
   if(c.Kind==3)=true then
    if(c.Kind !=1)=true then
     some (⟨c.Kind,c.From,c.To,c.Night,c.Ballot,0,c.Value,0,0,0,0⟩:b8)
    else
     some (⟨c.Kind,c.From,c.To,c.Night,c.Ballot,0,0,0,0,0,0⟩:b8)
   else
    if(c.Kind==4)=true then
     if(c.Kind !=1)=true then
      some (⟨c.Kind,c.From,c.To,c.Night,c.Ballot,0,c.Value,0,0,0,0⟩:b8)
     else
      some (⟨c.Kind,c.From,c.To,c.Night,c.Ballot,0,0,0,0,0,0⟩:b8)
    else
     if(c.Kind==5)=true then
      some (⟨c.Kind,c.From,c.To,0,0,0,0,c.No,c.Thing,c.Start,c.Until⟩:b8)
     else
      if(c.Kind==6)=true then
       some (⟨c.Kind,c.From,c.To,0,0,0,0,c.No,c.Thing,0,c.Until⟩:b8)
      else
       some (⟨c.Kind,c.From,c.To,0,0,0,0,0,0,0,0⟩:b8)
theorem b6P (c:b8) (r:b8) (hm:a7U c=some r):d7 Tryz.prog 81 [.agg (b8.c c)] (fun x=>x= .agg (b8.c r)):=by
 refine zn Tryz.func81 rfl ?_
 apply vb hm<;>intro h1 hm
 refine VIf.t h1 ?_
 apply vb hm<;>intro _ hm
 apply vb hm<;>intro _ hm
 cases hm
 exact d0.le (leD.refl _)
 cases hm
 exact d0.le (leD.refl _)
 apply vb hm<;>intro _ hm
 cases hm
 exact d0.le (leD.refl _)
 cases hm
 exact d0.le (leD.refl _)
 apply vb hm<;>intro h5 hm
 refine VIf.t h5 ?_
 refine VIf.t h5 ?_
 apply vb hm<;>intro _ hm
 cases hm
 exact d0.le (leD.refl _)
 cases hm
 exact d0.le (leD.refl _)
 apply vb hm<;>intro h7 hm
 refine VIf.t h7 ?_
 refine VIf.f h5 ?_
 apply vb hm<;>intro _ hm
 cases hm
 exact d0.le (leD.refl _)
 cases hm
 exact d0.le (leD.refl _)
 apply vb hm<;>intro _ hm
 refine VIf.f h5 ?_
 apply vb hm<;>intro _ hm
 cases hm
 exact d0.le (leD.refl _)
 cases hm
 exact d0.le (leD.refl _)
 apply vb hm<;>intro _ hm
 cases hm
 exact d0.le (leD.refl _)
 apply vb hm<;>intro _ hm
 cases hm
 exact d0.le (leD.refl _)
 cases hm
 exact d0.le (leD.refl _)
def a0O (c:b8):Option Int:=
 Option.bind (A6 c.Kind 1 6) fun x1=>
 if(!x1)=true then
  some 91
 else
  Option.bind (L1 c.From) fun x4=>
  if(!x4)=true then
   some 91
  else
   Option.bind (L1 c.To) fun x7=>
   if(!x7)=true then
    some 91
   else
    Option.bind (a7U c) fun x10=>
    if(!((c.Kind==x10.Kind)&&((c.From==x10.From)&&((c.To==x10.To)&&((c.Night==x10.Night)&&((c.Ballot==x10.Ballot)&&((c.Best==x10.Best)&&((c.Value==x10.Value)&&((c.No==x10.No)&&((c.Thing==x10.Thing)&&((c.Start==x10.Start)&&(c.Until==x10.Until))))))))))))=true then
     some 91
    else
     if(decide (c.Kind≤4))=true then
      Option.bind (S2 c.Night) fun x14=>
      if x14=true then
       Option.bind (U3 c.Ballot) fun x17=>
       if(!x17)=true then
        some 91
       else
        Option.bind (a2e c.Ballot 6) fun x20=>
        if(c.Kind==1)=true then
         if(!(x20==c.From))=true then
          some 91
         else
          some 0
        else
         if(c.Kind==2)=true then
          if(c.Best==0)=true then
           if(x20==c.To)=true then
            if(c.Value==0)=true then
             some 0
            else
             Option.bind (A6 c.Best 6 (W (c.Ballot-1))) fun x28=>
             if x28=true then
              Option.bind (s7 c.Value) fun x31=>
              if(!x31)=true then
               some 91
              else
               some 0
             else
              some 91
           else
            some 91
          else
           if(x20==c.To)=true then
            Option.bind (A6 c.Best 6 (W (c.Ballot-1))) fun x35=>
            if x35=true then
             Option.bind (s7 c.Value) fun x38=>
             if(!x38)=true then
              some 91
             else
              some 0
            else
             some 91
           else
            some 91
         else
          if(c.Kind==3)=true then
           if(x20==c.From)=true then
            Option.bind (s7 c.Value) fun x43=>
            if(!x43)=true then
             some 91
            else
             some 0
           else
            some 91
          else
           if(c.Kind==4)=true then
            Option.bind (s7 c.Value) fun x47=>
            if(!x47)=true then
             some 91
            else
             some 0
           else
            if(c.Kind==5)=true then
             if((c.Thing.tmod 6)==c.From)=true then
              Option.bind (D8 c.Start) fun x52=>
              if x52=true then
               if(!(decide (c.Start≤c.Until)))=true then
                some 91
               else
                some 0
              else
               some 91
             else
              some 91
            else
             if(c.Kind==6)=true then
              if(!((c.Thing.tmod 6)==c.To))=true then
               some 91
              else
               some 0
             else
              some 0
      else
       some 91
     else
      if(c.From !=c.To)=true then
       Option.bind (A6 c.No 1 40) fun x59=>
       if x59=true then
        Option.bind (Y6 c.Thing) fun x62=>
        if x62=true then
         Option.bind (D8 c.Until) fun x65=>
         if(!x65)=true then
          some 91
         else
          Option.bind (a2e c.Ballot 6) fun x68=>
          if(c.Kind==1)=true then
           if(!(x68==c.From))=true then
            some 91
           else
            some 0
          else
           if(c.Kind==2)=true then
            if(c.Best==0)=true then
             if(x68==c.To)=true then
              if(c.Value==0)=true then
               some 0
              else
               Option.bind (A6 c.Best 6 (W (c.Ballot-1))) fun x76=>
               if x76=true then
                Option.bind (s7 c.Value) fun x79=>
                if(!x79)=true then
                 some 91
                else
                 some 0
               else
                some 91
             else
              some 91
            else
             if(x68==c.To)=true then
              Option.bind (A6 c.Best 6 (W (c.Ballot-1))) fun x83=>
              if x83=true then
               Option.bind (s7 c.Value) fun x86=>
               if(!x86)=true then
                some 91
               else
                some 0
              else
               some 91
             else
              some 91
           else
            if(c.Kind==3)=true then
             if(x68==c.From)=true then
              Option.bind (s7 c.Value) fun x91=>
              if(!x91)=true then
               some 91
              else
               some 0
             else
              some 91
            else
             if(c.Kind==4)=true then
              Option.bind (s7 c.Value) fun x95=>
              if(!x95)=true then
               some 91
              else
               some 0
             else
              if(c.Kind==5)=true then
               if((c.Thing.tmod 6)==c.From)=true then
                Option.bind (D8 c.Start) fun x100=>
                if x100=true then
                 if(!(decide (c.Start≤c.Until)))=true then
                  some 91
                 else
                  some 0
                else
                 some 91
               else
                some 91
              else
               if(c.Kind==6)=true then
                if(!((c.Thing.tmod 6)==c.To))=true then
                 some 91
                else
                 some 0
               else
                some 0
        else
         some 91
       else
        some 91
      else
       some 91
theorem b0x (c:b8) (r:Int) (hm:a0O c=some r):d7 Tryz.prog 30 [.agg (b8.c c)] (fun x=>x=DI r):=by
 refine zy c6g [] [] [] Tryz.func30 rfl ?_
 refine⟨rfl, ?_⟩
 refine cy hm (G0 c.Kind 1 6) fun x1 hm=> ?_
 apply vb hm<;>intro _ hm
 exact hm.rr
 refine cy hm (R6 c.From) fun x4 hm=> ?_
 apply vb hm<;>intro _ hm
 exact hm.rr
 refine cy hm (R6 c.To) fun x7 hm=> ?_
 apply vb hm<;>intro _ hm
 exact hm.rr
 refine cy hm (b6P c) fun x10 hm=> ?_
 apply vb hm<;>intro _ hm
 exact hm.rr
 apply vb hm<;>intro _ hm
 refine cy hm (a0C c.Night) fun x14 hm=> ?_
 apply vb hm<;>intro _ hm
 refine cy hm (a1D c.Ballot) fun x17 hm=> ?_
 apply vb hm<;>intro h19 hm
 exact hm.rr
 refine cy hm (a6Q c.Ballot 6) fun x20 hm=> ?_
 apply vb hm<;>intro _ hm
 apply vb hm<;>intro _ hm
 exact hm.rr
 exact hm.rr
 apply vb hm<;>intro _ hm
 apply vb hm<;>intro _ hm
 apply vb hm<;>intro _ hm
 apply vb hm<;>intro _ hm
 exact hm.rr
 refine cy hm (G0 c.Best 6 (W (c.Ballot-1))) fun x28 hm=> ?_
 apply vb hm<;>intro _ hm
 refine cy hm (v8 c.Value) fun x31 hm=> ?_
 apply vb hm<;>intro _ hm
 exact hm.rr
 exact hm.rr
 exact hm.rr
 exact hm.rr
 apply vb hm<;>intro _ hm
 refine cy hm (G0 c.Best 6 (W (c.Ballot-1))) fun x35 hm=> ?_
 apply vb hm<;>intro _ hm
 refine cy hm (v8 c.Value) fun x38 hm=> ?_
 apply vb hm<;>intro _ hm
 exact hm.rr
 exact hm.rr
 exact hm.rr
 exact hm.rr
 apply vb hm<;>intro _ hm
 apply vb hm<;>intro _ hm
 refine cy hm (v8 c.Value) fun x43 hm=> ?_
 apply vb hm<;>intro _ hm
 exact hm.rr
 exact hm.rr
 exact hm.rr
 apply vb hm<;>intro _ hm
 refine cy hm (v8 c.Value) fun x47 hm=> ?_
 apply vb hm<;>intro _ hm
 exact hm.rr
 exact hm.rr
 apply vb hm<;>intro _ hm
 refine⟨by decide, ?_⟩
 apply vb hm<;>intro _ hm
 refine cy hm (I1 c.Start) fun x52 hm=> ?_
 apply vb hm<;>intro _ hm
 apply vb hm<;>intro _ hm
 exact hm.rr
 exact hm.rr
 exact hm.rr
 exact hm.rr
 apply vb hm<;>intro _ hm
 refine⟨by decide, ?_⟩
 apply vb hm<;>intro _ hm
 exact hm.rr
 exact hm.rr
 refine VIf.f h19 ?_
 exact hm.rr
 exact hm.rr
 apply vb hm<;>intro _ hm
 refine cy hm (G0 c.No 1 40) fun x59 hm=> ?_
 apply vb hm<;>intro _ hm
 refine cy hm (a2x c.Thing) fun x62 hm=> ?_
 apply vb hm<;>intro _ hm
 refine cy hm (I1 c.Until) fun x65 hm=> ?_
 apply vb hm<;>intro h67 hm
 exact hm.rr
 refine cy hm (a6Q c.Ballot 6) fun x68 hm=> ?_
 apply vb hm<;>intro _ hm
 apply vb hm<;>intro _ hm
 exact hm.rr
 exact hm.rr
 apply vb hm<;>intro _ hm
 apply vb hm<;>intro _ hm
 apply vb hm<;>intro _ hm
 apply vb hm<;>intro _ hm
 exact hm.rr
 refine cy hm (G0 c.Best 6 (W (c.Ballot-1))) fun x76 hm=> ?_
 apply vb hm<;>intro _ hm
 refine cy hm (v8 c.Value) fun x79 hm=> ?_
 apply vb hm<;>intro _ hm
 exact hm.rr
 exact hm.rr
 exact hm.rr
 exact hm.rr
 apply vb hm<;>intro _ hm
 refine cy hm (G0 c.Best 6 (W (c.Ballot-1))) fun x83 hm=> ?_
 apply vb hm<;>intro _ hm
 refine cy hm (v8 c.Value) fun x86 hm=> ?_
 apply vb hm<;>intro _ hm
 exact hm.rr
 exact hm.rr
 exact hm.rr
 exact hm.rr
 apply vb hm<;>intro _ hm
 apply vb hm<;>intro _ hm
 refine cy hm (v8 c.Value) fun x91 hm=> ?_
 apply vb hm<;>intro _ hm
 exact hm.rr
 exact hm.rr
 exact hm.rr
 apply vb hm<;>intro _ hm
 refine cy hm (v8 c.Value) fun x95 hm=> ?_
 apply vb hm<;>intro _ hm
 exact hm.rr
 exact hm.rr
 apply vb hm<;>intro _ hm
 refine⟨by decide, ?_⟩
 apply vb hm<;>intro _ hm
 refine cy hm (I1 c.Start) fun x100 hm=> ?_
 apply vb hm<;>intro _ hm
 apply vb hm<;>intro _ hm
 exact hm.rr
 exact hm.rr
 exact hm.rr
 exact hm.rr
 apply vb hm<;>intro _ hm
 refine⟨by decide, ?_⟩
 apply vb hm<;>intro _ hm
 exact hm.rr
 exact hm.rr
 refine VIf.f h67 ?_
 exact hm.rr
 exact hm.rr
 exact hm.rr
 exact hm.rr
def N9 (x:a6):Option a6:=
 Option.bind (a0q x.Now) fun x1=>
 Option.bind (a0q x.Safe) fun x3=>
 some (⟨x.Me,x1,x3⟩:a6)
theorem b2J (x:a6) (r:a6) (hm:N9 x=some r):d7 Tryz.prog 90 [.agg (a6.c x)] (fun x=>x= .agg (a6.c r)):=by
 refine zy c4K [] [] [] Tryz.func90 rfl ?_
 refine⟨rfl, ?_⟩
 obtain⟨x1,hx2,hm⟩:=b5 hm
 refine a3v.det (a9i x.Now _ hx2) ?_
 obtain⟨x3,hx4,hm⟩:=b5 hm
 refine a3v.det (a9i x.Safe _ hx4) ?_
 cases hm
 exact d0.le (leD.refl _)
theorem a3u (x:a6) (r:a6) (hm:N9 x=some r):b3g Tryz.prog 90 [.agg (a6.c x)] [(4,r.Now.Slots.length,r.Now.Slots.flatMap a8.c,110),(6,r.Now.Bids.length,r.Now.Bids.flatMap b9.c,108),(4,r.Now.Heard.length,r.Now.Heard.flatMap a7.c,149),(5,r.Now.Leases.length,r.Now.Leases.flatMap b6.c,112),(6,r.Now.Loans.length,r.Now.Loans.flatMap b4.c,114),(4,r.Safe.Slots.length,r.Safe.Slots.flatMap a8.c,110),(6,r.Safe.Bids.length,r.Safe.Bids.flatMap b9.c,108),(4,r.Safe.Heard.length,r.Safe.Heard.flatMap a7.c,149),(5,r.Safe.Leases.length,r.Safe.Leases.flatMap b6.c,112),(6,r.Safe.Loans.length,r.Safe.Loans.flatMap b4.c,114)] [DI r.Me,DI r.Now.Round, .row 0 4, .row 1 6, .row 2 4, .row 3 5, .row 4 6,DI r.Safe.Round, .row 5 4, .row 6 6, .row 7 4, .row 8 5, .row 9 6]:=by
 refine b4O (X:=⟨Tryz.prog,tt,Tryz.f90.ntmps,c4K, [99,106,149,210,211,220], [63], [], [], []⟩) pok _ Tryz.func90 rfl rfl (Nat.le_of_ble_eq_true rfl) rfl ?_
 refine⟨rfl, ?_⟩
 obtain⟨x1,hx2,hm⟩:=b5 hm
 refine .inr (a3F.mk ⟨_,_,a7j x.Now _ hx2, ?_⟩)
 obtain⟨x3,hx4,hm⟩:=b5 hm
 refine .inr (a3F.mk ⟨_,_,a7j x.Safe _ hx4, ?_⟩)
 cases hm
 exact⟨rfl,⟨⟨rfl,rfl⟩,⟨⟨rfl,rfl⟩,⟨⟨rfl,rfl,rfl,rfl⟩,⟨⟨rfl,rfl,rfl,rfl⟩,⟨⟨rfl,rfl,rfl,rfl⟩,⟨⟨rfl,rfl,rfl,rfl⟩,⟨⟨rfl,rfl,rfl,rfl⟩,⟨⟨rfl,rfl⟩,⟨⟨rfl,rfl,rfl,rfl⟩,⟨⟨rfl,rfl,rfl,rfl⟩,⟨⟨rfl,rfl,rfl,rfl⟩,⟨⟨rfl,rfl,rfl,rfl⟩,⟨⟨rfl,rfl,rfl,rfl⟩,rfl⟩⟩⟩⟩⟩⟩⟩⟩⟩⟩⟩⟩⟩⟩
def G8 (x:a6) (night:Int) (value:Int) (x10:a6):(Bool×Int×(List b9)×(List b9)×(List b9))→Option (Sum (Bool×Int×(List b9)×(List b9)×(List b9)) (Bool×Int×(List b9)×(List b9)×(List b9))):=fun(done26,i27,v28,v29,v30)=>
 if(decide (i27<(x.Now.Bids.length:Int)))=true then
  if(!done26)=true then
   Option.bind (idx x.Now.Bids i27) fun e53=>
   if(decide (e53.Night≥night))=true then
    gd ((v30.length+([(⟨night,(W ((W (6*(W (x10.Now.Round+1))))+x.Me)),value,0,0,false⟩:b9)]:List b9).length)*48≤140737488355328∧v30.length+([(⟨night,(W ((W (6*(W (x10.Now.Round+1))))+x.Me)),value,0,0,false⟩:b9)]:List b9).length≤9223372036854775807)<|
    Option.bind (idx x.Now.Bids i27) fun e56=>
    if(e56.Night !=night)=true then
     Option.bind (idx x.Now.Bids i27) fun e59=>
     gd (((v30++([(⟨night,(W ((W (6*(W (x10.Now.Round+1))))+x.Me)),value,0,0,false⟩:b9)]:List b9)).length+([e59]:List b9).length)*48≤140737488355328∧(v30++([(⟨night,(W ((W (6*(W (x10.Now.Round+1))))+x.Me)),value,0,0,false⟩:b9)]:List b9)).length+([e59]:List b9).length≤9223372036854775807)<|
     some (.inl (true,(W (i27+1)),v28,v29,((v30++([(⟨night,(W ((W (6*(W (x10.Now.Round+1))))+x.Me)),value,0,0,false⟩:b9)]:List b9))++([e59]:List b9))))
    else
     some (.inl (true,(W (i27+1)),v28,v29,(v30++([(⟨night,(W ((W (6*(W (x10.Now.Round+1))))+x.Me)),value,0,0,false⟩:b9)]:List b9))))
   else
    Option.bind (idx x.Now.Bids i27) fun e61=>
    if(e61.Night !=night)=true then
     Option.bind (idx x.Now.Bids i27) fun e64=>
     gd ((v30.length+([e64]:List b9).length)*48≤140737488355328∧v30.length+([e64]:List b9).length≤9223372036854775807)<|
     some (.inl (done26,(W (i27+1)),v28,v29,(v30++([e64]:List b9))))
    else
     some (.inl (done26,(W (i27+1)),v28,v29,v30))
  else
   Option.bind (idx x.Now.Bids i27) fun e66=>
   if(e66.Night !=night)=true then
    Option.bind (idx x.Now.Bids i27) fun e69=>
    gd ((v30.length+([e69]:List b9).length)*48≤140737488355328∧v30.length+([e69]:List b9).length≤9223372036854775807)<|
    some (.inl (done26,(W (i27+1)),v28,v29,(v30++([e69]:List b9))))
   else
    some (.inl (done26,(W (i27+1)),v28,v29,v30))
 else
  some (.inr (done26,i27,v28,v29,v30))
def a2B (x:a6) (night:Int) (value:Int):Option (a6×Int):=
 Option.bind (a0a x) fun x1=>
 if(x1 !=0)=true then
  some ((⟨0,(⟨0, [], [], [], [], []⟩:b7),(⟨0, [], [], [], [], []⟩:b7)⟩:a6),90)
 else
  Option.bind (S2 night) fun x4=>
  if(!x4)=true then
   some ((⟨0,(⟨0, [], [], [], [], []⟩:b7),(⟨0, [], [], [], [], []⟩:b7)⟩:a6),6)
  else
   Option.bind (s7 value) fun x7=>
   if(!x7)=true then
    some ((⟨0,(⟨0, [], [], [], [], []⟩:b7),(⟨0, [], [], [], [], []⟩:b7)⟩:a6),1)
   else
    Option.bind (N9 x) fun x10=>
    Option.bind (l8 (G8 x night value x10) (false,0, [], [], [])) fun(done71,i72,v73,v74,v75)=>
    if(!done71)=true then
     gd ((v75.length+([(⟨night,(W ((W (6*(W (x10.Now.Round+1))))+x.Me)),value,0,0,false⟩:b9)]:List b9).length)*48≤140737488355328∧v75.length+([(⟨night,(W ((W (6*(W (x10.Now.Round+1))))+x.Me)),value,0,0,false⟩:b9)]:List b9).length≤9223372036854775807)<|
     if(decide ((W (x10.Now.Round+1))>9999))=true then
      some ((⟨0,(⟨0, [], [], [], [], []⟩:b7),(⟨0, [], [], [], [], []⟩:b7)⟩:a6),2)
     else
      if(decide (((v75++([(⟨night,(W ((W (6*(W (x10.Now.Round+1))))+x.Me)),value,0,0,false⟩:b9)]:List b9)).length:Int)>12))=true then
       some ((⟨0,(⟨0, [], [], [], [], []⟩:b7),(⟨0, [], [], [], [], []⟩:b7)⟩:a6),2)
      else
       some ((⟨x10.Me,(⟨(W (x10.Now.Round+1)),x10.Now.Slots,(v75++([(⟨night,(W ((W (6*(W (x10.Now.Round+1))))+x.Me)),value,0,0,false⟩:b9)]:List b9)),x10.Now.Heard,x10.Now.Leases,x10.Now.Loans⟩:b7),x10.Safe⟩:a6),0)
    else
     if(decide ((W (x10.Now.Round+1))>9999))=true then
      some ((⟨0,(⟨0, [], [], [], [], []⟩:b7),(⟨0, [], [], [], [], []⟩:b7)⟩:a6),2)
     else
      if(decide ((v75.length:Int)>12))=true then
       some ((⟨0,(⟨0, [], [], [], [], []⟩:b7),(⟨0, [], [], [], [], []⟩:b7)⟩:a6),2)
      else
       some ((⟨x10.Me,(⟨(W (x10.Now.Round+1)),x10.Now.Slots,v75,x10.Now.Heard,x10.Now.Leases,x10.Now.Loans⟩:b7),x10.Safe⟩:a6),0)
theorem b2F (x:a6) (night:Int) (value:Int) (r:(a6×Int)) (hm:a2B x night value=some r):d7 Tryz.prog 32 [.agg (a6.c x),DI night,DI value] (fun x=>x= .tup [.agg (a6.c r.1),DI r.2]):=by
 refine zy c5J [] [] [] Tryz.func32 rfl ?_
 refine cy hm (a4o x) fun x1 hm=> ?_
 apply vb hm<;>intro _ hm
 cases hm
 exact d0.le (⟨_,rfl,⟨⟨_,rfl,⟨leD.refl _,leD.refl _,leD.nil,leD.nil,leD.nil,leD.nil,leD.nil,leD.refl _,leD.nil,leD.nil,leD.nil,leD.nil,leD.nil,trivial⟩⟩,leD.refl _,trivial⟩⟩)
 refine cy hm (a0C night) fun x4 hm=> ?_
 apply vb hm<;>intro _ hm
 cases hm
 exact d0.le (⟨_,rfl,⟨⟨_,rfl,⟨leD.refl _,leD.refl _,leD.nil,leD.nil,leD.nil,leD.nil,leD.nil,leD.refl _,leD.nil,leD.nil,leD.nil,leD.nil,leD.nil,trivial⟩⟩,leD.refl _,trivial⟩⟩)
 refine cy hm (v8 value) fun x7 hm=> ?_
 apply vb hm<;>intro _ hm
 cases hm
 exact d0.le (⟨_,rfl,⟨⟨_,rfl,⟨leD.refl _,leD.refl _,leD.nil,leD.nil,leD.nil,leD.nil,leD.nil,leD.refl _,leD.nil,leD.nil,leD.nil,leD.nil,leD.nil,trivial⟩⟩,leD.refl _,trivial⟩⟩)
 refine cy hm (b2J x) fun x10 hm=> ?_
 obtain⟨ev81,he,hk82⟩:=b5 hm
 refine u4.ofL (G8 x night value x10) (fun(done26,i27,v28,v29,v30)=>⟨[(0, .agg (a6.c x)),(1,DI night),(2,DI value),(3, .own 0 0),(6, .own 1 0),(7,DI 0),(8, .own 2 0),(9, .own 3 0),(10,DB done26),(11,DI i27),(14,DB (x1 !=0)),(18,DB (!x4)),(22,DB (!x7))], [(0, .blk (a6.c x) 30),(1, .blk [DI 0,DI 0,nS,nS,nS,nS,nS,DI 0,nS,nS,nS,nS,nS] 30),(2, .blk [DI x10.Me,DI (W (x10.Now.Round+1)),lD 4 x10.Now.Slots a8.c, .row 6 6,lD 4 x10.Now.Heard a7.c,lD 5 x10.Now.Leases b6.c,lD 6 x10.Now.Loans b4.c,DI x10.Safe.Round,lD 4 x10.Safe.Slots a8.c,lD 6 x10.Safe.Bids b9.c,lD 4 x10.Safe.Heard a7.c,lD 5 x10.Safe.Leases b6.c,lD 6 x10.Safe.Loans b4.c] 30),(3, .blk [DI night,DI (W ((W (6*(W (x10.Now.Round+1))))+x.Me)),DI value,DI 0,DI 0,DB false] 108),(4,rE 6 v28 b9.c 108),(5,rE 6 v29 b9.c 108),(6,rE 6 v30 b9.c 108)],7⟩) (false,0, [], [], []) (c5.of 4 rfl (tA rfl) ⟨hR rfl,hR rfl,hR rfl,hR rfl,⟨rfl,rfl⟩,⟨rfl,rfl⟩,⟨rfl,rfl⟩,trivial⟩) he ?_
 rintro fu83 ⟨done26,i27,v28,v29,v30⟩ b hm hi84
 apply vb hm<;>intro _ hm
 apply vb hm<;>intro _ hm
 obtain⟨e87,hx88,hm⟩:=b5 hm
 refine⟨_,d9 (fun _=>rfl) hx88, ?_⟩
 apply vb hm<;>intro _ hm
 refine⟨([(⟨night,(W ((W (6*(W (x10.Now.Round+1))))+x.Me)),value,0,0,false⟩:b9)]:List b9).flatMap b9.c,([(⟨night,(W ((W (6*(W (x10.Now.Round+1))))+x.Me)),value,0,0,false⟩:b9)]:List b9).length,⟨rfl,rfl⟩, ?_⟩
 obtain⟨hg,hm⟩:=c6 hm
 refine⟨hg,_,_,c9 (c:=b9.c) (l:=(v30:List b9)) (r:=(([(⟨night,(W ((W (6*(W (x10.Now.Round+1))))+x.Me)),value,0,0,false⟩:b9)]:List b9):List b9)), ?_⟩
 obtain⟨e90,hx91,hm⟩:=b5 hm
 refine⟨_,d9 (fun _=>rfl) hx91, ?_⟩
 apply vb hm<;>intro _ hm
 refine⟨rfl, ?_⟩
 obtain⟨e93,hx94,hm⟩:=b5 hm
 refine⟨_,d9 (fun _=>rfl) hx94, ?_⟩
 refine⟨([e93]:List b9).flatMap b9.c,([e93]:List b9).length,⟨rfl,rfl⟩, ?_⟩
 obtain⟨hg,hm⟩:=c6 hm
 refine⟨hg,_,_,c9 (c:=b9.c) (l:=((v30++([(⟨night,(W ((W (6*(W (x10.Now.Round+1))))+x.Me)),value,0,0,false⟩:b9)]:List b9)):List b9)) (r:=(([e93]:List b9):List b9)), ?_⟩
 cases hm
 exact⟨(_,(true,(W (i27+1)),v28,v29,((v30++([(⟨night,(W ((W (6*(W (x10.Now.Round+1))))+x.Me)),value,0,0,false⟩:b9)]:List b9))++([e93]:List b9)))),c5.of 7 rfl (tA rfl) ⟨hR rfl,hR rfl,hR rfl,hR rfl,hW rfl,hW rfl,hW rfl,trivial⟩,hi84,Nat.lt_succ_self _⟩
 cases hm
 exact⟨(_,(true,(W (i27+1)),v28,v29,(v30++([(⟨night,(W ((W (6*(W (x10.Now.Round+1))))+x.Me)),value,0,0,false⟩:b9)]:List b9)))),c5.of 7 rfl (tA rfl) ⟨hR rfl,hR rfl,hR rfl,hR rfl,hW rfl,hW rfl,hW rfl,trivial⟩,hi84,Nat.lt_succ_self _⟩
 obtain⟨e95,hx96,hm⟩:=b5 hm
 refine⟨_,d9 (fun _=>rfl) hx96, ?_⟩
 apply vb hm<;>intro _ hm
 refine⟨rfl, ?_⟩
 obtain⟨e98,hx99,hm⟩:=b5 hm
 refine⟨_,d9 (fun _=>rfl) hx99, ?_⟩
 refine⟨([e98]:List b9).flatMap b9.c,([e98]:List b9).length,⟨rfl,rfl⟩, ?_⟩
 obtain⟨hg,hm⟩:=c6 hm
 refine⟨hg,_,_,c9 (c:=b9.c) (l:=(v30:List b9)) (r:=(([e98]:List b9):List b9)), ?_⟩
 cases hm
 exact⟨(_,(done26,(W (i27+1)),v28,v29,(v30++([e98]:List b9)))),c5.of 7 rfl (tA rfl) ⟨hR rfl,hR rfl,hR rfl,hR rfl,hW rfl,hW rfl,hW rfl,trivial⟩,hi84,Nat.lt_succ_self _⟩
 cases hm
 exact⟨(_,(done26,(W (i27+1)),v28,v29,v30)),c5.of 7 rfl (tA rfl) ⟨hR rfl,hR rfl,hR rfl,hR rfl,hW rfl,hW rfl,hW rfl,trivial⟩,hi84,Nat.lt_succ_self _⟩
 obtain⟨e100,hx101,hm⟩:=b5 hm
 refine⟨_,d9 (fun _=>rfl) hx101, ?_⟩
 apply vb hm<;>intro _ hm
 refine⟨rfl, ?_⟩
 obtain⟨e103,hx104,hm⟩:=b5 hm
 refine⟨_,d9 (fun _=>rfl) hx104, ?_⟩
 refine⟨([e103]:List b9).flatMap b9.c,([e103]:List b9).length,⟨rfl,rfl⟩, ?_⟩
 obtain⟨hg,hm⟩:=c6 hm
 refine⟨hg,_,_,c9 (c:=b9.c) (l:=(v30:List b9)) (r:=(([e103]:List b9):List b9)), ?_⟩
 cases hm
 exact⟨(_,(done26,(W (i27+1)),v28,v29,(v30++([e103]:List b9)))),c5.of 7 rfl (tA rfl) ⟨hR rfl,hR rfl,hR rfl,hR rfl,hW rfl,hW rfl,hW rfl,trivial⟩,hi84,Nat.lt_succ_self _⟩
 cases hm
 exact⟨(_,(done26,(W (i27+1)),v28,v29,v30)),c5.of 7 rfl (tA rfl) ⟨hR rfl,hR rfl,hR rfl,hR rfl,hW rfl,hW rfl,hW rfl,trivial⟩,hi84,Nat.lt_succ_self _⟩
 cases hm
 cases hi84
 have hm:=hk82
 apply vb hm<;>intro _ hm
 refine⟨([(⟨night,(W ((W (6*(W (x10.Now.Round+1))))+x.Me)),value,0,0,false⟩:b9)]:List b9).flatMap b9.c,([(⟨night,(W ((W (6*(W (x10.Now.Round+1))))+x.Me)),value,0,0,false⟩:b9)]:List b9).length,⟨rfl,rfl⟩, ?_⟩
 obtain⟨hg,hm⟩:=c6 hm
 refine⟨hg,_,_,c9 (c:=b9.c) (l:=(v30:List b9)) (r:=(([(⟨night,(W ((W (6*(W (x10.Now.Round+1))))+x.Me)),value,0,0,false⟩:b9)]:List b9):List b9)), ?_⟩
 apply vb hm<;>intro _ hm
 cases hm
 exact d0.le (⟨_,rfl,⟨⟨_,rfl,⟨leD.refl _,leD.refl _,leD.nil,leD.nil,leD.nil,leD.nil,leD.nil,leD.refl _,leD.nil,leD.nil,leD.nil,leD.nil,leD.nil,trivial⟩⟩,leD.refl _,trivial⟩⟩)
 apply vb hm<;>intro _ hm
 cases hm
 exact d0.le (⟨_,rfl,⟨⟨_,rfl,⟨leD.refl _,leD.refl _,leD.nil,leD.nil,leD.nil,leD.nil,leD.nil,leD.refl _,leD.nil,leD.nil,leD.nil,leD.nil,leD.nil,trivial⟩⟩,leD.refl _,trivial⟩⟩)
 cases hm
 exact d0.le (leD.refl _)
 apply vb hm<;>intro _ hm
 cases hm
 exact d0.le (⟨_,rfl,⟨⟨_,rfl,⟨leD.refl _,leD.refl _,leD.nil,leD.nil,leD.nil,leD.nil,leD.nil,leD.refl _,leD.nil,leD.nil,leD.nil,leD.nil,leD.nil,trivial⟩⟩,leD.refl _,trivial⟩⟩)
 apply vb hm<;>intro _ hm
 cases hm
 exact d0.le (⟨_,rfl,⟨⟨_,rfl,⟨leD.refl _,leD.refl _,leD.nil,leD.nil,leD.nil,leD.nil,leD.nil,leD.refl _,leD.nil,leD.nil,leD.nil,leD.nil,leD.nil,trivial⟩⟩,leD.refl _,trivial⟩⟩)
 cases hm
 exact d0.le (leD.refl _)
def R7 (x:a6) (d:a2X):Int→Option (Sum Int (Sum Int (a6×Int))):=fun i25=>
 if(decide (i25<(x.Now.Leases.length:Int)))=true then
  Option.bind (idx x.Now.Leases i25) fun e33=>
  Option.bind (a3V e33 (⟨(W ((x.Now.Leases.length:Int)+1)),d.Thing,d.To,d.From,d.Until⟩:b6)) fun x35=>
  if x35=true then
   some (.inr (.inr ((⟨0,(⟨0, [], [], [], [], []⟩:b7),(⟨0, [], [], [], [], []⟩:b7)⟩:a6),93)))
  else
   some (.inl (W (i25+1)))
 else
  some (.inr (.inl i25))
def a5z (x:a6) (d:a2X):Option (a6×Int):=
 Option.bind (a0a x) fun x1=>
 if(x1 !=0)=true then
  some ((⟨0,(⟨0, [], [], [], [], []⟩:b7),(⟨0, [], [], [], [], []⟩:b7)⟩:a6),90)
 else
  Option.bind (Y6 d.Thing) fun x4=>
  if(!x4)=true then
   some ((⟨0,(⟨0, [], [], [], [], []⟩:b7),(⟨0, [], [], [], [], []⟩:b7)⟩:a6),1)
  else
   Option.bind (L1 d.To) fun x7=>
   if(!x7)=true then
    some ((⟨0,(⟨0, [], [], [], [], []⟩:b7),(⟨0, [], [], [], [], []⟩:b7)⟩:a6),1)
   else
    Option.bind (D8 d.From) fun x10=>
    if(!x10)=true then
     some ((⟨0,(⟨0, [], [], [], [], []⟩:b7),(⟨0, [], [], [], [], []⟩:b7)⟩:a6),95)
    else
     Option.bind (D8 d.Until) fun x13=>
     if(!x13)=true then
      some ((⟨0,(⟨0, [], [], [], [], []⟩:b7),(⟨0, [], [], [], [], []⟩:b7)⟩:a6),95)
     else
      if((d.Thing.tmod 6) !=x.Me)=true then
       some ((⟨0,(⟨0, [], [], [], [], []⟩:b7),(⟨0, [], [], [], [], []⟩:b7)⟩:a6),92)
      else
       if(d.To==x.Me)=true then
        some ((⟨0,(⟨0, [], [], [], [], []⟩:b7),(⟨0, [], [], [], [], []⟩:b7)⟩:a6),1)
       else
        if(decide (d.From>d.Until))=true then
         some ((⟨0,(⟨0, [], [], [], [], []⟩:b7),(⟨0, [], [], [], [], []⟩:b7)⟩:a6),95)
        else
         Option.bind (l8 (R7 x d) 0) fun e=>
         match e with
         | .inl i38=>
          if((x.Now.Leases.length:Int)==40)=true then
           some ((⟨0,(⟨0, [], [], [], [], []⟩:b7),(⟨0, [], [], [], [], []⟩:b7)⟩:a6),2)
          else
           Option.bind (N9 x) fun x40=>
           gd ((x40.Now.Leases.length+([(⟨(W ((x.Now.Leases.length:Int)+1)),d.Thing,d.To,d.From,d.Until⟩:b6)]:List b6).length)*40≤140737488355328∧x40.Now.Leases.length+([(⟨(W ((x.Now.Leases.length:Int)+1)),d.Thing,d.To,d.From,d.Until⟩:b6)]:List b6).length≤9223372036854775807)<|
           some ((⟨x40.Me,(⟨x40.Now.Round,x40.Now.Slots,x40.Now.Bids,x40.Now.Heard,(x40.Now.Leases++([(⟨(W ((x.Now.Leases.length:Int)+1)),d.Thing,d.To,d.From,d.Until⟩:b6)]:List b6)),x40.Now.Loans⟩:b7),x40.Safe⟩:a6),0)
         | .inr rr42=>
          some rr42
theorem b7v (x:a6) (d:a2X) (r:(a6×Int)) (hm:a5z x d=some r):d7 Tryz.prog 34 [.agg (a6.c x), .agg (a2X.c d)] (fun x=>x= .tup [.agg (a6.c r.1),DI r.2]):=by
 refine zy c5G [99,106,149,210,211,220] [90] [] Tryz.func34 rfl ?_
 refine cy hm (a4o x) fun x1 hm=> ?_
 apply vb hm<;>intro _ hm
 cases hm
 exact d0.le (⟨_,rfl,⟨⟨_,rfl,⟨leD.refl _,leD.refl _,leD.nil,leD.nil,leD.nil,leD.nil,leD.nil,leD.refl _,leD.nil,leD.nil,leD.nil,leD.nil,leD.nil,trivial⟩⟩,leD.refl _,trivial⟩⟩)
 refine cy hm (a2x d.Thing) fun x4 hm=> ?_
 apply vb hm<;>intro _ hm
 cases hm
 exact d0.le (⟨_,rfl,⟨⟨_,rfl,⟨leD.refl _,leD.refl _,leD.nil,leD.nil,leD.nil,leD.nil,leD.nil,leD.refl _,leD.nil,leD.nil,leD.nil,leD.nil,leD.nil,trivial⟩⟩,leD.refl _,trivial⟩⟩)
 refine cy hm (R6 d.To) fun x7 hm=> ?_
 apply vb hm<;>intro _ hm
 cases hm
 exact d0.le (⟨_,rfl,⟨⟨_,rfl,⟨leD.refl _,leD.refl _,leD.nil,leD.nil,leD.nil,leD.nil,leD.nil,leD.refl _,leD.nil,leD.nil,leD.nil,leD.nil,leD.nil,trivial⟩⟩,leD.refl _,trivial⟩⟩)
 refine cy hm (I1 d.From) fun x10 hm=> ?_
 apply vb hm<;>intro _ hm
 cases hm
 exact d0.le (⟨_,rfl,⟨⟨_,rfl,⟨leD.refl _,leD.refl _,leD.nil,leD.nil,leD.nil,leD.nil,leD.nil,leD.refl _,leD.nil,leD.nil,leD.nil,leD.nil,leD.nil,trivial⟩⟩,leD.refl _,trivial⟩⟩)
 refine cy hm (I1 d.Until) fun x13 hm=> ?_
 apply vb hm<;>intro _ hm
 cases hm
 exact d0.le (⟨_,rfl,⟨⟨_,rfl,⟨leD.refl _,leD.refl _,leD.nil,leD.nil,leD.nil,leD.nil,leD.nil,leD.refl _,leD.nil,leD.nil,leD.nil,leD.nil,leD.nil,trivial⟩⟩,leD.refl _,trivial⟩⟩)
 refine⟨by decide, ?_⟩
 apply vb hm<;>intro _ hm
 cases hm
 exact d0.le (⟨_,rfl,⟨⟨_,rfl,⟨leD.refl _,leD.refl _,leD.nil,leD.nil,leD.nil,leD.nil,leD.nil,leD.refl _,leD.nil,leD.nil,leD.nil,leD.nil,leD.nil,trivial⟩⟩,leD.refl _,trivial⟩⟩)
 apply vb hm<;>intro _ hm
 cases hm
 exact d0.le (⟨_,rfl,⟨⟨_,rfl,⟨leD.refl _,leD.refl _,leD.nil,leD.nil,leD.nil,leD.nil,leD.nil,leD.refl _,leD.nil,leD.nil,leD.nil,leD.nil,leD.nil,trivial⟩⟩,leD.refl _,trivial⟩⟩)
 apply vb hm<;>intro _ hm
 cases hm
 exact d0.le (⟨_,rfl,⟨⟨_,rfl,⟨leD.refl _,leD.refl _,leD.nil,leD.nil,leD.nil,leD.nil,leD.nil,leD.refl _,leD.nil,leD.nil,leD.nil,leD.nil,leD.nil,trivial⟩⟩,leD.refl _,trivial⟩⟩)
 obtain⟨ev43,he,hk44⟩:=b5 hm
 refine u4.ofL (R7 x d) (fun i25=>⟨[(0, .agg (a6.c x)),(1, .agg (a2X.c d)),(2, .own 0 0),(3, .own 1 0),(4, .own 2 0),(5,DI 0),(6, .own 3 0),(7,DI i25),(11,DB (x1 !=0)),(22,DB (!x7)),(33,DB (!x13)),(40,DB ((d.Thing.tmod 6) !=x.Me)),(46,DB (d.To==x.Me)),(52,DB (decide (d.From>d.Until)))], [(0, .blk (a6.c x) 30),(1, .blk (a2X.c d) 51),(2, .blk [DI 0,DI 0,nS,nS,nS,nS,nS,DI 0,nS,nS,nS,nS,nS] 30),(3, .blk [DI (W ((x.Now.Leases.length:Int)+1)),DI d.Thing,DI d.To,DI d.From,DI d.Until] 112)],4⟩) 0 (c5.of 4 rfl (tA rfl) ⟨hR rfl,hR rfl,hR rfl,hR rfl,trivial⟩) he ?_
 rintro fu45 i25 b hm hi46
 apply vb hm<;>intro _ hm
 refine⟨rfl, ?_⟩
 obtain⟨e48,hx49,hm⟩:=b5 hm
 refine⟨_,d9 (fun _=>rfl) hx49, ?_⟩
 refine cy hm (b0X e48 ((⟨(W ((x.Now.Leases.length:Int)+1)),d.Thing,d.To,d.From,d.Until⟩:b6))) fun x50 hm=> ?_
 apply vb hm<;>intro _ hm
 cases hm
 cases hi46
 have hm:=hk44
 cases hm
 exact d0.le (⟨_,rfl,⟨⟨_,rfl,⟨leD.refl _,leD.refl _,leD.nil,leD.nil,leD.nil,leD.nil,leD.nil,leD.refl _,leD.nil,leD.nil,leD.nil,leD.nil,leD.nil,trivial⟩⟩,leD.refl _,trivial⟩⟩)
 cases hm
 exact⟨(_,(W (i25+1))),c5.of 4 rfl (tA rfl) ⟨hR rfl,hR rfl,hR rfl,hR rfl,trivial⟩,hi46,Nat.lt_succ_self _⟩
 cases hm
 cases hi46
 have hm:=hk44
 apply vb hm<;>intro _ hm
 cases hm
 exact d0.le (⟨_,rfl,⟨⟨_,rfl,⟨leD.refl _,leD.refl _,leD.nil,leD.nil,leD.nil,leD.nil,leD.nil,leD.refl _,leD.nil,leD.nil,leD.nil,leD.nil,leD.nil,trivial⟩⟩,leD.refl _,trivial⟩⟩)
 obtain⟨x54,hx55,hm⟩:=b5 hm
 refine .inr (a3F.mk ⟨_,_,a3u x _ hx55, ?_⟩)
 refine⟨([(⟨(W ((x.Now.Leases.length:Int)+1)),d.Thing,d.To,d.From,d.Until⟩:b6)]:List b6).flatMap b6.c,([(⟨(W ((x.Now.Leases.length:Int)+1)),d.Thing,d.To,d.From,d.Until⟩:b6)]:List b6).length,⟨rfl,rfl⟩, ?_⟩
 obtain⟨hg,hm⟩:=c6 hm
 refine⟨hg,_,_,c9 (c:=b6.c) (l:=(x54.Now.Leases:List b6)) (r:=(([(⟨(W ((x.Now.Leases.length:Int)+1)),d.Thing,d.To,d.From,d.Until⟩:b6)]:List b6):List b6)), ?_⟩
 cases hm
 exact d0.le (leD.refl _)
def a0P (x:a6) (owner:Int) (no:Int) (moment:Int):Option (a6×Int):=
 Option.bind (O2 x) fun e=>
 match e with
 | .inl x8=>
  if(x8 !=0)=true then
   some ((⟨0,(⟨0, [], [], [], [], []⟩:b7),(⟨0, [], [], [], [], []⟩:b7)⟩:a6),x8)
  else
   Option.bind (u2 owner) fun x32=>
   if(!x32)=true then
    some ((⟨0,(⟨0, [], [], [], [], []⟩:b7),(⟨0, [], [], [], [], []⟩:b7)⟩:a6),1)
   else
    Option.bind (d8 moment) fun x35=>
    if(!x35)=true then
     some ((⟨0,(⟨0, [], [], [], [], []⟩:b7),(⟨0, [], [], [], [], []⟩:b7)⟩:a6),95)
    else
     none
 | .inr (v9,v10,v11,v12,v13,v14,v15,v16,v17,v18,x19,x20,x21)=>
  Option.bind (u2 owner) fun x38=>
  if(!x38)=true then
   some ((⟨0,(⟨0, [], [], [], [], []⟩:b7),(⟨0, [], [], [], [], []⟩:b7)⟩:a6),1)
  else
   Option.bind (d8 moment) fun x41=>
   if(!x41)=true then
    some ((⟨0,(⟨0, [], [], [], [], []⟩:b7),(⟨0, [], [], [], [], []⟩:b7)⟩:a6),95)
   else
    Option.bind (m8 v13 (⟨owner,no,0,0,0,false⟩:b4)) fun⟨x44,x45⟩=>
    if(!x45)=true then
     some ((⟨0,(⟨0, [], [], [], [], []⟩:b7),(⟨0, [], [], [], [], []⟩:b7)⟩:a6),94)
    else
     Option.bind (idx v13 x44) fun e48=>
     Option.bind (idx v13 x44) fun e50=>
     if e50.Back=true then
      some ((⟨0,(⟨0, [], [], [], [], []⟩:b7),(⟨0, [], [], [], [], []⟩:b7)⟩:a6),94)
     else
      Option.bind (idx v13 x44) fun e53=>
      Option.bind (idx v13 x44) fun e55=>
      Option.bind (idx v13 x44) fun e57=>
      Option.bind (idx v13 x44) fun e59=>
      Option.bind (idx (v13.set x44.toNat (⟨e59.Owner,e59.No,e59.Thing,e59.From,(if(if e57.From>moment then e57.From else moment)<e55.Until then(if e57.From>moment then e57.From else moment)else e55.Until),e59.Back⟩:b4)) x44) fun e61=>
      some ((⟨x19,(⟨x20,v9,v10,v11,v12,((v13.set x44.toNat (⟨e59.Owner,e59.No,e59.Thing,e59.From,(if(if e57.From>moment then e57.From else moment)<e55.Until then(if e57.From>moment then e57.From else moment)else e55.Until),e59.Back⟩:b4)).set x44.toNat (⟨e61.Owner,e61.No,e61.Thing,e61.From,e61.Until,true⟩:b4))⟩:b7),(⟨x21,v14,v15,v16,v17,v18⟩:b7)⟩:a6),0)
theorem b0v (x:a6) (owner:Int) (no:Int) (moment:Int) (r:(a6×Int)) (hm:a0P x owner no moment=some r):d7 Tryz.prog 35 [.agg (a6.c x),DI owner,DI no,DI moment] (fun x=>x= .tup [.agg (a6.c r.1),DI r.2]):=by
 refine zy c5X [99,106,149,210,211,220] [62] [61] Tryz.func35 rfl ?_
 obtain⟨ev29,he30,hm⟩:=b5 hm
 refine K1.ofZ pok ⟨[(0, .agg (a6.c x)),(1000000, .agg (a6.c x)),(1000001,DI owner),(1000002,DI no),(1000003,DI moment),(1000004, .own 0 0),(1000008, .own 1 0),(1000009,DI 0)], [(0, .blk (a6.c x) 30),(1, .blk [DI 0,DI 0,nS,nS,nS,nS,nS,DI 0,nS,nS,nS,nS,nS] 30)],2⟩ (match ev29 with| .inl x8=>(⟨[(0, .agg (a6.c x)),(1,DI owner),(2,DI no),(3,DI moment),(4, .own 0 0),(8, .own 1 0),(9,DI 0),(17, .tup [.v (.pointer none),DI x8])], [(0, .blk (a6.c x) 30),(1, .blk [DI 0,DI 0,nS,nS,nS,nS,nS,DI 0,nS,nS,nS,nS,nS] 30)],2⟩:Sy)| .inr (v9,v10,v11,v12,v13,v14,v15,v16,v17,v18,x19,x20,x21)=>(⟨[(0, .agg (a6.c x)),(1,DI owner),(2,DI no),(3,DI moment),(4, .own 0 0),(8, .own 1 0),(9,DI 0),(17, .tup [.own 13 0,DI 0])], [(0, .blk (a6.c x) 30),(1, .blk [DI 0,DI 0,nS,nS,nS,nS,nS,DI 0,nS,nS,nS,nS,nS] 30),(3,rE 4 v9 a8.c 110),(4,rE 6 v10 b9.c 108),(5,rE 4 v11 a7.c 149),(6,rE 5 v12 b6.c 112),(7,rE 6 v13 b4.c 114),(8,rE 4 v14 a8.c 110),(9,rE 6 v15 b9.c 108),(10,rE 4 v16 a7.c 149),(11,rE 5 v17 b6.c 112),(12,rE 6 v18 b4.c 114),(13, .blk [DI x19,DI x20, .row 3 4, .row 4 6, .row 5 4, .row 6 5, .row 7 6,DI x21, .row 8 4, .row 9 6, .row 10 4, .row 11 5, .row 12 6] 102)],14⟩:Sy):Sy) b8Q [99,106,149,210,211,220] [62] [61] Tryz.func61 rfl rfl rfl (c5.of 2 rfl (tA rfl) ⟨hR rfl,hR rfl,trivial⟩) (fun sv=> ?_) ?_
 have hm:=he30
 refine cy hm (U2 x) fun x63 hm=> ?_
 apply vb hm<;>intro _ hm
 cases hm
 exact c5.of 2 rfl (tA rfl) ⟨hR rfl,hR rfl,trivial⟩
 refine⟨rfl, ?_⟩
 obtain⟨x66,hx67,hm⟩:=b5 hm
 refine .inr (a3F.mk ⟨_,_,J1 x.Now _ hx67, ?_⟩)
 obtain⟨x68,hx69,hm⟩:=b5 hm
 refine .inr (a3F.mk ⟨_,_,J1 x.Safe _ hx69, ?_⟩)
 cases hm
 exact c5.of 14 rfl (tA rfl) ⟨hR rfl,hR rfl,hW rfl,hW rfl,hW rfl,hW rfl,hW rfl,hW rfl,hW rfl,hW rfl,hW rfl,hW rfl,hR rfl,trivial⟩
 rcases ev29 with x8|⟨v9,v10,v11,v12,v13,v14,v15,v16,v17,v18,x19,x20,x21⟩
 apply vb hm<;>intro _ hm
 cases hm
 exact d0.le (⟨_,rfl,⟨⟨_,rfl,⟨leD.refl _,leD.refl _,leD.nil,leD.nil,leD.nil,leD.nil,leD.nil,leD.refl _,leD.nil,leD.nil,leD.nil,leD.nil,leD.nil,trivial⟩⟩,leD.refl _,trivial⟩⟩)
 refine cy hm (w7 owner) fun x32 hm=> ?_
 apply vb hm<;>intro _ hm
 cases hm
 exact d0.le (⟨_,rfl,⟨⟨_,rfl,⟨leD.refl _,leD.refl _,leD.nil,leD.nil,leD.nil,leD.nil,leD.nil,leD.refl _,leD.nil,leD.nil,leD.nil,leD.nil,leD.nil,trivial⟩⟩,leD.refl _,trivial⟩⟩)
 refine cy hm (k9 moment) fun x35 hm=> ?_
 apply vb hm<;>intro _ hm
 cases hm
 exact d0.le (⟨_,rfl,⟨⟨_,rfl,⟨leD.refl _,leD.refl _,leD.nil,leD.nil,leD.nil,leD.nil,leD.nil,leD.refl _,leD.nil,leD.nil,leD.nil,leD.nil,leD.nil,trivial⟩⟩,leD.refl _,trivial⟩⟩)
 cases hm
 refine cy hm (w7 owner) fun x38 hm=> ?_
 apply vb hm<;>intro _ hm
 cases hm
 exact d0.le (⟨_,rfl,⟨⟨_,rfl,⟨leD.refl _,leD.refl _,leD.nil,leD.nil,leD.nil,leD.nil,leD.nil,leD.refl _,leD.nil,leD.nil,leD.nil,leD.nil,leD.nil,trivial⟩⟩,leD.refl _,trivial⟩⟩)
 refine cy hm (k9 moment) fun x41 hm=> ?_
 apply vb hm<;>intro _ hm
 cases hm
 exact d0.le (⟨_,rfl,⟨⟨_,rfl,⟨leD.refl _,leD.refl _,leD.nil,leD.nil,leD.nil,leD.nil,leD.nil,leD.refl _,leD.nil,leD.nil,leD.nil,leD.nil,leD.nil,trivial⟩⟩,leD.refl _,trivial⟩⟩)
 refine co hm (I8 v13 ((⟨owner,no,0,0,0,false⟩:b4))) ?_
 rintro⟨x44,x45⟩ hm
 apply vb hm<;>intro _ hm
 cases hm
 exact d0.le (⟨_,rfl,⟨⟨_,rfl,⟨leD.refl _,leD.refl _,leD.nil,leD.nil,leD.nil,leD.nil,leD.nil,leD.refl _,leD.nil,leD.nil,leD.nil,leD.nil,leD.nil,trivial⟩⟩,leD.refl _,trivial⟩⟩)
 obtain⟨e48,hx49,hm⟩:=b5 hm
 refine⟨z7 hx49, ?_⟩
 obtain⟨e50,hx51,hm⟩:=b5 hm
 refine⟨_,r7 (fun _=>rfl) hx51, ?_⟩
 apply vb hm<;>intro _ hm
 cases hm
 exact d0.le (⟨_,rfl,⟨⟨_,rfl,⟨leD.refl _,leD.refl _,leD.nil,leD.nil,leD.nil,leD.nil,leD.nil,leD.refl _,leD.nil,leD.nil,leD.nil,leD.nil,leD.nil,trivial⟩⟩,leD.refl _,trivial⟩⟩)
 obtain⟨e53,hx54,hm⟩:=b5 hm
 refine⟨z7 hx54, ?_⟩
 refine⟨rfl, ?_⟩
 obtain⟨e55,hx56,hm⟩:=b5 hm
 refine⟨_,r7 (fun _=>rfl) hx56, ?_⟩
 obtain⟨e57,hx58,hm⟩:=b5 hm
 refine⟨_,r7 (fun _=>rfl) hx58, ?_⟩
 obtain⟨e59,hx60,hm⟩:=b5 hm
 refine⟨_,r7 (fun _=>rfl) hx60,_,N6 (y:=(⟨e59.Owner,e59.No,e59.Thing,e59.From,(if(if e57.From>moment then e57.From else moment)<e55.Until then(if e57.From>moment then e57.From else moment)else e55.Until),e59.Back⟩:b4)) (fun _=>rfl) hx60, ?_⟩
 obtain⟨e61,hx62,hm⟩:=b5 hm
 refine⟨_,a5y (fun _=>rfl) hx62 (by first|rfl|simp only [List.length_set]),_,N6 (y:=(⟨e61.Owner,e61.No,e61.Thing,e61.From,e61.Until,true⟩:b4)) (fun _=>rfl) hx62, ?_⟩
 cases hm
 exact d0.le (by first|exact leD.refl _|(simp only [a6.c,lD,List.length_set];exact leD.refl _))
def Y4 (l:(Int×Int×Int)) (x10:a6):Int→Option (Sum Int (Sum Int (a6×Int))):=fun i24=>
 if(decide (i24<(x10.Now.Loans.length:Int)))=true then
  Option.bind (idx x10.Now.Loans i24) fun e38=>
  Option.bind (idx x10.Now.Loans i24) fun e40=>
  if(e40.Owner !=l.1)=true then
   some (.inl (W (i24+1)))
  else
   if(e40.No !=l.2.1)=true then
    some (.inl (W (i24+1)))
   else
    if e40.Back=true then
     some (.inl (W (i24+1)))
    else
     Option.bind (idx x10.Now.Loans i24) fun e45=>
     Option.bind (idx x10.Now.Loans i24) fun e47=>
     some (.inr (.inr ((⟨x10.Me,(⟨x10.Now.Round,x10.Now.Slots,x10.Now.Bids,x10.Now.Heard,x10.Now.Leases,(x10.Now.Loans.set i24.toNat (⟨e40.Owner,e40.No,e40.Thing,e40.From,(if(if e40.From>l.2.2 then e40.From else l.2.2)<e40.Until then(if e40.From>l.2.2 then e40.From else l.2.2)else e40.Until),true⟩:b4))⟩:b7),x10.Safe⟩:a6),0)))
 else
  some (.inr (.inl i24))
def a3a (x:a6) (l:(Int×Int×Int)):Option (a6×Int):=
 Option.bind (a0a x) fun x1=>
 if(x1 !=0)=true then
  some ((⟨0,(⟨0, [], [], [], [], []⟩:b7),(⟨0, [], [], [], [], []⟩:b7)⟩:a6),90)
 else
  Option.bind (L1 l.1) fun x4=>
  if(!x4)=true then
   some ((⟨0,(⟨0, [], [], [], [], []⟩:b7),(⟨0, [], [], [], [], []⟩:b7)⟩:a6),1)
  else
   Option.bind (D8 l.2.2) fun x7=>
   if(!x7)=true then
    some ((⟨0,(⟨0, [], [], [], [], []⟩:b7),(⟨0, [], [], [], [], []⟩:b7)⟩:a6),95)
   else
    Option.bind (N9 x) fun x10=>
    Option.bind (l8 (Y4 l x10) 0) fun e=>
    match e with
    | .inl i49=>
     some ((⟨0,(⟨0, [], [], [], [], []⟩:b7),(⟨0, [], [], [], [], []⟩:b7)⟩:a6),94)
    | .inr rr50=>
     some rr50
theorem b4c (x:a6) (l:(Int×Int×Int)) (r:(a6×Int)) (hm:a3a x l=some r):d7 Tryz.prog 36 [.agg (a6.c x), .agg [DI l.1,DI l.2.1,DI l.2.2]] (fun x=>x= .tup [.agg (a6.c r.1),DI r.2]):=by
 refine zy [] [99,106,149,210,211,220] [90] [] Tryz.func36 rfl ?_
 refine cy hm (a4o x) fun x1 hm=> ?_
 apply vb hm<;>intro _ hm
 cases hm
 exact d0.le (⟨_,rfl,⟨⟨_,rfl,⟨leD.refl _,leD.refl _,leD.nil,leD.nil,leD.nil,leD.nil,leD.nil,leD.refl _,leD.nil,leD.nil,leD.nil,leD.nil,leD.nil,trivial⟩⟩,leD.refl _,trivial⟩⟩)
 refine⟨by decide, ?_⟩
 refine cy hm (R6 l.1) fun x4 hm=> ?_
 apply vb hm<;>intro _ hm
 cases hm
 exact d0.le (⟨_,rfl,⟨⟨_,rfl,⟨leD.refl _,leD.refl _,leD.nil,leD.nil,leD.nil,leD.nil,leD.nil,leD.refl _,leD.nil,leD.nil,leD.nil,leD.nil,leD.nil,trivial⟩⟩,leD.refl _,trivial⟩⟩)
 refine⟨by decide, ?_⟩
 refine cy hm (I1 l.2.2) fun x7 hm=> ?_
 apply vb hm<;>intro _ hm
 cases hm
 exact d0.le (⟨_,rfl,⟨⟨_,rfl,⟨leD.refl _,leD.refl _,leD.nil,leD.nil,leD.nil,leD.nil,leD.nil,leD.refl _,leD.nil,leD.nil,leD.nil,leD.nil,leD.nil,trivial⟩⟩,leD.refl _,trivial⟩⟩)
 obtain⟨x10,hx11,hm⟩:=b5 hm
 refine .inr (a3F.mk ⟨_,_,a3u x _ hx11, ?_⟩)
 obtain⟨ev51,he,hk52⟩:=b5 hm
 refine u4.ofL (Y4 l x10) (fun i24=>⟨[(0, .agg (a6.c x)),(1, .agg [DI l.1,DI l.2.1,DI l.2.2]),(2, .own 0 0),(3, .own 1 0),(4, .own 2 0),(5,DI 0),(6, .own 13 0),(7,DI i24),(11,DB (x1 !=0)),(16,DB (!x4)),(21,DB (!x7))], [(0, .blk (a6.c x) 30),(1, .blk [DI l.1,DI l.2.1,DI l.2.2] 52),(2, .blk [DI 0,DI 0,nS,nS,nS,nS,nS,DI 0,nS,nS,nS,nS,nS] 30),(3,rE 4 x10.Now.Slots a8.c 110),(4,rE 6 x10.Now.Bids b9.c 108),(5,rE 4 x10.Now.Heard a7.c 149),(6,rE 5 x10.Now.Leases b6.c 112),(7,rE 6 x10.Now.Loans b4.c 114),(8,rE 4 x10.Safe.Slots a8.c 110),(9,rE 6 x10.Safe.Bids b9.c 108),(10,rE 4 x10.Safe.Heard a7.c 149),(11,rE 5 x10.Safe.Leases b6.c 112),(12,rE 6 x10.Safe.Loans b4.c 114),(13, .blk [DI x10.Me,DI x10.Now.Round, .row 3 4, .row 4 6, .row 5 4, .row 6 5, .row 7 6,DI x10.Safe.Round, .row 8 4, .row 9 6, .row 10 4, .row 11 5, .row 12 6] 30)],14⟩) 0 (c5.of 14 rfl (tA rfl) ⟨hR rfl,hR rfl,hR rfl,hW rfl,hW rfl,hW rfl,hW rfl,hW rfl,hW rfl,hW rfl,hW rfl,hW rfl,hW rfl,hR rfl,trivial⟩) he ?_
 rintro fu53 i24 b hm hi54
 apply vb hm<;>intro _ hm
 obtain⟨e56,hx57,hm⟩:=b5 hm
 refine⟨z7 hx57, ?_⟩
 obtain⟨e58,hx59,hm⟩:=b5 hm
 refine⟨_,r7 (fun _=>rfl) hx59, ?_⟩
 refine⟨by decide, ?_⟩
 apply vb hm<;>intro _ hm
 cases hm
 exact⟨(_,(W (i24+1))),c5.of 14 rfl (tA rfl) ⟨hR rfl,hR rfl,hR rfl,hW rfl,hW rfl,hW rfl,hW rfl,hW rfl,hW rfl,hW rfl,hW rfl,hW rfl,hW rfl,hR rfl,trivial⟩,hi54,Nat.lt_succ_self _⟩
 refine⟨by decide, ?_⟩
 apply vb hm<;>intro _ hm
 cases hm
 exact⟨(_,(W (i24+1))),c5.of 14 rfl (tA rfl) ⟨hR rfl,hR rfl,hR rfl,hW rfl,hW rfl,hW rfl,hW rfl,hW rfl,hW rfl,hW rfl,hW rfl,hW rfl,hW rfl,hR rfl,trivial⟩,hi54,Nat.lt_succ_self _⟩
 apply vb hm<;>intro _ hm
 cases hm
 exact⟨(_,(W (i24+1))),c5.of 14 rfl (tA rfl) ⟨hR rfl,hR rfl,hR rfl,hW rfl,hW rfl,hW rfl,hW rfl,hW rfl,hW rfl,hW rfl,hW rfl,hW rfl,hW rfl,hR rfl,trivial⟩,hi54,Nat.lt_succ_self _⟩
 refine⟨by decide, ?_⟩
 obtain⟨e63,hx64,hm⟩:=b5 hm
 refine⟨z7 hx64, ?_⟩
 obtain⟨e65,hx66,hm⟩:=b5 hm
 refine⟨_,r7 (fun _=>rfl) hx66,_,N6 (y:=(⟨e58.Owner,e58.No,e58.Thing,e58.From,(if(if e58.From>l.2.2 then e58.From else l.2.2)<e58.Until then(if e58.From>l.2.2 then e58.From else l.2.2)else e58.Until),true⟩:b4)) (fun _=>rfl) hx66, ?_⟩
 cases hm
 cases hi54
 have hm:=hk52
 cases hm
 exact d0.le (by first|exact leD.refl _|(simp only [a6.c,lD,List.length_set];exact leD.refl _))
 cases hm
 cases hi54
 have hm:=hk52
 cases hm
 exact d0.le (⟨_,rfl,⟨⟨_,rfl,⟨leD.refl _,leD.refl _,leD.nil,leD.nil,leD.nil,leD.nil,leD.nil,leD.refl _,leD.nil,leD.nil,leD.nil,leD.nil,leD.nil,trivial⟩⟩,leD.refl _,trivial⟩⟩)
def L8 (s:b7) (c:b8):((List a7)×Bool×Int×(List a7)×(List a7)×(List a7)×(List a7)×(List a7)×(List a7))→Option (Sum ((List a7)×Bool×Int×(List a7)×(List a7)×(List a7)×(List a7)×(List a7)×(List a7)) ((List a7)×Bool×Int×(List a7)×(List a7)×(List a7)×(List a7)×(List a7)×(List a7))):=fun(out18,done19,i20,out21,out22,out23,out24,out25,out26)=>
 if(decide (i20<(s.Heard.length:Int)))=true then
  Option.bind (idx s.Heard i20) fun e47=>
  if(e47.Ballot==c.Ballot)=true then
   if(e47.Night==c.Night)=true then
    if(e47.Value==c.Value)=true then
     Option.bind (M6 c.From) fun x52=>
     gd ((out26.length+([(⟨e47.Night,e47.Ballot,e47.Value,(W ((BitVec.ofInt IntKind.i64.bits e47.Mask|||BitVec.ofInt IntKind.i64.bits x52).toNat:Int))⟩:a7)]:List a7).length)*32≤140737488355328∧out26.length+([(⟨e47.Night,e47.Ballot,e47.Value,(W ((BitVec.ofInt IntKind.i64.bits e47.Mask|||BitVec.ofInt IntKind.i64.bits x52).toNat:Int))⟩:a7)]:List a7).length≤9223372036854775807)<|
     some (.inl (out18,true,(W (i20+1)),out21,out22,out23,out24,out25,(out26++([(⟨e47.Night,e47.Ballot,e47.Value,(W ((BitVec.ofInt IntKind.i64.bits e47.Mask|||BitVec.ofInt IntKind.i64.bits x52).toNat:Int))⟩:a7)]:List a7))))
    else
     gd ((out26.length+([e47]:List a7).length)*32≤140737488355328∧out26.length+([e47]:List a7).length≤9223372036854775807)<|
     some (.inl (out18,true,(W (i20+1)),out21,out22,out23,out24,out25,(out26++([e47]:List a7))))
   else
    if(!done19)=true then
     if(decide (e47.Ballot>c.Ballot))=true then
      Option.bind (M6 c.From) fun x56=>
      gd ((out26.length+([(⟨c.Night,c.Ballot,c.Value,x56⟩:a7)]:List a7).length)*32≤140737488355328∧out26.length+([(⟨c.Night,c.Ballot,c.Value,x56⟩:a7)]:List a7).length≤9223372036854775807)<|
      gd (((out26++([(⟨c.Night,c.Ballot,c.Value,x56⟩:a7)]:List a7)).length+([e47]:List a7).length)*32≤140737488355328∧(out26++([(⟨c.Night,c.Ballot,c.Value,x56⟩:a7)]:List a7)).length+([e47]:List a7).length≤9223372036854775807)<|
      some (.inl (out18,true,(W (i20+1)),out21,out22,out23,out24,out25,((out26++([(⟨c.Night,c.Ballot,c.Value,x56⟩:a7)]:List a7))++([e47]:List a7))))
     else
      if(decide (e47.Night>c.Night))=true then
       Option.bind (M6 c.From) fun x59=>
       gd ((out26.length+([(⟨c.Night,c.Ballot,c.Value,x59⟩:a7)]:List a7).length)*32≤140737488355328∧out26.length+([(⟨c.Night,c.Ballot,c.Value,x59⟩:a7)]:List a7).length≤9223372036854775807)<|
       gd (((out26++([(⟨c.Night,c.Ballot,c.Value,x59⟩:a7)]:List a7)).length+([e47]:List a7).length)*32≤140737488355328∧(out26++([(⟨c.Night,c.Ballot,c.Value,x59⟩:a7)]:List a7)).length+([e47]:List a7).length≤9223372036854775807)<|
       some (.inl (out18,true,(W (i20+1)),out21,out22,out23,out24,out25,((out26++([(⟨c.Night,c.Ballot,c.Value,x59⟩:a7)]:List a7))++([e47]:List a7))))
      else
       gd ((out26.length+([e47]:List a7).length)*32≤140737488355328∧out26.length+([e47]:List a7).length≤9223372036854775807)<|
       some (.inl (out18,done19,(W (i20+1)),out21,out22,out23,out24,out25,(out26++([e47]:List a7))))
    else
     gd ((out26.length+([e47]:List a7).length)*32≤140737488355328∧out26.length+([e47]:List a7).length≤9223372036854775807)<|
     some (.inl (out18,done19,(W (i20+1)),out21,out22,out23,out24,out25,(out26++([e47]:List a7))))
  else
   if(!done19)=true then
    if(decide (e47.Ballot>c.Ballot))=true then
     Option.bind (M6 c.From) fun x63=>
     gd ((out26.length+([(⟨c.Night,c.Ballot,c.Value,x63⟩:a7)]:List a7).length)*32≤140737488355328∧out26.length+([(⟨c.Night,c.Ballot,c.Value,x63⟩:a7)]:List a7).length≤9223372036854775807)<|
     gd (((out26++([(⟨c.Night,c.Ballot,c.Value,x63⟩:a7)]:List a7)).length+([e47]:List a7).length)*32≤140737488355328∧(out26++([(⟨c.Night,c.Ballot,c.Value,x63⟩:a7)]:List a7)).length+([e47]:List a7).length≤9223372036854775807)<|
     some (.inl (out18,true,(W (i20+1)),out21,out22,out23,out24,out25,((out26++([(⟨c.Night,c.Ballot,c.Value,x63⟩:a7)]:List a7))++([e47]:List a7))))
    else
     gd ((out26.length+([e47]:List a7).length)*32≤140737488355328∧out26.length+([e47]:List a7).length≤9223372036854775807)<|
     some (.inl (out18,done19,(W (i20+1)),out21,out22,out23,out24,out25,(out26++([e47]:List a7))))
   else
    gd ((out26.length+([e47]:List a7).length)*32≤140737488355328∧out26.length+([e47]:List a7).length≤9223372036854775807)<|
    some (.inl (out18,done19,(W (i20+1)),out21,out22,out23,out24,out25,(out26++([e47]:List a7))))
 else
  some (.inr (out18,done19,i20,out21,out22,out23,out24,out25,out26))
def a4h (s:b7) (c:b8):Option (b7×Bool):=
 Option.bind (l8 (L8 s c) ([],false,0, [], [], [], [], [], [])) fun(out65,done66,i67,out68,out69,out70,out71,out72,out73)=>
 if(!done66)=true then
  Option.bind (M6 c.From) fun x75=>
  gd ((out73.length+([(⟨c.Night,c.Ballot,c.Value,x75⟩:a7)]:List a7).length)*32≤140737488355328∧out73.length+([(⟨c.Night,c.Ballot,c.Value,x75⟩:a7)]:List a7).length≤9223372036854775807)<|
  some ((⟨s.Round,s.Slots,s.Bids,(out73++([(⟨c.Night,c.Ballot,c.Value,x75⟩:a7)]:List a7)),s.Leases,s.Loans⟩:b7),(decide (((out73++([(⟨c.Night,c.Ballot,c.Value,x75⟩:a7)]:List a7)).length:Int)≤60)))
 else
  some ((⟨s.Round,s.Slots,s.Bids,out73,s.Leases,s.Loans⟩:b7),(decide ((out73.length:Int)≤60)))
theorem b5M (s:b7) (c:b8) (r:(b7×Bool)) (hm:a4h s c=some r):d7 Tryz.prog 162 [.agg (b7.c s), .agg (b8.c c)] (fun x=>x= .tup [.agg (b7.c r.1),DB r.2]):=by
 refine zy c4r [] [] [] Tryz.func162 rfl ?_
 obtain⟨ev77,he,hk78⟩:=b5 hm
 refine u4.ofL (L8 s c) (fun(out18,done19,i20,out21,out22,out23,out24,out25,out26)=>⟨[(0, .agg (b7.c s)),(1, .agg (b8.c c)),(2, .own 0 0),(3, .own 1 0),(4, .own 2 0),(5,DB false),(6, .row 9 4),(7,DB done19),(8,DI i20)], [(0, .blk (b7.c s) 28),(1, .blk (b8.c c) 42),(2, .blk [DI 0,nS,nS,nS,nS,nS] 28),(3,rE 4 out18 a7.c 149),(4,rE 4 out21 a7.c 149),(5,rE 4 out22 a7.c 149),(6,rE 4 out23 a7.c 149),(7,rE 4 out24 a7.c 149),(8,rE 4 out25 a7.c 149),(9,rE 4 out26 a7.c 149)],10⟩) ([],false,0, [], [], [], [], [], []) (c5.of 3 rfl (tA rfl) ⟨hR rfl,hR rfl,hR rfl,⟨rfl,rfl⟩,⟨rfl,rfl⟩,⟨rfl,rfl⟩,⟨rfl,rfl⟩,⟨rfl,rfl⟩,⟨rfl,rfl⟩,⟨rfl,rfl⟩,trivial⟩) he ?_
 rintro fu79 ⟨out18,done19,i20,out21,out22,out23,out24,out25,out26⟩ b hm hi80
 apply vb hm<;>intro _ hm
 obtain⟨e82,hx83,hm⟩:=b5 hm
 refine⟨_,d9 (fun _=>rfl) hx83, ?_⟩
 apply vb hm<;>intro h84 hm
 apply vb hm<;>intro _ hm
 apply vb hm<;>intro _ hm
 refine⟨rfl, ?_⟩
 refine cy hm (a1q c.From) fun x87 hm=> ?_
 refine⟨([(⟨e82.Night,e82.Ballot,e82.Value,(W ((BitVec.ofInt IntKind.i64.bits e82.Mask|||BitVec.ofInt IntKind.i64.bits x87).toNat:Int))⟩:a7)]:List a7).flatMap a7.c,([(⟨e82.Night,e82.Ballot,e82.Value,(W ((BitVec.ofInt IntKind.i64.bits e82.Mask|||BitVec.ofInt IntKind.i64.bits x87).toNat:Int))⟩:a7)]:List a7).length,⟨rfl,rfl⟩, ?_⟩
 obtain⟨hg,hm⟩:=c6 hm
 refine⟨hg,_,_,c9 (c:=a7.c) (l:=(out26:List a7)) (r:=(([(⟨e82.Night,e82.Ballot,e82.Value,(W ((BitVec.ofInt IntKind.i64.bits e82.Mask|||BitVec.ofInt IntKind.i64.bits x87).toNat:Int))⟩:a7)]:List a7):List a7)), ?_⟩
 cases hm
 exact⟨(_,(out18,true,(W (i20+1)),out21,out22,out23,out24,out25,(out26++([(⟨e82.Night,e82.Ballot,e82.Value,(W ((BitVec.ofInt IntKind.i64.bits e82.Mask|||BitVec.ofInt IntKind.i64.bits x87).toNat:Int))⟩:a7)]:List a7)))),c5.of 10 rfl (tA rfl) ⟨hR rfl,hR rfl,hR rfl,hW rfl,hW rfl,hW rfl,hW rfl,hW rfl,hW rfl,hW rfl,trivial⟩,hi80,Nat.lt_succ_self _⟩
 refine⟨([e82]:List a7).flatMap a7.c,([e82]:List a7).length,⟨rfl,rfl⟩, ?_⟩
 obtain⟨hg,hm⟩:=c6 hm
 refine⟨hg,_,_,c9 (c:=a7.c) (l:=(out26:List a7)) (r:=(([e82]:List a7):List a7)), ?_⟩
 cases hm
 exact⟨(_,(out18,true,(W (i20+1)),out21,out22,out23,out24,out25,(out26++([e82]:List a7)))),c5.of 10 rfl (tA rfl) ⟨hR rfl,hR rfl,hR rfl,hW rfl,hW rfl,hW rfl,hW rfl,hW rfl,hW rfl,hW rfl,trivial⟩,hi80,Nat.lt_succ_self _⟩
 apply vb hm<;>intro _ hm
 apply vb hm<;>intro _ hm
 refine⟨rfl, ?_⟩
 refine cy hm (a1q c.From) fun x91 hm=> ?_
 refine⟨([(⟨c.Night,c.Ballot,c.Value,x91⟩:a7)]:List a7).flatMap a7.c,([(⟨c.Night,c.Ballot,c.Value,x91⟩:a7)]:List a7).length,⟨rfl,rfl⟩, ?_⟩
 obtain⟨hg,hm⟩:=c6 hm
 refine⟨hg,_,_,c9 (c:=a7.c) (l:=(out26:List a7)) (r:=(([(⟨c.Night,c.Ballot,c.Value,x91⟩:a7)]:List a7):List a7)), ?_⟩
 refine⟨([e82]:List a7).flatMap a7.c,([e82]:List a7).length,⟨rfl,rfl⟩, ?_⟩
 obtain⟨hg,hm⟩:=c6 hm
 refine⟨hg,_,_,c9 (c:=a7.c) (l:=((out26++([(⟨c.Night,c.Ballot,c.Value,x91⟩:a7)]:List a7)):List a7)) (r:=(([e82]:List a7):List a7)), ?_⟩
 cases hm
 exact⟨(_,(out18,true,(W (i20+1)),out21,out22,out23,out24,out25,((out26++([(⟨c.Night,c.Ballot,c.Value,x91⟩:a7)]:List a7))++([e82]:List a7)))),c5.of 10 rfl (tA rfl) ⟨hR rfl,hR rfl,hR rfl,hW rfl,hW rfl,hW rfl,hW rfl,hW rfl,hW rfl,hW rfl,trivial⟩,hi80,Nat.lt_succ_self _⟩
 refine VIf.t h84 ?_
 apply vb hm<;>intro _ hm
 refine⟨rfl, ?_⟩
 refine cy hm (a1q c.From) fun x94 hm=> ?_
 refine⟨([(⟨c.Night,c.Ballot,c.Value,x94⟩:a7)]:List a7).flatMap a7.c,([(⟨c.Night,c.Ballot,c.Value,x94⟩:a7)]:List a7).length,⟨rfl,rfl⟩, ?_⟩
 obtain⟨hg,hm⟩:=c6 hm
 refine⟨hg,_,_,c9 (c:=a7.c) (l:=(out26:List a7)) (r:=(([(⟨c.Night,c.Ballot,c.Value,x94⟩:a7)]:List a7):List a7)), ?_⟩
 refine⟨([e82]:List a7).flatMap a7.c,([e82]:List a7).length,⟨rfl,rfl⟩, ?_⟩
 obtain⟨hg,hm⟩:=c6 hm
 refine⟨hg,_,_,c9 (c:=a7.c) (l:=((out26++([(⟨c.Night,c.Ballot,c.Value,x94⟩:a7)]:List a7)):List a7)) (r:=(([e82]:List a7):List a7)), ?_⟩
 cases hm
 exact⟨(_,(out18,true,(W (i20+1)),out21,out22,out23,out24,out25,((out26++([(⟨c.Night,c.Ballot,c.Value,x94⟩:a7)]:List a7))++([e82]:List a7)))),c5.of 10 rfl (tA rfl) ⟨hR rfl,hR rfl,hR rfl,hW rfl,hW rfl,hW rfl,hW rfl,hW rfl,hW rfl,hW rfl,trivial⟩,hi80,Nat.lt_succ_self _⟩
 refine⟨([e82]:List a7).flatMap a7.c,([e82]:List a7).length,⟨rfl,rfl⟩, ?_⟩
 obtain⟨hg,hm⟩:=c6 hm
 refine⟨hg,_,_,c9 (c:=a7.c) (l:=(out26:List a7)) (r:=(([e82]:List a7):List a7)), ?_⟩
 cases hm
 exact⟨(_,(out18,done19,(W (i20+1)),out21,out22,out23,out24,out25,(out26++([e82]:List a7)))),c5.of 10 rfl (tA rfl) ⟨hR rfl,hR rfl,hR rfl,hW rfl,hW rfl,hW rfl,hW rfl,hW rfl,hW rfl,hW rfl,trivial⟩,hi80,Nat.lt_succ_self _⟩
 refine⟨([e82]:List a7).flatMap a7.c,([e82]:List a7).length,⟨rfl,rfl⟩, ?_⟩
 obtain⟨hg,hm⟩:=c6 hm
 refine⟨hg,_,_,c9 (c:=a7.c) (l:=(out26:List a7)) (r:=(([e82]:List a7):List a7)), ?_⟩
 cases hm
 exact⟨(_,(out18,done19,(W (i20+1)),out21,out22,out23,out24,out25,(out26++([e82]:List a7)))),c5.of 10 rfl (tA rfl) ⟨hR rfl,hR rfl,hR rfl,hW rfl,hW rfl,hW rfl,hW rfl,hW rfl,hW rfl,hW rfl,trivial⟩,hi80,Nat.lt_succ_self _⟩
 apply vb hm<;>intro _ hm
 apply vb hm<;>intro _ hm
 refine⟨rfl, ?_⟩
 refine cy hm (a1q c.From) fun x98 hm=> ?_
 refine⟨([(⟨c.Night,c.Ballot,c.Value,x98⟩:a7)]:List a7).flatMap a7.c,([(⟨c.Night,c.Ballot,c.Value,x98⟩:a7)]:List a7).length,⟨rfl,rfl⟩, ?_⟩
 obtain⟨hg,hm⟩:=c6 hm
 refine⟨hg,_,_,c9 (c:=a7.c) (l:=(out26:List a7)) (r:=(([(⟨c.Night,c.Ballot,c.Value,x98⟩:a7)]:List a7):List a7)), ?_⟩
 refine⟨([e82]:List a7).flatMap a7.c,([e82]:List a7).length,⟨rfl,rfl⟩, ?_⟩
 obtain⟨hg,hm⟩:=c6 hm
 refine⟨hg,_,_,c9 (c:=a7.c) (l:=((out26++([(⟨c.Night,c.Ballot,c.Value,x98⟩:a7)]:List a7)):List a7)) (r:=(([e82]:List a7):List a7)), ?_⟩
 cases hm
 exact⟨(_,(out18,true,(W (i20+1)),out21,out22,out23,out24,out25,((out26++([(⟨c.Night,c.Ballot,c.Value,x98⟩:a7)]:List a7))++([e82]:List a7)))),c5.of 10 rfl (tA rfl) ⟨hR rfl,hR rfl,hR rfl,hW rfl,hW rfl,hW rfl,hW rfl,hW rfl,hW rfl,hW rfl,trivial⟩,hi80,Nat.lt_succ_self _⟩
 refine VIf.f h84 ?_
 refine⟨([e82]:List a7).flatMap a7.c,([e82]:List a7).length,⟨rfl,rfl⟩, ?_⟩
 obtain⟨hg,hm⟩:=c6 hm
 refine⟨hg,_,_,c9 (c:=a7.c) (l:=(out26:List a7)) (r:=(([e82]:List a7):List a7)), ?_⟩
 cases hm
 exact⟨(_,(out18,done19,(W (i20+1)),out21,out22,out23,out24,out25,(out26++([e82]:List a7)))),c5.of 10 rfl (tA rfl) ⟨hR rfl,hR rfl,hR rfl,hW rfl,hW rfl,hW rfl,hW rfl,hW rfl,hW rfl,hW rfl,trivial⟩,hi80,Nat.lt_succ_self _⟩
 refine⟨([e82]:List a7).flatMap a7.c,([e82]:List a7).length,⟨rfl,rfl⟩, ?_⟩
 obtain⟨hg,hm⟩:=c6 hm
 refine⟨hg,_,_,c9 (c:=a7.c) (l:=(out26:List a7)) (r:=(([e82]:List a7):List a7)), ?_⟩
 cases hm
 exact⟨(_,(out18,done19,(W (i20+1)),out21,out22,out23,out24,out25,(out26++([e82]:List a7)))),c5.of 10 rfl (tA rfl) ⟨hR rfl,hR rfl,hR rfl,hW rfl,hW rfl,hW rfl,hW rfl,hW rfl,hW rfl,hW rfl,trivial⟩,hi80,Nat.lt_succ_self _⟩
 cases hm
 cases hi80
 have hm:=hk78
 apply vb hm<;>intro _ hm
 refine⟨rfl, ?_⟩
 refine cy hm (a1q c.From) fun x101 hm=> ?_
 refine⟨([(⟨c.Night,c.Ballot,c.Value,x101⟩:a7)]:List a7).flatMap a7.c,([(⟨c.Night,c.Ballot,c.Value,x101⟩:a7)]:List a7).length,⟨rfl,rfl⟩, ?_⟩
 obtain⟨hg,hm⟩:=c6 hm
 refine⟨hg,_,_,c9 (c:=a7.c) (l:=(out26:List a7)) (r:=(([(⟨c.Night,c.Ballot,c.Value,x101⟩:a7)]:List a7):List a7)), ?_⟩
 cases hm
 exact d0.le (leD.refl _)
 cases hm
 exact d0.le (leD.refl _)
def w8 (s:b7) (c:b8):((List b4)×Bool×Int×(List b4)×(List b4)×(List b4)×(List b4))→Option (Sum ((List b4)×Bool×Int×(List b4)×(List b4)×(List b4)×(List b4)) (Sum ((List b4)×Bool×Int×(List b4)×(List b4)×(List b4)×(List b4)) (b7×Bool))):=fun(out9,done10,i11,out12,out13,out14,out15)=>
 if(decide (i11<(s.Loans.length:Int)))=true then
  Option.bind (idx s.Loans i11) fun e27=>
  if(e27.Owner==c.From)=true then
   if(e27.No==c.No)=true then
    some (.inr (.inr (s,true)))
   else
    if(!done10)=true then
     if(decide (e27.Owner>c.From))=true then
      gd ((out15.length+([(⟨c.From,c.No,c.Thing,c.Start,c.Until,false⟩:b4)]:List b4).length)*48≤140737488355328∧out15.length+([(⟨c.From,c.No,c.Thing,c.Start,c.Until,false⟩:b4)]:List b4).length≤9223372036854775807)<|
      gd (((out15++([(⟨c.From,c.No,c.Thing,c.Start,c.Until,false⟩:b4)]:List b4)).length+([e27]:List b4).length)*48≤140737488355328∧(out15++([(⟨c.From,c.No,c.Thing,c.Start,c.Until,false⟩:b4)]:List b4)).length+([e27]:List b4).length≤9223372036854775807)<|
      some (.inl (out9,true,(W (i11+1)),out12,out13,out14,((out15++([(⟨c.From,c.No,c.Thing,c.Start,c.Until,false⟩:b4)]:List b4))++([e27]:List b4))))
     else
      if(decide (e27.No>c.No))=true then
       gd ((out15.length+([(⟨c.From,c.No,c.Thing,c.Start,c.Until,false⟩:b4)]:List b4).length)*48≤140737488355328∧out15.length+([(⟨c.From,c.No,c.Thing,c.Start,c.Until,false⟩:b4)]:List b4).length≤9223372036854775807)<|
       gd (((out15++([(⟨c.From,c.No,c.Thing,c.Start,c.Until,false⟩:b4)]:List b4)).length+([e27]:List b4).length)*48≤140737488355328∧(out15++([(⟨c.From,c.No,c.Thing,c.Start,c.Until,false⟩:b4)]:List b4)).length+([e27]:List b4).length≤9223372036854775807)<|
       some (.inl (out9,true,(W (i11+1)),out12,out13,out14,((out15++([(⟨c.From,c.No,c.Thing,c.Start,c.Until,false⟩:b4)]:List b4))++([e27]:List b4))))
      else
       gd ((out15.length+([e27]:List b4).length)*48≤140737488355328∧out15.length+([e27]:List b4).length≤9223372036854775807)<|
       some (.inl (out9,done10,(W (i11+1)),out12,out13,out14,(out15++([e27]:List b4))))
    else
     gd ((out15.length+([e27]:List b4).length)*48≤140737488355328∧out15.length+([e27]:List b4).length≤9223372036854775807)<|
     some (.inl (out9,done10,(W (i11+1)),out12,out13,out14,(out15++([e27]:List b4))))
  else
   if(!done10)=true then
    if(decide (e27.Owner>c.From))=true then
     gd ((out15.length+([(⟨c.From,c.No,c.Thing,c.Start,c.Until,false⟩:b4)]:List b4).length)*48≤140737488355328∧out15.length+([(⟨c.From,c.No,c.Thing,c.Start,c.Until,false⟩:b4)]:List b4).length≤9223372036854775807)<|
     gd (((out15++([(⟨c.From,c.No,c.Thing,c.Start,c.Until,false⟩:b4)]:List b4)).length+([e27]:List b4).length)*48≤140737488355328∧(out15++([(⟨c.From,c.No,c.Thing,c.Start,c.Until,false⟩:b4)]:List b4)).length+([e27]:List b4).length≤9223372036854775807)<|
     some (.inl (out9,true,(W (i11+1)),out12,out13,out14,((out15++([(⟨c.From,c.No,c.Thing,c.Start,c.Until,false⟩:b4)]:List b4))++([e27]:List b4))))
    else
     gd ((out15.length+([e27]:List b4).length)*48≤140737488355328∧out15.length+([e27]:List b4).length≤9223372036854775807)<|
     some (.inl (out9,done10,(W (i11+1)),out12,out13,out14,(out15++([e27]:List b4))))
   else
    gd ((out15.length+([e27]:List b4).length)*48≤140737488355328∧out15.length+([e27]:List b4).length≤9223372036854775807)<|
    some (.inl (out9,done10,(W (i11+1)),out12,out13,out14,(out15++([e27]:List b4))))
 else
  some (.inr (.inl (out9,done10,i11,out12,out13,out14,out15)))
def a2A (s:b7) (c:b8):Option (b7×Bool):=
 Option.bind (l8 (w8 s c) ([],false,0, [], [], [], [])) fun e=>
 match e with
 | .inl (out36,done37,i38,out39,out40,out41,out42)=>
  if(!done37)=true then
   gd ((out42.length+([(⟨c.From,c.No,c.Thing,c.Start,c.Until,false⟩:b4)]:List b4).length)*48≤140737488355328∧out42.length+([(⟨c.From,c.No,c.Thing,c.Start,c.Until,false⟩:b4)]:List b4).length≤9223372036854775807)<|
   some ((⟨s.Round,s.Slots,s.Bids,s.Heard,s.Leases,(out42++([(⟨c.From,c.No,c.Thing,c.Start,c.Until,false⟩:b4)]:List b4))⟩:b7),(decide (((out42++([(⟨c.From,c.No,c.Thing,c.Start,c.Until,false⟩:b4)]:List b4)).length:Int)≤60)))
  else
   some ((⟨s.Round,s.Slots,s.Bids,s.Heard,s.Leases,out42⟩:b7),(decide ((out42.length:Int)≤60)))
 | .inr rr44=>
  some rr44
theorem b2G (s:b7) (c:b8) (r:(b7×Bool)) (hm:a2A s c=some r):d7 Tryz.prog 163 [.agg (b7.c s), .agg (b8.c c)] (fun x=>x= .tup [.agg (b7.c r.1),DB r.2]):=by
 refine zn Tryz.func163 rfl ?_
 obtain⟨ev45,he,hk46⟩:=b5 hm
 refine u4.ofL (w8 s c) (fun(out9,done10,i11,out12,out13,out14,out15)=>⟨[(0, .agg (b7.c s)),(1, .agg (b8.c c)),(2, .own 0 0),(3, .own 1 0),(4, .own 2 0),(5,DB false),(6, .own 3 0),(7, .row 8 6),(8,DB done10),(9,DI i11)], [(0, .blk (b7.c s) 28),(1, .blk (b8.c c) 42),(2, .blk [DI 0,nS,nS,nS,nS,nS] 28),(3, .blk [DI c.From,DI c.No,DI c.Thing,DI c.Start,DI c.Until,DB false] 114),(4,rE 6 out9 b4.c 114),(5,rE 6 out12 b4.c 114),(6,rE 6 out13 b4.c 114),(7,rE 6 out14 b4.c 114),(8,rE 6 out15 b4.c 114)],9⟩) ([],false,0, [], [], [], []) (c5.of 4 rfl (tA rfl) ⟨hR rfl,hR rfl,hR rfl,hR rfl,⟨rfl,rfl⟩,⟨rfl,rfl⟩,⟨rfl,rfl⟩,⟨rfl,rfl⟩,⟨rfl,rfl⟩,trivial⟩) he ?_
 rintro fu47 ⟨out9,done10,i11,out12,out13,out14,out15⟩ b hm hi48
 apply vb hm<;>intro _ hm
 obtain⟨e50,hx51,hm⟩:=b5 hm
 refine⟨_,d9 (fun _=>rfl) hx51, ?_⟩
 apply vb hm<;>intro h52 hm
 apply vb hm<;>intro _ hm
 cases hm
 cases hi48
 have hm:=hk46
 cases hm
 exact d0.le (leD.refl _)
 apply vb hm<;>intro _ hm
 apply vb hm<;>intro _ hm
 refine⟨([(⟨c.From,c.No,c.Thing,c.Start,c.Until,false⟩:b4)]:List b4).flatMap b4.c,([(⟨c.From,c.No,c.Thing,c.Start,c.Until,false⟩:b4)]:List b4).length,⟨rfl,rfl⟩, ?_⟩
 obtain⟨hg,hm⟩:=c6 hm
 refine⟨hg,_,_,c9 (c:=b4.c) (l:=(out15:List b4)) (r:=(([(⟨c.From,c.No,c.Thing,c.Start,c.Until,false⟩:b4)]:List b4):List b4)), ?_⟩
 refine⟨([e50]:List b4).flatMap b4.c,([e50]:List b4).length,⟨rfl,rfl⟩, ?_⟩
 obtain⟨hg,hm⟩:=c6 hm
 refine⟨hg,_,_,c9 (c:=b4.c) (l:=((out15++([(⟨c.From,c.No,c.Thing,c.Start,c.Until,false⟩:b4)]:List b4)):List b4)) (r:=(([e50]:List b4):List b4)), ?_⟩
 cases hm
 exact⟨(_,(out9,true,(W (i11+1)),out12,out13,out14,((out15++([(⟨c.From,c.No,c.Thing,c.Start,c.Until,false⟩:b4)]:List b4))++([e50]:List b4)))),c5.of 9 rfl (tA rfl) ⟨hR rfl,hR rfl,hR rfl,hR rfl,hW rfl,hW rfl,hW rfl,hW rfl,hW rfl,trivial⟩,hi48,Nat.lt_succ_self _⟩
 refine VIf.t h52 ?_
 apply vb hm<;>intro _ hm
 refine⟨([(⟨c.From,c.No,c.Thing,c.Start,c.Until,false⟩:b4)]:List b4).flatMap b4.c,([(⟨c.From,c.No,c.Thing,c.Start,c.Until,false⟩:b4)]:List b4).length,⟨rfl,rfl⟩, ?_⟩
 obtain⟨hg,hm⟩:=c6 hm
 refine⟨hg,_,_,c9 (c:=b4.c) (l:=(out15:List b4)) (r:=(([(⟨c.From,c.No,c.Thing,c.Start,c.Until,false⟩:b4)]:List b4):List b4)), ?_⟩
 refine⟨([e50]:List b4).flatMap b4.c,([e50]:List b4).length,⟨rfl,rfl⟩, ?_⟩
 obtain⟨hg,hm⟩:=c6 hm
 refine⟨hg,_,_,c9 (c:=b4.c) (l:=((out15++([(⟨c.From,c.No,c.Thing,c.Start,c.Until,false⟩:b4)]:List b4)):List b4)) (r:=(([e50]:List b4):List b4)), ?_⟩
 cases hm
 exact⟨(_,(out9,true,(W (i11+1)),out12,out13,out14,((out15++([(⟨c.From,c.No,c.Thing,c.Start,c.Until,false⟩:b4)]:List b4))++([e50]:List b4)))),c5.of 9 rfl (tA rfl) ⟨hR rfl,hR rfl,hR rfl,hR rfl,hW rfl,hW rfl,hW rfl,hW rfl,hW rfl,trivial⟩,hi48,Nat.lt_succ_self _⟩
 refine⟨([e50]:List b4).flatMap b4.c,([e50]:List b4).length,⟨rfl,rfl⟩, ?_⟩
 obtain⟨hg,hm⟩:=c6 hm
 refine⟨hg,_,_,c9 (c:=b4.c) (l:=(out15:List b4)) (r:=(([e50]:List b4):List b4)), ?_⟩
 cases hm
 exact⟨(_,(out9,done10,(W (i11+1)),out12,out13,out14,(out15++([e50]:List b4)))),c5.of 9 rfl (tA rfl) ⟨hR rfl,hR rfl,hR rfl,hR rfl,hW rfl,hW rfl,hW rfl,hW rfl,hW rfl,trivial⟩,hi48,Nat.lt_succ_self _⟩
 refine⟨([e50]:List b4).flatMap b4.c,([e50]:List b4).length,⟨rfl,rfl⟩, ?_⟩
 obtain⟨hg,hm⟩:=c6 hm
 refine⟨hg,_,_,c9 (c:=b4.c) (l:=(out15:List b4)) (r:=(([e50]:List b4):List b4)), ?_⟩
 cases hm
 exact⟨(_,(out9,done10,(W (i11+1)),out12,out13,out14,(out15++([e50]:List b4)))),c5.of 9 rfl (tA rfl) ⟨hR rfl,hR rfl,hR rfl,hR rfl,hW rfl,hW rfl,hW rfl,hW rfl,hW rfl,trivial⟩,hi48,Nat.lt_succ_self _⟩
 apply vb hm<;>intro _ hm
 apply vb hm<;>intro _ hm
 refine⟨([(⟨c.From,c.No,c.Thing,c.Start,c.Until,false⟩:b4)]:List b4).flatMap b4.c,([(⟨c.From,c.No,c.Thing,c.Start,c.Until,false⟩:b4)]:List b4).length,⟨rfl,rfl⟩, ?_⟩
 obtain⟨hg,hm⟩:=c6 hm
 refine⟨hg,_,_,c9 (c:=b4.c) (l:=(out15:List b4)) (r:=(([(⟨c.From,c.No,c.Thing,c.Start,c.Until,false⟩:b4)]:List b4):List b4)), ?_⟩
 refine⟨([e50]:List b4).flatMap b4.c,([e50]:List b4).length,⟨rfl,rfl⟩, ?_⟩
 obtain⟨hg,hm⟩:=c6 hm
 refine⟨hg,_,_,c9 (c:=b4.c) (l:=((out15++([(⟨c.From,c.No,c.Thing,c.Start,c.Until,false⟩:b4)]:List b4)):List b4)) (r:=(([e50]:List b4):List b4)), ?_⟩
 cases hm
 exact⟨(_,(out9,true,(W (i11+1)),out12,out13,out14,((out15++([(⟨c.From,c.No,c.Thing,c.Start,c.Until,false⟩:b4)]:List b4))++([e50]:List b4)))),c5.of 9 rfl (tA rfl) ⟨hR rfl,hR rfl,hR rfl,hR rfl,hW rfl,hW rfl,hW rfl,hW rfl,hW rfl,trivial⟩,hi48,Nat.lt_succ_self _⟩
 refine VIf.f h52 ?_
 refine⟨([e50]:List b4).flatMap b4.c,([e50]:List b4).length,⟨rfl,rfl⟩, ?_⟩
 obtain⟨hg,hm⟩:=c6 hm
 refine⟨hg,_,_,c9 (c:=b4.c) (l:=(out15:List b4)) (r:=(([e50]:List b4):List b4)), ?_⟩
 cases hm
 exact⟨(_,(out9,done10,(W (i11+1)),out12,out13,out14,(out15++([e50]:List b4)))),c5.of 9 rfl (tA rfl) ⟨hR rfl,hR rfl,hR rfl,hR rfl,hW rfl,hW rfl,hW rfl,hW rfl,hW rfl,trivial⟩,hi48,Nat.lt_succ_self _⟩
 refine⟨([e50]:List b4).flatMap b4.c,([e50]:List b4).length,⟨rfl,rfl⟩, ?_⟩
 obtain⟨hg,hm⟩:=c6 hm
 refine⟨hg,_,_,c9 (c:=b4.c) (l:=(out15:List b4)) (r:=(([e50]:List b4):List b4)), ?_⟩
 cases hm
 exact⟨(_,(out9,done10,(W (i11+1)),out12,out13,out14,(out15++([e50]:List b4)))),c5.of 9 rfl (tA rfl) ⟨hR rfl,hR rfl,hR rfl,hR rfl,hW rfl,hW rfl,hW rfl,hW rfl,hW rfl,trivial⟩,hi48,Nat.lt_succ_self _⟩
 cases hm
 cases hi48
 have hm:=hk46
 apply vb hm<;>intro _ hm
 refine⟨([(⟨c.From,c.No,c.Thing,c.Start,c.Until,false⟩:b4)]:List b4).flatMap b4.c,([(⟨c.From,c.No,c.Thing,c.Start,c.Until,false⟩:b4)]:List b4).length,⟨rfl,rfl⟩, ?_⟩
 obtain⟨hg,hm⟩:=c6 hm
 refine⟨hg,_,_,c9 (c:=b4.c) (l:=(out15:List b4)) (r:=(([(⟨c.From,c.No,c.Thing,c.Start,c.Until,false⟩:b4)]:List b4):List b4)), ?_⟩
 cases hm
 exact d0.le (leD.refl _)
 cases hm
 exact d0.le (leD.refl _)
def u9 (c:b8) (x8:a6):((List a8)×Int×Int×(List a8)×(List a8)×(List a8))→Option (Sum ((List a8)×Int×Int×(List a8)×(List a8)×(List a8)) ((List a8)×Int×Int×(List a8)×(List a8)×(List a8))):=fun(out906,at_907,i908,out909,out910,out911)=>
 if(decide (i908<(x8.Now.Slots.length:Int)))=true then
  if(decide (at_907<0))=true then
   Option.bind (idx x8.Now.Slots i908) fun e960=>
   Option.bind (idx x8.Now.Slots i908) fun e962=>
   if(decide (e962.Night>c.Night))=true then
    gd ((out911.length+([(⟨c.Night,0,0,0⟩:a8)]:List a8).length)*32≤140737488355328∧out911.length+([(⟨c.Night,0,0,0⟩:a8)]:List a8).length≤9223372036854775807)<|
    Option.bind (idx x8.Now.Slots i908) fun e965=>
    Option.bind (idx x8.Now.Slots i908) fun e967=>
    if(e967.Night==c.Night)=true then
     Option.bind (idx x8.Now.Slots i908) fun e970=>
     Option.bind (idx x8.Now.Slots i908) fun e972=>
     gd (((out911++([(⟨c.Night,0,0,0⟩:a8)]:List a8)).length+([e972]:List a8).length)*32≤140737488355328∧(out911++([(⟨c.Night,0,0,0⟩:a8)]:List a8)).length+([e972]:List a8).length≤9223372036854775807)<|
     some (.inl (out906,((out911++([(⟨c.Night,0,0,0⟩:a8)]:List a8)).length:Int),(W (i908+1)),out909,out910,((out911++([(⟨c.Night,0,0,0⟩:a8)]:List a8))++([e972]:List a8))))
    else
     Option.bind (idx x8.Now.Slots i908) fun e974=>
     Option.bind (idx x8.Now.Slots i908) fun e976=>
     gd (((out911++([(⟨c.Night,0,0,0⟩:a8)]:List a8)).length+([e976]:List a8).length)*32≤140737488355328∧(out911++([(⟨c.Night,0,0,0⟩:a8)]:List a8)).length+([e976]:List a8).length≤9223372036854775807)<|
     some (.inl (out906,(out911.length:Int),(W (i908+1)),out909,out910,((out911++([(⟨c.Night,0,0,0⟩:a8)]:List a8))++([e976]:List a8))))
   else
    Option.bind (idx x8.Now.Slots i908) fun e978=>
    Option.bind (idx x8.Now.Slots i908) fun e980=>
    if(e980.Night==c.Night)=true then
     Option.bind (idx x8.Now.Slots i908) fun e983=>
     Option.bind (idx x8.Now.Slots i908) fun e985=>
     gd ((out911.length+([e985]:List a8).length)*32≤140737488355328∧out911.length+([e985]:List a8).length≤9223372036854775807)<|
     some (.inl (out906,(out911.length:Int),(W (i908+1)),out909,out910,(out911++([e985]:List a8))))
    else
     Option.bind (idx x8.Now.Slots i908) fun e987=>
     Option.bind (idx x8.Now.Slots i908) fun e989=>
     gd ((out911.length+([e989]:List a8).length)*32≤140737488355328∧out911.length+([e989]:List a8).length≤9223372036854775807)<|
     some (.inl (out906,at_907,(W (i908+1)),out909,out910,(out911++([e989]:List a8))))
  else
   Option.bind (idx x8.Now.Slots i908) fun e991=>
   Option.bind (idx x8.Now.Slots i908) fun e993=>
   if(e993.Night==c.Night)=true then
    Option.bind (idx x8.Now.Slots i908) fun e996=>
    Option.bind (idx x8.Now.Slots i908) fun e998=>
    gd ((out911.length+([e998]:List a8).length)*32≤140737488355328∧out911.length+([e998]:List a8).length≤9223372036854775807)<|
    some (.inl (out906,(out911.length:Int),(W (i908+1)),out909,out910,(out911++([e998]:List a8))))
   else
    Option.bind (idx x8.Now.Slots i908) fun e1000=>
    Option.bind (idx x8.Now.Slots i908) fun e1002=>
    gd ((out911.length+([e1002]:List a8).length)*32≤140737488355328∧out911.length+([e1002]:List a8).length≤9223372036854775807)<|
    some (.inl (out906,at_907,(W (i908+1)),out909,out910,(out911++([e1002]:List a8))))
 else
  some (.inr (out906,at_907,i908,out909,out910,out911))
def W7 (c:b8) (x8:a6):Option ((List a8)×Int):=
 Option.bind (l8 (u9 c x8) ([],(-1),0, [], [], [])) fun(out1004,at_1005,i1006,out1007,out1008,out1009)=>
 if(decide (at_1005<0))=true then
  gd ((out1009.length+([(⟨c.Night,0,0,0⟩:a8)]:List a8).length)*32≤140737488355328∧out1009.length+([(⟨c.Night,0,0,0⟩:a8)]:List a8).length≤9223372036854775807)<|
  some ((out1009++([(⟨c.Night,0,0,0⟩:a8)]:List a8)),(out1009.length:Int))
 else
  some (out1009,at_1005)
def T0 (c:b8):(Int×(List b9))→Option (Sum (Int×(List b9)) (Int×(List b9))):=fun(i1814,v1815)=>
 if(decide (i1814<(v1815.length:Int)))=true then
  Option.bind (idx v1815 i1814) fun e1843=>
  Option.bind (idx v1815 i1814) fun e1845=>
  if(e1845.Night !=c.Night)=true then
   some (.inl ((W (i1814+1)),v1815))
  else
   if(e1845.Ballot !=c.Ballot)=true then
    some (.inl ((W (i1814+1)),v1815))
   else
    if e1845.Asked=true then
     some (.inl ((W (i1814+1)),v1815))
    else
     Option.bind (M6 c.From) fun x1850=>
     if((W ((BitVec.ofInt IntKind.i64.bits e1845.Mask&&&BitVec.ofInt IntKind.i64.bits x1850).toNat:Int)) !=0)=true then
      some (.inl ((W (i1814+1)),v1815))
     else
      Option.bind (M6 c.From) fun x1853=>
      if(decide (c.Best>e1845.Best))=true then
       Option.bind (J9 (W ((BitVec.ofInt IntKind.i64.bits e1845.Mask|||BitVec.ofInt IntKind.i64.bits x1853).toNat:Int))) fun x1856=>
       Option.bind (idx v1815 i1814) fun e1858=>
       Option.bind (idx v1815 i1814) fun e1860=>
       some (.inl ((W (i1814+1)),(v1815.set i1814.toNat (⟨e1845.Night,e1845.Ballot,c.Value,c.Best,(W ((BitVec.ofInt IntKind.i64.bits e1845.Mask|||BitVec.ofInt IntKind.i64.bits x1853).toNat:Int)),x1856⟩:b9))))
      else
       Option.bind (J9 (W ((BitVec.ofInt IntKind.i64.bits e1845.Mask|||BitVec.ofInt IntKind.i64.bits x1853).toNat:Int))) fun x1862=>
       Option.bind (idx v1815 i1814) fun e1864=>
       Option.bind (idx v1815 i1814) fun e1866=>
       some (.inl ((W (i1814+1)),(v1815.set i1814.toNat (⟨e1845.Night,e1845.Ballot,e1845.Value,e1845.Best,(W ((BitVec.ofInt IntKind.i64.bits e1845.Mask|||BitVec.ofInt IntKind.i64.bits x1853).toNat:Int)),x1862⟩:b9))))
 else
  some (.inr (i1814,v1815))
def U1 (c:b8):(Int×(List b6))→Option (Sum (Int×(List b6)) (Int×(List b6))):=fun(i1920,v1921)=>
 if(decide (i1920<(v1921.length:Int)))=true then
  Option.bind (idx v1921 i1920) fun e1935=>
  Option.bind (idx v1921 i1920) fun e1937=>
  if(e1937.No==c.No)=true then
   if(e1937.Thing==c.Thing)=true then
    if(e1937.To==c.From)=true then
     Option.bind (idx v1921 i1920) fun e1942=>
     Option.bind (idx v1921 i1920) fun e1944=>
     some (.inl ((W (i1920+1)),(v1921.set i1920.toNat (⟨e1944.No,e1944.Thing,e1944.To,e1944.From,(if(if e1937.From>c.Until then e1937.From else c.Until)<e1937.Until then(if e1937.From>c.Until then e1937.From else c.Until)else e1937.Until)⟩:b6))))
    else
     some (.inl ((W (i1920+1)),v1921))
   else
    some (.inl ((W (i1920+1)),v1921))
  else
   some (.inl ((W (i1920+1)),v1921))
 else
  some (.inr (i1920,v1921))
def a7k (c:b8) (x8:a6):Option (Sum ((List a8)×Int×Bool) (Sum ((List b9)×(List b6)×Int) ((List a8)×(List b9)×(List a7)×(List b6)×(List b4)×Int×(List a8)×(List b9)×(List a7)×(List b6)×(List b4)×Bool))):=
 if(c.Kind==1)=true then
  Option.bind (W7 c x8) fun⟨v872,x873⟩=>
  Option.bind (idx v872 x873) fun e1064=>
  Option.bind (idx v872 x873) fun e1066=>
  Option.bind (idx v872 x873) fun e1068=>
  Option.bind (idx v872 x873) fun e1070=>
  some (.inl ((v872.set x873.toNat (⟨e1070.Night,(if c.Ballot>e1066.Promised then c.Ballot else e1066.Promised),e1070.Ballot,e1070.Value⟩:a8)),x8.Now.Round,(decide ((v872.length:Int)≤12))))
 else
  if(c.Kind==3)=true then
   Option.bind (W7 c x8) fun⟨v1398,x1399⟩=>
   Option.bind (idx v1398 x1399) fun e1590=>
   Option.bind (idx v1398 x1399) fun e1592=>
   if(decide (c.Ballot≥e1592.Promised))=true then
    Option.bind (idx v1398 x1399) fun e1595=>
    Option.bind (idx v1398 x1399) fun e1597=>
    some (.inl ((v1398.set x1399.toNat (⟨c.Night,c.Ballot,c.Ballot,c.Value⟩:a8)),x8.Now.Round,(decide ((v1398.length:Int)≤12))))
   else
    some (.inl (v1398,x8.Now.Round,(decide ((v1398.length:Int)≤12))))
  else
   if(c.Kind==2)=true then
    Option.bind (l8 (T0 c) (0,x8.Now.Bids)) fun(i1868,v1869)=>
    some (.inr (.inl (v1869,x8.Now.Leases,x8.Now.Round)))
   else
    if(c.Kind==4)=true then
     Option.bind (a4h x8.Now c) fun⟨x1901,x1902⟩=>
     some (.inr (.inr (x8.Now.Slots,x8.Now.Bids,x8.Now.Heard,x8.Now.Leases,x8.Now.Loans,x1901.Round,x1901.Slots,x1901.Bids,x1901.Heard,x1901.Leases,x1901.Loans,x1902)))
    else
     if(c.Kind==5)=true then
      Option.bind (a2A x8.Now c) fun⟨x1905,x1906⟩=>
      some (.inr (.inr (x8.Now.Slots,x8.Now.Bids,x8.Now.Heard,x8.Now.Leases,x8.Now.Loans,x1905.Round,x1905.Slots,x1905.Bids,x1905.Heard,x1905.Leases,x1905.Loans,x1906)))
     else
      Option.bind (l8 (U1 c) (0,x8.Now.Leases)) fun(i1946,v1947)=>
      some (.inr (.inl (x8.Now.Bids,v1947,x8.Now.Round)))
def a5c (x:a6) (c:b8):Option (a6×Int):=
 Option.bind (a0a x) fun x1=>
 if(x1 !=0)=true then
  some ((⟨0,(⟨0, [], [], [], [], []⟩:b7),(⟨0, [], [], [], [], []⟩:b7)⟩:a6),90)
 else
  Option.bind (a0O c) fun x4=>
  if(x4 !=0)=true then
   some ((⟨0,(⟨0, [], [], [], [], []⟩:b7),(⟨0, [], [], [], [], []⟩:b7)⟩:a6),91)
  else
   if(c.To !=x.Me)=true then
    some ((⟨0,(⟨0, [], [], [], [], []⟩:b7),(⟨0, [], [], [], [], []⟩:b7)⟩:a6),91)
   else
    Option.bind (N9 x) fun x8=>
    Option.bind (a7k c x8) fun e=>
    match e with
    | .inl (v716,x717,x718)=>
     if(!x718)=true then
      some ((⟨0,(⟨0, [], [], [], [], []⟩:b7),(⟨0, [], [], [], [], []⟩:b7)⟩:a6),2)
     else
      some ((⟨x8.Me,(⟨x717,v716,x8.Now.Bids,x8.Now.Heard,x8.Now.Leases,x8.Now.Loans⟩:b7),x8.Safe⟩:a6),0)
    | .inr (.inl (v719,v720,x721))=>
     some ((⟨x8.Me,(⟨x721,x8.Now.Slots,v719,x8.Now.Heard,v720,x8.Now.Loans⟩:b7),x8.Safe⟩:a6),0)
    | .inr (.inr (x722,x723,x724,x725,x726,x727,x728,x729,x730,x731,x732,x733))=>
     if(!x733)=true then
      some ((⟨0,(⟨0, [], [], [], [], []⟩:b7),(⟨0, [], [], [], [], []⟩:b7)⟩:a6),2)
     else
      some ((⟨x8.Me,(⟨x727,x728,x729,x730,x731,x732⟩:b7),x8.Safe⟩:a6),0)
theorem b6X (x:a6) (c:b8) (r:(a6×Int)) (hm:a5c x c=some r):d7 Tryz.prog 38 [.agg (a6.c x), .agg (b8.c c)] (fun x=>x= .tup [.agg (a6.c r.1),DI r.2]):=by
 refine zy [] [99,106,149,210,211,220] [90] [97,160] Tryz.func38 rfl ?_
 refine cy hm (a4o x) fun x1 hm=> ?_
 apply vb hm<;>intro _ hm
 cases hm
 exact d0.le (⟨_,rfl,⟨⟨_,rfl,⟨leD.refl _,leD.refl _,leD.nil,leD.nil,leD.nil,leD.nil,leD.nil,leD.refl _,leD.nil,leD.nil,leD.nil,leD.nil,leD.nil,trivial⟩⟩,leD.refl _,trivial⟩⟩)
 refine cy hm (b0x c) fun x4 hm=> ?_
 apply vb hm<;>intro _ hm
 cases hm
 exact d0.le (⟨_,rfl,⟨⟨_,rfl,⟨leD.refl _,leD.refl _,leD.nil,leD.nil,leD.nil,leD.nil,leD.nil,leD.refl _,leD.nil,leD.nil,leD.nil,leD.nil,leD.nil,trivial⟩⟩,leD.refl _,trivial⟩⟩)
 apply vb hm<;>intro _ hm
 cases hm
 exact d0.le (⟨_,rfl,⟨⟨_,rfl,⟨leD.refl _,leD.refl _,leD.nil,leD.nil,leD.nil,leD.nil,leD.nil,leD.refl _,leD.nil,leD.nil,leD.nil,leD.nil,leD.nil,trivial⟩⟩,leD.refl _,trivial⟩⟩)
 obtain⟨x8,hx9,hm⟩:=b5 hm
 refine .inr (a3F.mk ⟨_,_,a3u x _ hx9, ?_⟩)
 obtain⟨ev1964,he1965,hm⟩:=b5 hm
 refine K1.ofZ pok ⟨[(0, .agg [DI x8.Now.Round, .row 3 4, .row 4 6, .row 5 4, .row 6 5, .row 7 6]),(1, .agg (b8.c c)),(1000000, .agg (a6.c x)),(1000001, .agg (b8.c c)),(1000002, .own 0 0),(1000003, .own 1 0),(1000004, .own 2 0),(1000005,DI 0),(1000006, .own 13 0),(1000011,DB (x1 !=0)),(1000022,DB (c.To !=x.Me))], [(0, .blk (a6.c x) 30),(1, .blk (b8.c c) 42),(2, .blk [DI 0,DI 0,nS,nS,nS,nS,nS,DI 0,nS,nS,nS,nS,nS] 30),(3,rE 4 x8.Now.Slots a8.c 110),(4,rE 6 x8.Now.Bids b9.c 108),(5,rE 4 x8.Now.Heard a7.c 149),(6,rE 5 x8.Now.Leases b6.c 112),(7,rE 6 x8.Now.Loans b4.c 114),(8,rE 4 x8.Safe.Slots a8.c 110),(9,rE 6 x8.Safe.Bids b9.c 108),(10,rE 4 x8.Safe.Heard a7.c 149),(11,rE 5 x8.Safe.Leases b6.c 112),(12,rE 6 x8.Safe.Loans b4.c 114),(13, .blk [DI x8.Me,DI x8.Now.Round, .row 3 4, .row 4 6, .row 5 4, .row 6 5, .row 7 6,DI x8.Safe.Round, .row 8 4, .row 9 6, .row 10 4, .row 11 5, .row 12 6] 30)],14⟩ (match ev1964 with| .inl (v716,x717,x718)=>(⟨[(0, .agg (a6.c x)),(1, .agg (b8.c c)),(2, .own 0 0),(3, .own 1 0),(4, .own 2 0),(5,DI 0),(6, .own 13 0),(11,DB (x1 !=0)),(22,DB (c.To !=x.Me)),(30, .tup [.agg [DI x717, .row 20 4, .row 4 6, .row 5 4, .row 6 5, .row 7 6],DB x718])], [(0, .blk (a6.c x) 30),(1, .blk (b8.c c) 42),(2, .blk [DI 0,DI 0,nS,nS,nS,nS,nS,DI 0,nS,nS,nS,nS,nS] 30),(3,rE 4 x8.Now.Slots a8.c 110),(4,rE 6 x8.Now.Bids b9.c 108),(5,rE 4 x8.Now.Heard a7.c 149),(6,rE 5 x8.Now.Leases b6.c 112),(7,rE 6 x8.Now.Loans b4.c 114),(8,rE 4 x8.Safe.Slots a8.c 110),(9,rE 6 x8.Safe.Bids b9.c 108),(10,rE 4 x8.Safe.Heard a7.c 149),(11,rE 5 x8.Safe.Leases b6.c 112),(12,rE 6 x8.Safe.Loans b4.c 114),(13, .blk [DI x8.Me,DI x8.Now.Round, .row 3 4, .row 4 6, .row 5 4, .row 6 5, .row 7 6,DI x8.Safe.Round, .row 8 4, .row 9 6, .row 10 4, .row 11 5, .row 12 6] 30),(20,rE 4 v716 a8.c 110)],21⟩:Sy)| .inr (.inl (v719,v720,x721))=>(⟨[(0, .agg (a6.c x)),(1, .agg (b8.c c)),(2, .own 0 0),(3, .own 1 0),(4, .own 2 0),(5,DI 0),(6, .own 13 0),(11,DB (x1 !=0)),(22,DB (c.To !=x.Me)),(30, .tup [.agg [DI x721, .row 3 4, .row 4 6, .row 5 4, .row 6 5, .row 7 6],DB true])], [(0, .blk (a6.c x) 30),(1, .blk (b8.c c) 42),(2, .blk [DI 0,DI 0,nS,nS,nS,nS,nS,DI 0,nS,nS,nS,nS,nS] 30),(3,rE 4 x8.Now.Slots a8.c 110),(4,rE 6 v719 b9.c 108),(5,rE 4 x8.Now.Heard a7.c 149),(6,rE 5 v720 b6.c 112),(7,rE 6 x8.Now.Loans b4.c 114),(8,rE 4 x8.Safe.Slots a8.c 110),(9,rE 6 x8.Safe.Bids b9.c 108),(10,rE 4 x8.Safe.Heard a7.c 149),(11,rE 5 x8.Safe.Leases b6.c 112),(12,rE 6 x8.Safe.Loans b4.c 114),(13, .blk [DI x8.Me,DI x8.Now.Round, .row 3 4, .row 4 6, .row 5 4, .row 6 5, .row 7 6,DI x8.Safe.Round, .row 8 4, .row 9 6, .row 10 4, .row 11 5, .row 12 6] 30)],14⟩:Sy)| .inr (.inr (x722,x723,x724,x725,x726,x727,x728,x729,x730,x731,x732,x733))=>(⟨[(0, .agg (a6.c x)),(1, .agg (b8.c c)),(2, .own 0 0),(3, .own 1 0),(4, .own 2 0),(5,DI 0),(6, .own 13 0),(11,DB (x1 !=0)),(22,DB (c.To !=x.Me)),(30, .tup [.agg [DI x727,lD 4 x728 a8.c,lD 6 x729 b9.c,lD 4 x730 a7.c,lD 5 x731 b6.c,lD 6 x732 b4.c],DB x733])], [(0, .blk (a6.c x) 30),(1, .blk (b8.c c) 42),(2, .blk [DI 0,DI 0,nS,nS,nS,nS,nS,DI 0,nS,nS,nS,nS,nS] 30),(8,rE 4 x8.Safe.Slots a8.c 110),(9,rE 6 x8.Safe.Bids b9.c 108),(10,rE 4 x8.Safe.Heard a7.c 149),(11,rE 5 x8.Safe.Leases b6.c 112),(12,rE 6 x8.Safe.Loans b4.c 114),(13, .blk [DI x8.Me,DI x8.Now.Round,lD 4 x722 a8.c,lD 6 x723 b9.c,lD 4 x724 a7.c,lD 5 x725 b6.c,lD 6 x726 b4.c,DI x8.Safe.Round, .row 8 4, .row 9 6, .row 10 4, .row 11 5, .row 12 6] 30)],14⟩:Sy):Sy) c6o [99,106,149,210,211,220] [90] [97,160] Tryz.func97 rfl rfl rfl (c5.of 14 rfl (tA rfl) ⟨hR rfl,hR rfl,hR rfl,hW rfl,hW rfl,hW rfl,hW rfl,hW rfl,hW rfl,hW rfl,hW rfl,hW rfl,hW rfl,hR rfl,trivial⟩) (fun sv=> ?_) ?_
 have hm:=he1965
 apply vb hm<;>intro h1968 hm
 refine VIf.t h1968 ?_
 obtain⟨ev2296,he2297,hm⟩:=b5 hm
 refine K1.ofZ pok ⟨[(0, .row 3 4),(1,DI c.Night),(1000000, .agg [DI x8.Now.Round, .row 3 4, .row 4 6, .row 5 4, .row 6 5, .row 7 6]),(1000001, .agg (b8.c c)),(1000002, .own 14 0),(1000003, .own 15 0),(1000004, .own 16 0),(1000005,DB false),(1000013,DI c.Kind),(1000014,DB (c.Kind==1)),(1000192, .agg (a6.c x)),(1000193, .agg (b8.c c)),(1000194, .own 0 0),(1000195, .own 1 0),(1000196, .own 2 0),(1000197,DI 0),(1000198, .own 13 0),(1000203,DB (x1 !=0)),(1000214,DB (c.To !=x.Me))], [(0, .blk (a6.c x) 30),(1, .blk (b8.c c) 42),(2, .blk [DI 0,DI 0,nS,nS,nS,nS,nS,DI 0,nS,nS,nS,nS,nS] 30),(3,rE 4 x8.Now.Slots a8.c 110),(4,rE 6 x8.Now.Bids b9.c 108),(5,rE 4 x8.Now.Heard a7.c 149),(6,rE 5 x8.Now.Leases b6.c 112),(7,rE 6 x8.Now.Loans b4.c 114),(8,rE 4 x8.Safe.Slots a8.c 110),(9,rE 6 x8.Safe.Bids b9.c 108),(10,rE 4 x8.Safe.Heard a7.c 149),(11,rE 5 x8.Safe.Leases b6.c 112),(12,rE 6 x8.Safe.Loans b4.c 114),(13, .blk [DI x8.Me,DI x8.Now.Round, .row 3 4, .row 4 6, .row 5 4, .row 6 5, .row 7 6,DI x8.Safe.Round, .row 8 4, .row 9 6, .row 10 4, .row 11 5, .row 12 6] 30),(14, .blk [DI x8.Now.Round, .row 3 4, .row 4 6, .row 5 4, .row 6 5, .row 7 6] 28),(15, .blk (b8.c c) 42),(16, .blk [DI 0,nS,nS,nS,nS,nS] 28)],17⟩ (match ev2296 with|(v2106,x2107)=>(⟨[(0, .agg [DI x8.Now.Round, .row 3 4, .row 4 6, .row 5 4, .row 6 5, .row 7 6]),(1, .agg (b8.c c)),(2, .own 14 0),(3, .own 15 0),(4, .own 16 0),(5,DB false),(13,DI c.Kind),(14,DB (c.Kind==1)),(22, .tup [DI x2107, .row 20 4]),(1000000, .agg (a6.c x)),(1000001, .agg (b8.c c)),(1000002, .own 0 0),(1000003, .own 1 0),(1000004, .own 2 0),(1000005,DI 0),(1000006, .own 13 0),(1000011,DB (x1 !=0)),(1000022,DB (c.To !=x.Me))], [(0, .blk (a6.c x) 30),(1, .blk (b8.c c) 42),(2, .blk [DI 0,DI 0,nS,nS,nS,nS,nS,DI 0,nS,nS,nS,nS,nS] 30),(3,rE 4 x8.Now.Slots a8.c 110),(4,rE 6 x8.Now.Bids b9.c 108),(5,rE 4 x8.Now.Heard a7.c 149),(6,rE 5 x8.Now.Leases b6.c 112),(7,rE 6 x8.Now.Loans b4.c 114),(8,rE 4 x8.Safe.Slots a8.c 110),(9,rE 6 x8.Safe.Bids b9.c 108),(10,rE 4 x8.Safe.Heard a7.c 149),(11,rE 5 x8.Safe.Leases b6.c 112),(12,rE 6 x8.Safe.Loans b4.c 114),(13, .blk [DI x8.Me,DI x8.Now.Round, .row 3 4, .row 4 6, .row 5 4, .row 6 5, .row 7 6,DI x8.Safe.Round, .row 8 4, .row 9 6, .row 10 4, .row 11 5, .row 12 6] 30),(14, .blk [DI x8.Now.Round, .row 3 4, .row 4 6, .row 5 4, .row 6 5, .row 7 6] 28),(15, .blk (b8.c c) 42),(16, .blk [DI 0,nS,nS,nS,nS,nS] 28),(20,rE 4 v2106 a8.c 110)],21⟩:Sy):Sy) [] [99,106,149,210,211,220] [90] [97,160] Tryz.func160 rfl rfl rfl (c5.of 17 rfl (tA rfl) ⟨hR rfl,hR rfl,hR rfl,hW rfl,hW rfl,hW rfl,hW rfl,hW rfl,hW rfl,hW rfl,hW rfl,hW rfl,hW rfl,hR rfl,hR rfl,hR rfl,hR rfl,trivial⟩) (fun sv=> ?_) ?_
 have hm:=he2297
 obtain⟨ev2443,he,hk2444⟩:=b5 hm
 refine u4.ofL (u9 c x8) (fun(out2338,at_2339,i2340,out2341,out2342,out2343)=>⟨[(0, .row 3 4),(1,DI c.Night),(4,DI 0),(5,nS),(6, .row 20 4),(7,DI at_2339),(8,DI i2340),(1000000, .agg [DI x8.Now.Round, .row 3 4, .row 4 6, .row 5 4, .row 6 5, .row 7 6]),(1000001, .agg (b8.c c)),(1000002, .own 14 0),(1000003, .own 15 0),(1000004, .own 16 0),(1000005,DB false),(1000013,DI c.Kind),(1000014,DB (c.Kind==1)),(1000192, .agg (a6.c x)),(1000193, .agg (b8.c c)),(1000194, .own 0 0),(1000195, .own 1 0),(1000196, .own 2 0),(1000197,DI 0),(1000198, .own 13 0),(1000203,DB (x1 !=0)),(1000214,DB (c.To !=x.Me))], [(0, .blk (a6.c x) 30),(1, .blk (b8.c c) 42),(2, .blk [DI 0,DI 0,nS,nS,nS,nS,nS,DI 0,nS,nS,nS,nS,nS] 30),(3,rE 4 x8.Now.Slots a8.c 110),(4,rE 6 x8.Now.Bids b9.c 108),(5,rE 4 x8.Now.Heard a7.c 149),(6,rE 5 x8.Now.Leases b6.c 112),(7,rE 6 x8.Now.Loans b4.c 114),(8,rE 4 x8.Safe.Slots a8.c 110),(9,rE 6 x8.Safe.Bids b9.c 108),(10,rE 4 x8.Safe.Heard a7.c 149),(11,rE 5 x8.Safe.Leases b6.c 112),(12,rE 6 x8.Safe.Loans b4.c 114),(13, .blk [DI x8.Me,DI x8.Now.Round, .row 3 4, .row 4 6, .row 5 4, .row 6 5, .row 7 6,DI x8.Safe.Round, .row 8 4, .row 9 6, .row 10 4, .row 11 5, .row 12 6] 30),(14, .blk [DI x8.Now.Round, .row 3 4, .row 4 6, .row 5 4, .row 6 5, .row 7 6] 28),(15, .blk (b8.c c) 42),(16, .blk [DI 0,nS,nS,nS,nS,nS] 28),(17,rE 4 out2338 a8.c 110),(18,rE 4 out2341 a8.c 110),(19,rE 4 out2342 a8.c 110),(20,rE 4 out2343 a8.c 110)],21⟩) ([],(-1),0, [], [], []) (c5.of 17 rfl (tA rfl) ⟨hR rfl,hR rfl,hR rfl,hW rfl,hW rfl,hW rfl,hW rfl,hW rfl,hW rfl,hW rfl,hW rfl,hW rfl,hW rfl,hR rfl,hR rfl,hR rfl,hR rfl,⟨rfl,rfl⟩,⟨rfl,rfl⟩,⟨rfl,rfl⟩,⟨rfl,rfl⟩,trivial⟩) he ?_
 rintro fu2445 ⟨out2338,at_2339,i2340,out2341,out2342,out2343⟩ b hm hi2446
 apply vb hm<;>intro _ hm
 apply vb hm<;>intro _ hm
 obtain⟨e2449,hx2450,hm⟩:=b5 hm
 refine⟨z7 hx2450, ?_⟩
 obtain⟨e2451,hx2452,hm⟩:=b5 hm
 refine⟨_,r7 (fun _=>rfl) hx2452, ?_⟩
 apply vb hm<;>intro _ hm
 refine⟨([(⟨c.Night,0,0,0⟩:a8)]:List a8).flatMap a8.c,([(⟨c.Night,0,0,0⟩:a8)]:List a8).length,⟨rfl,rfl⟩, ?_⟩
 obtain⟨hg,hm⟩:=c6 hm
 refine⟨hg,_,_,c9 (c:=a8.c) (l:=(out2343:List a8)) (r:=(([(⟨c.Night,0,0,0⟩:a8)]:List a8):List a8)), ?_⟩
 obtain⟨e2454,hx2455,hm⟩:=b5 hm
 refine⟨z7 hx2455, ?_⟩
 obtain⟨e2456,hx2457,hm⟩:=b5 hm
 refine⟨_,r7 (fun _=>rfl) hx2457, ?_⟩
 apply vb hm<;>intro _ hm
 obtain⟨e2459,hx2460,hm⟩:=b5 hm
 refine⟨z7 hx2460, ?_⟩
 obtain⟨e2461,hx2462,hm⟩:=b5 hm
 refine⟨_,r7 (fun _=>rfl) hx2462, ?_⟩
 refine⟨([e2461]:List a8).flatMap a8.c,([e2461]:List a8).length,⟨rfl,rfl⟩, ?_⟩
 obtain⟨hg,hm⟩:=c6 hm
 refine⟨hg,_,_,c9 (c:=a8.c) (l:=((out2343++([(⟨c.Night,0,0,0⟩:a8)]:List a8)):List a8)) (r:=(([e2461]:List a8):List a8)), ?_⟩
 cases hm
 exact⟨(_,(out2338,((out2343++([(⟨c.Night,0,0,0⟩:a8)]:List a8)).length:Int),(W (i2340+1)),out2341,out2342,((out2343++([(⟨c.Night,0,0,0⟩:a8)]:List a8))++([e2461]:List a8)))),c5.of 21 rfl (tA rfl) ⟨hR rfl,hR rfl,hR rfl,hW rfl,hW rfl,hW rfl,hW rfl,hW rfl,hW rfl,hW rfl,hW rfl,hW rfl,hW rfl,hR rfl,hR rfl,hR rfl,hR rfl,hW rfl,hW rfl,hW rfl,hW rfl,trivial⟩,hi2446,Nat.lt_succ_self _⟩
 obtain⟨e2463,hx2464,hm⟩:=b5 hm
 refine⟨z7 hx2464, ?_⟩
 obtain⟨e2465,hx2466,hm⟩:=b5 hm
 refine⟨_,r7 (fun _=>rfl) hx2466, ?_⟩
 refine⟨([e2465]:List a8).flatMap a8.c,([e2465]:List a8).length,⟨rfl,rfl⟩, ?_⟩
 obtain⟨hg,hm⟩:=c6 hm
 refine⟨hg,_,_,c9 (c:=a8.c) (l:=((out2343++([(⟨c.Night,0,0,0⟩:a8)]:List a8)):List a8)) (r:=(([e2465]:List a8):List a8)), ?_⟩
 cases hm
 exact⟨(_,(out2338,(out2343.length:Int),(W (i2340+1)),out2341,out2342,((out2343++([(⟨c.Night,0,0,0⟩:a8)]:List a8))++([e2465]:List a8)))),c5.of 21 rfl (tA rfl) ⟨hR rfl,hR rfl,hR rfl,hW rfl,hW rfl,hW rfl,hW rfl,hW rfl,hW rfl,hW rfl,hW rfl,hW rfl,hW rfl,hR rfl,hR rfl,hR rfl,hR rfl,hW rfl,hW rfl,hW rfl,hW rfl,trivial⟩,hi2446,Nat.lt_succ_self _⟩
 obtain⟨e2467,hx2468,hm⟩:=b5 hm
 refine⟨z7 hx2468, ?_⟩
 obtain⟨e2469,hx2470,hm⟩:=b5 hm
 refine⟨_,r7 (fun _=>rfl) hx2470, ?_⟩
 apply vb hm<;>intro _ hm
 obtain⟨e2472,hx2473,hm⟩:=b5 hm
 refine⟨z7 hx2473, ?_⟩
 obtain⟨e2474,hx2475,hm⟩:=b5 hm
 refine⟨_,r7 (fun _=>rfl) hx2475, ?_⟩
 refine⟨([e2474]:List a8).flatMap a8.c,([e2474]:List a8).length,⟨rfl,rfl⟩, ?_⟩
 obtain⟨hg,hm⟩:=c6 hm
 refine⟨hg,_,_,c9 (c:=a8.c) (l:=(out2343:List a8)) (r:=(([e2474]:List a8):List a8)), ?_⟩
 cases hm
 exact⟨(_,(out2338,(out2343.length:Int),(W (i2340+1)),out2341,out2342,(out2343++([e2474]:List a8)))),c5.of 21 rfl (tA rfl) ⟨hR rfl,hR rfl,hR rfl,hW rfl,hW rfl,hW rfl,hW rfl,hW rfl,hW rfl,hW rfl,hW rfl,hW rfl,hW rfl,hR rfl,hR rfl,hR rfl,hR rfl,hW rfl,hW rfl,hW rfl,hW rfl,trivial⟩,hi2446,Nat.lt_succ_self _⟩
 obtain⟨e2476,hx2477,hm⟩:=b5 hm
 refine⟨z7 hx2477, ?_⟩
 obtain⟨e2478,hx2479,hm⟩:=b5 hm
 refine⟨_,r7 (fun _=>rfl) hx2479, ?_⟩
 refine⟨([e2478]:List a8).flatMap a8.c,([e2478]:List a8).length,⟨rfl,rfl⟩, ?_⟩
 obtain⟨hg,hm⟩:=c6 hm
 refine⟨hg,_,_,c9 (c:=a8.c) (l:=(out2343:List a8)) (r:=(([e2478]:List a8):List a8)), ?_⟩
 cases hm
 exact⟨(_,(out2338,at_2339,(W (i2340+1)),out2341,out2342,(out2343++([e2478]:List a8)))),c5.of 21 rfl (tA rfl) ⟨hR rfl,hR rfl,hR rfl,hW rfl,hW rfl,hW rfl,hW rfl,hW rfl,hW rfl,hW rfl,hW rfl,hW rfl,hW rfl,hR rfl,hR rfl,hR rfl,hR rfl,hW rfl,hW rfl,hW rfl,hW rfl,trivial⟩,hi2446,Nat.lt_succ_self _⟩
 obtain⟨e2480,hx2481,hm⟩:=b5 hm
 refine⟨z7 hx2481, ?_⟩
 obtain⟨e2482,hx2483,hm⟩:=b5 hm
 refine⟨_,r7 (fun _=>rfl) hx2483, ?_⟩
 apply vb hm<;>intro _ hm
 obtain⟨e2485,hx2486,hm⟩:=b5 hm
 refine⟨z7 hx2486, ?_⟩
 obtain⟨e2487,hx2488,hm⟩:=b5 hm
 refine⟨_,r7 (fun _=>rfl) hx2488, ?_⟩
 refine⟨([e2487]:List a8).flatMap a8.c,([e2487]:List a8).length,⟨rfl,rfl⟩, ?_⟩
 obtain⟨hg,hm⟩:=c6 hm
 refine⟨hg,_,_,c9 (c:=a8.c) (l:=(out2343:List a8)) (r:=(([e2487]:List a8):List a8)), ?_⟩
 cases hm
 exact⟨(_,(out2338,(out2343.length:Int),(W (i2340+1)),out2341,out2342,(out2343++([e2487]:List a8)))),c5.of 21 rfl (tA rfl) ⟨hR rfl,hR rfl,hR rfl,hW rfl,hW rfl,hW rfl,hW rfl,hW rfl,hW rfl,hW rfl,hW rfl,hW rfl,hW rfl,hR rfl,hR rfl,hR rfl,hR rfl,hW rfl,hW rfl,hW rfl,hW rfl,trivial⟩,hi2446,Nat.lt_succ_self _⟩
 obtain⟨e2489,hx2490,hm⟩:=b5 hm
 refine⟨z7 hx2490, ?_⟩
 obtain⟨e2491,hx2492,hm⟩:=b5 hm
 refine⟨_,r7 (fun _=>rfl) hx2492, ?_⟩
 refine⟨([e2491]:List a8).flatMap a8.c,([e2491]:List a8).length,⟨rfl,rfl⟩, ?_⟩
 obtain⟨hg,hm⟩:=c6 hm
 refine⟨hg,_,_,c9 (c:=a8.c) (l:=(out2343:List a8)) (r:=(([e2491]:List a8):List a8)), ?_⟩
 cases hm
 exact⟨(_,(out2338,at_2339,(W (i2340+1)),out2341,out2342,(out2343++([e2491]:List a8)))),c5.of 21 rfl (tA rfl) ⟨hR rfl,hR rfl,hR rfl,hW rfl,hW rfl,hW rfl,hW rfl,hW rfl,hW rfl,hW rfl,hW rfl,hW rfl,hW rfl,hR rfl,hR rfl,hR rfl,hR rfl,hW rfl,hW rfl,hW rfl,hW rfl,trivial⟩,hi2446,Nat.lt_succ_self _⟩
 cases hm
 cases hi2446
 have hm:=hk2444
 apply vb hm<;>intro _ hm
 refine⟨([(⟨c.Night,0,0,0⟩:a8)]:List a8).flatMap a8.c,([(⟨c.Night,0,0,0⟩:a8)]:List a8).length,⟨rfl,rfl⟩, ?_⟩
 obtain⟨hg,hm⟩:=c6 hm
 refine⟨hg,_,_,c9 (c:=a8.c) (l:=(out2343:List a8)) (r:=(([(⟨c.Night,0,0,0⟩:a8)]:List a8):List a8)), ?_⟩
 cases hm
 exact c5.of 21 rfl (tA rfl) ⟨hR rfl,hR rfl,hR rfl,hW rfl,hW rfl,hW rfl,hW rfl,hW rfl,hW rfl,hW rfl,hW rfl,hW rfl,hW rfl,hR rfl,hR rfl,hR rfl,hR rfl,hW rfl,trivial⟩
 cases hm
 exact c5.of 21 rfl (tA rfl) ⟨hR rfl,hR rfl,hR rfl,hW rfl,hW rfl,hW rfl,hW rfl,hW rfl,hW rfl,hW rfl,hW rfl,hW rfl,hW rfl,hR rfl,hR rfl,hR rfl,hR rfl,hW rfl,trivial⟩
 obtain⟨v2106,x2107⟩:=ev2296
 refine VIf.t h1968 ?_
 refine⟨rfl, ?_⟩
 obtain⟨e2298,hx2299,hm⟩:=b5 hm
 refine⟨z7 hx2299, ?_⟩
 obtain⟨e2300,hx2301,hm⟩:=b5 hm
 refine⟨_,r7 (fun _=>rfl) hx2301, ?_⟩
 obtain⟨e2302,hx2303,hm⟩:=b5 hm
 refine⟨z7 hx2303, ?_⟩
 obtain⟨e2304,hx2305,hm⟩:=b5 hm
 refine⟨_,r7 (fun _=>rfl) hx2305,_,N6 (y:=(⟨e2304.Night,(if c.Ballot>e2300.Promised then c.Ballot else e2300.Promised),e2304.Ballot,e2304.Value⟩:a8)) (fun _=>rfl) hx2305, ?_⟩
 cases hm
 exact c5.of 21 rfl (tA rfl) ⟨hR rfl,hR rfl,hR rfl,hW rfl,hW rfl,hW rfl,hW rfl,hW rfl,hW rfl,hW rfl,hW rfl,hW rfl,hW rfl,hR rfl,hW rfl,trivial⟩
 apply vb hm<;>intro _ hm
 obtain⟨ev2822,he2823,hm⟩:=b5 hm
 refine K1.ofZ pok ⟨[(0, .row 3 4),(1,DI c.Night),(1000000, .agg [DI x8.Now.Round, .row 3 4, .row 4 6, .row 5 4, .row 6 5, .row 7 6]),(1000001, .agg (b8.c c)),(1000002, .own 14 0),(1000003, .own 15 0),(1000004, .own 16 0),(1000005,DB false),(1000013,DI c.Kind),(1000014,DB (c.Kind==3)),(1000192, .agg (a6.c x)),(1000193, .agg (b8.c c)),(1000194, .own 0 0),(1000195, .own 1 0),(1000196, .own 2 0),(1000197,DI 0),(1000198, .own 13 0),(1000203,DB (x1 !=0)),(1000214,DB (c.To !=x.Me))], [(0, .blk (a6.c x) 30),(1, .blk (b8.c c) 42),(2, .blk [DI 0,DI 0,nS,nS,nS,nS,nS,DI 0,nS,nS,nS,nS,nS] 30),(3,rE 4 x8.Now.Slots a8.c 110),(4,rE 6 x8.Now.Bids b9.c 108),(5,rE 4 x8.Now.Heard a7.c 149),(6,rE 5 x8.Now.Leases b6.c 112),(7,rE 6 x8.Now.Loans b4.c 114),(8,rE 4 x8.Safe.Slots a8.c 110),(9,rE 6 x8.Safe.Bids b9.c 108),(10,rE 4 x8.Safe.Heard a7.c 149),(11,rE 5 x8.Safe.Leases b6.c 112),(12,rE 6 x8.Safe.Loans b4.c 114),(13, .blk [DI x8.Me,DI x8.Now.Round, .row 3 4, .row 4 6, .row 5 4, .row 6 5, .row 7 6,DI x8.Safe.Round, .row 8 4, .row 9 6, .row 10 4, .row 11 5, .row 12 6] 30),(14, .blk [DI x8.Now.Round, .row 3 4, .row 4 6, .row 5 4, .row 6 5, .row 7 6] 28),(15, .blk (b8.c c) 42),(16, .blk [DI 0,nS,nS,nS,nS,nS] 28)],17⟩ (match ev2822 with|(v2632,x2633)=>(⟨[(0, .agg [DI x8.Now.Round, .row 3 4, .row 4 6, .row 5 4, .row 6 5, .row 7 6]),(1, .agg (b8.c c)),(2, .own 14 0),(3, .own 15 0),(4, .own 16 0),(5,DB false),(13,DI c.Kind),(14,DB (c.Kind==3)),(22, .tup [DI x2633, .row 20 4]),(1000000, .agg (a6.c x)),(1000001, .agg (b8.c c)),(1000002, .own 0 0),(1000003, .own 1 0),(1000004, .own 2 0),(1000005,DI 0),(1000006, .own 13 0),(1000011,DB (x1 !=0)),(1000022,DB (c.To !=x.Me))], [(0, .blk (a6.c x) 30),(1, .blk (b8.c c) 42),(2, .blk [DI 0,DI 0,nS,nS,nS,nS,nS,DI 0,nS,nS,nS,nS,nS] 30),(3,rE 4 x8.Now.Slots a8.c 110),(4,rE 6 x8.Now.Bids b9.c 108),(5,rE 4 x8.Now.Heard a7.c 149),(6,rE 5 x8.Now.Leases b6.c 112),(7,rE 6 x8.Now.Loans b4.c 114),(8,rE 4 x8.Safe.Slots a8.c 110),(9,rE 6 x8.Safe.Bids b9.c 108),(10,rE 4 x8.Safe.Heard a7.c 149),(11,rE 5 x8.Safe.Leases b6.c 112),(12,rE 6 x8.Safe.Loans b4.c 114),(13, .blk [DI x8.Me,DI x8.Now.Round, .row 3 4, .row 4 6, .row 5 4, .row 6 5, .row 7 6,DI x8.Safe.Round, .row 8 4, .row 9 6, .row 10 4, .row 11 5, .row 12 6] 30),(14, .blk [DI x8.Now.Round, .row 3 4, .row 4 6, .row 5 4, .row 6 5, .row 7 6] 28),(15, .blk (b8.c c) 42),(16, .blk [DI 0,nS,nS,nS,nS,nS] 28),(20,rE 4 v2632 a8.c 110)],21⟩:Sy):Sy) [] [99,106,149,210,211,220] [90] [97,160] Tryz.func160 rfl rfl rfl (c5.of 17 rfl (tA rfl) ⟨hR rfl,hR rfl,hR rfl,hW rfl,hW rfl,hW rfl,hW rfl,hW rfl,hW rfl,hW rfl,hW rfl,hW rfl,hW rfl,hR rfl,hR rfl,hR rfl,hR rfl,trivial⟩) (fun sv=> ?_) ?_
 have hm:=he2823
 obtain⟨ev2970,he,hk2971⟩:=b5 hm
 refine u4.ofL (u9 c x8) (fun(out2865,at_2866,i2867,out2868,out2869,out2870)=>⟨[(0, .row 3 4),(1,DI c.Night),(4,DI 0),(5,nS),(6, .row 20 4),(7,DI at_2866),(8,DI i2867),(1000000, .agg [DI x8.Now.Round, .row 3 4, .row 4 6, .row 5 4, .row 6 5, .row 7 6]),(1000001, .agg (b8.c c)),(1000002, .own 14 0),(1000003, .own 15 0),(1000004, .own 16 0),(1000005,DB false),(1000013,DI c.Kind),(1000014,DB (c.Kind==3)),(1000192, .agg (a6.c x)),(1000193, .agg (b8.c c)),(1000194, .own 0 0),(1000195, .own 1 0),(1000196, .own 2 0),(1000197,DI 0),(1000198, .own 13 0),(1000203,DB (x1 !=0)),(1000214,DB (c.To !=x.Me))], [(0, .blk (a6.c x) 30),(1, .blk (b8.c c) 42),(2, .blk [DI 0,DI 0,nS,nS,nS,nS,nS,DI 0,nS,nS,nS,nS,nS] 30),(3,rE 4 x8.Now.Slots a8.c 110),(4,rE 6 x8.Now.Bids b9.c 108),(5,rE 4 x8.Now.Heard a7.c 149),(6,rE 5 x8.Now.Leases b6.c 112),(7,rE 6 x8.Now.Loans b4.c 114),(8,rE 4 x8.Safe.Slots a8.c 110),(9,rE 6 x8.Safe.Bids b9.c 108),(10,rE 4 x8.Safe.Heard a7.c 149),(11,rE 5 x8.Safe.Leases b6.c 112),(12,rE 6 x8.Safe.Loans b4.c 114),(13, .blk [DI x8.Me,DI x8.Now.Round, .row 3 4, .row 4 6, .row 5 4, .row 6 5, .row 7 6,DI x8.Safe.Round, .row 8 4, .row 9 6, .row 10 4, .row 11 5, .row 12 6] 30),(14, .blk [DI x8.Now.Round, .row 3 4, .row 4 6, .row 5 4, .row 6 5, .row 7 6] 28),(15, .blk (b8.c c) 42),(16, .blk [DI 0,nS,nS,nS,nS,nS] 28),(17,rE 4 out2865 a8.c 110),(18,rE 4 out2868 a8.c 110),(19,rE 4 out2869 a8.c 110),(20,rE 4 out2870 a8.c 110)],21⟩) ([],(-1),0, [], [], []) (c5.of 17 rfl (tA rfl) ⟨hR rfl,hR rfl,hR rfl,hW rfl,hW rfl,hW rfl,hW rfl,hW rfl,hW rfl,hW rfl,hW rfl,hW rfl,hW rfl,hR rfl,hR rfl,hR rfl,hR rfl,⟨rfl,rfl⟩,⟨rfl,rfl⟩,⟨rfl,rfl⟩,⟨rfl,rfl⟩,trivial⟩) he ?_
 rintro fu2972 ⟨out2865,at_2866,i2867,out2868,out2869,out2870⟩ b hm hi2973
 apply vb hm<;>intro _ hm
 apply vb hm<;>intro _ hm
 obtain⟨e2976,hx2977,hm⟩:=b5 hm
 refine⟨z7 hx2977, ?_⟩
 obtain⟨e2978,hx2979,hm⟩:=b5 hm
 refine⟨_,r7 (fun _=>rfl) hx2979, ?_⟩
 apply vb hm<;>intro _ hm
 refine⟨([(⟨c.Night,0,0,0⟩:a8)]:List a8).flatMap a8.c,([(⟨c.Night,0,0,0⟩:a8)]:List a8).length,⟨rfl,rfl⟩, ?_⟩
 obtain⟨hg,hm⟩:=c6 hm
 refine⟨hg,_,_,c9 (c:=a8.c) (l:=(out2870:List a8)) (r:=(([(⟨c.Night,0,0,0⟩:a8)]:List a8):List a8)), ?_⟩
 obtain⟨e2981,hx2982,hm⟩:=b5 hm
 refine⟨z7 hx2982, ?_⟩
 obtain⟨e2983,hx2984,hm⟩:=b5 hm
 refine⟨_,r7 (fun _=>rfl) hx2984, ?_⟩
 apply vb hm<;>intro _ hm
 obtain⟨e2986,hx2987,hm⟩:=b5 hm
 refine⟨z7 hx2987, ?_⟩
 obtain⟨e2988,hx2989,hm⟩:=b5 hm
 refine⟨_,r7 (fun _=>rfl) hx2989, ?_⟩
 refine⟨([e2988]:List a8).flatMap a8.c,([e2988]:List a8).length,⟨rfl,rfl⟩, ?_⟩
 obtain⟨hg,hm⟩:=c6 hm
 refine⟨hg,_,_,c9 (c:=a8.c) (l:=((out2870++([(⟨c.Night,0,0,0⟩:a8)]:List a8)):List a8)) (r:=(([e2988]:List a8):List a8)), ?_⟩
 cases hm
 exact⟨(_,(out2865,((out2870++([(⟨c.Night,0,0,0⟩:a8)]:List a8)).length:Int),(W (i2867+1)),out2868,out2869,((out2870++([(⟨c.Night,0,0,0⟩:a8)]:List a8))++([e2988]:List a8)))),c5.of 21 rfl (tA rfl) ⟨hR rfl,hR rfl,hR rfl,hW rfl,hW rfl,hW rfl,hW rfl,hW rfl,hW rfl,hW rfl,hW rfl,hW rfl,hW rfl,hR rfl,hR rfl,hR rfl,hR rfl,hW rfl,hW rfl,hW rfl,hW rfl,trivial⟩,hi2973,Nat.lt_succ_self _⟩
 obtain⟨e2990,hx2991,hm⟩:=b5 hm
 refine⟨z7 hx2991, ?_⟩
 obtain⟨e2992,hx2993,hm⟩:=b5 hm
 refine⟨_,r7 (fun _=>rfl) hx2993, ?_⟩
 refine⟨([e2992]:List a8).flatMap a8.c,([e2992]:List a8).length,⟨rfl,rfl⟩, ?_⟩
 obtain⟨hg,hm⟩:=c6 hm
 refine⟨hg,_,_,c9 (c:=a8.c) (l:=((out2870++([(⟨c.Night,0,0,0⟩:a8)]:List a8)):List a8)) (r:=(([e2992]:List a8):List a8)), ?_⟩
 cases hm
 exact⟨(_,(out2865,(out2870.length:Int),(W (i2867+1)),out2868,out2869,((out2870++([(⟨c.Night,0,0,0⟩:a8)]:List a8))++([e2992]:List a8)))),c5.of 21 rfl (tA rfl) ⟨hR rfl,hR rfl,hR rfl,hW rfl,hW rfl,hW rfl,hW rfl,hW rfl,hW rfl,hW rfl,hW rfl,hW rfl,hW rfl,hR rfl,hR rfl,hR rfl,hR rfl,hW rfl,hW rfl,hW rfl,hW rfl,trivial⟩,hi2973,Nat.lt_succ_self _⟩
 obtain⟨e2994,hx2995,hm⟩:=b5 hm
 refine⟨z7 hx2995, ?_⟩
 obtain⟨e2996,hx2997,hm⟩:=b5 hm
 refine⟨_,r7 (fun _=>rfl) hx2997, ?_⟩
 apply vb hm<;>intro _ hm
 obtain⟨e2999,hx3000,hm⟩:=b5 hm
 refine⟨z7 hx3000, ?_⟩
 obtain⟨e3001,hx3002,hm⟩:=b5 hm
 refine⟨_,r7 (fun _=>rfl) hx3002, ?_⟩
 refine⟨([e3001]:List a8).flatMap a8.c,([e3001]:List a8).length,⟨rfl,rfl⟩, ?_⟩
 obtain⟨hg,hm⟩:=c6 hm
 refine⟨hg,_,_,c9 (c:=a8.c) (l:=(out2870:List a8)) (r:=(([e3001]:List a8):List a8)), ?_⟩
 cases hm
 exact⟨(_,(out2865,(out2870.length:Int),(W (i2867+1)),out2868,out2869,(out2870++([e3001]:List a8)))),c5.of 21 rfl (tA rfl) ⟨hR rfl,hR rfl,hR rfl,hW rfl,hW rfl,hW rfl,hW rfl,hW rfl,hW rfl,hW rfl,hW rfl,hW rfl,hW rfl,hR rfl,hR rfl,hR rfl,hR rfl,hW rfl,hW rfl,hW rfl,hW rfl,trivial⟩,hi2973,Nat.lt_succ_self _⟩
 obtain⟨e3003,hx3004,hm⟩:=b5 hm
 refine⟨z7 hx3004, ?_⟩
 obtain⟨e3005,hx3006,hm⟩:=b5 hm
 refine⟨_,r7 (fun _=>rfl) hx3006, ?_⟩
 refine⟨([e3005]:List a8).flatMap a8.c,([e3005]:List a8).length,⟨rfl,rfl⟩, ?_⟩
 obtain⟨hg,hm⟩:=c6 hm
 refine⟨hg,_,_,c9 (c:=a8.c) (l:=(out2870:List a8)) (r:=(([e3005]:List a8):List a8)), ?_⟩
 cases hm
 exact⟨(_,(out2865,at_2866,(W (i2867+1)),out2868,out2869,(out2870++([e3005]:List a8)))),c5.of 21 rfl (tA rfl) ⟨hR rfl,hR rfl,hR rfl,hW rfl,hW rfl,hW rfl,hW rfl,hW rfl,hW rfl,hW rfl,hW rfl,hW rfl,hW rfl,hR rfl,hR rfl,hR rfl,hR rfl,hW rfl,hW rfl,hW rfl,hW rfl,trivial⟩,hi2973,Nat.lt_succ_self _⟩
 obtain⟨e3007,hx3008,hm⟩:=b5 hm
 refine⟨z7 hx3008, ?_⟩
 obtain⟨e3009,hx3010,hm⟩:=b5 hm
 refine⟨_,r7 (fun _=>rfl) hx3010, ?_⟩
 apply vb hm<;>intro _ hm
 obtain⟨e3012,hx3013,hm⟩:=b5 hm
 refine⟨z7 hx3013, ?_⟩
 obtain⟨e3014,hx3015,hm⟩:=b5 hm
 refine⟨_,r7 (fun _=>rfl) hx3015, ?_⟩
 refine⟨([e3014]:List a8).flatMap a8.c,([e3014]:List a8).length,⟨rfl,rfl⟩, ?_⟩
 obtain⟨hg,hm⟩:=c6 hm
 refine⟨hg,_,_,c9 (c:=a8.c) (l:=(out2870:List a8)) (r:=(([e3014]:List a8):List a8)), ?_⟩
 cases hm
 exact⟨(_,(out2865,(out2870.length:Int),(W (i2867+1)),out2868,out2869,(out2870++([e3014]:List a8)))),c5.of 21 rfl (tA rfl) ⟨hR rfl,hR rfl,hR rfl,hW rfl,hW rfl,hW rfl,hW rfl,hW rfl,hW rfl,hW rfl,hW rfl,hW rfl,hW rfl,hR rfl,hR rfl,hR rfl,hR rfl,hW rfl,hW rfl,hW rfl,hW rfl,trivial⟩,hi2973,Nat.lt_succ_self _⟩
 obtain⟨e3016,hx3017,hm⟩:=b5 hm
 refine⟨z7 hx3017, ?_⟩
 obtain⟨e3018,hx3019,hm⟩:=b5 hm
 refine⟨_,r7 (fun _=>rfl) hx3019, ?_⟩
 refine⟨([e3018]:List a8).flatMap a8.c,([e3018]:List a8).length,⟨rfl,rfl⟩, ?_⟩
 obtain⟨hg,hm⟩:=c6 hm
 refine⟨hg,_,_,c9 (c:=a8.c) (l:=(out2870:List a8)) (r:=(([e3018]:List a8):List a8)), ?_⟩
 cases hm
 exact⟨(_,(out2865,at_2866,(W (i2867+1)),out2868,out2869,(out2870++([e3018]:List a8)))),c5.of 21 rfl (tA rfl) ⟨hR rfl,hR rfl,hR rfl,hW rfl,hW rfl,hW rfl,hW rfl,hW rfl,hW rfl,hW rfl,hW rfl,hW rfl,hW rfl,hR rfl,hR rfl,hR rfl,hR rfl,hW rfl,hW rfl,hW rfl,hW rfl,trivial⟩,hi2973,Nat.lt_succ_self _⟩
 cases hm
 cases hi2973
 have hm:=hk2971
 apply vb hm<;>intro _ hm
 refine⟨([(⟨c.Night,0,0,0⟩:a8)]:List a8).flatMap a8.c,([(⟨c.Night,0,0,0⟩:a8)]:List a8).length,⟨rfl,rfl⟩, ?_⟩
 obtain⟨hg,hm⟩:=c6 hm
 refine⟨hg,_,_,c9 (c:=a8.c) (l:=(out2870:List a8)) (r:=(([(⟨c.Night,0,0,0⟩:a8)]:List a8):List a8)), ?_⟩
 cases hm
 exact c5.of 21 rfl (tA rfl) ⟨hR rfl,hR rfl,hR rfl,hW rfl,hW rfl,hW rfl,hW rfl,hW rfl,hW rfl,hW rfl,hW rfl,hW rfl,hW rfl,hR rfl,hR rfl,hR rfl,hR rfl,hW rfl,trivial⟩
 cases hm
 exact c5.of 21 rfl (tA rfl) ⟨hR rfl,hR rfl,hR rfl,hW rfl,hW rfl,hW rfl,hW rfl,hW rfl,hW rfl,hW rfl,hW rfl,hW rfl,hW rfl,hR rfl,hR rfl,hR rfl,hR rfl,hW rfl,trivial⟩
 obtain⟨v2632,x2633⟩:=ev2822
 refine VIf.f h1968 ?_
 refine⟨rfl, ?_⟩
 obtain⟨e2824,hx2825,hm⟩:=b5 hm
 refine⟨z7 hx2825, ?_⟩
 obtain⟨e2826,hx2827,hm⟩:=b5 hm
 refine⟨_,r7 (fun _=>rfl) hx2827, ?_⟩
 apply vb hm<;>intro _ hm
 obtain⟨e2829,hx2830,hm⟩:=b5 hm
 refine⟨z7 hx2830, ?_⟩
 obtain⟨e2831,hx2832,hm⟩:=b5 hm
 refine⟨_,r7 (fun _=>rfl) hx2832,_,N6 (y:=(⟨c.Night,c.Ballot,c.Ballot,c.Value⟩:a8)) (fun _=>rfl) hx2832, ?_⟩
 cases hm
 exact c5.of 21 rfl (tA rfl) ⟨hR rfl,hR rfl,hR rfl,hW rfl,hW rfl,hW rfl,hW rfl,hW rfl,hW rfl,hW rfl,hW rfl,hW rfl,hW rfl,hR rfl,hW rfl,trivial⟩
 cases hm
 exact c5.of 21 rfl (tA rfl) ⟨hR rfl,hR rfl,hR rfl,hW rfl,hW rfl,hW rfl,hW rfl,hW rfl,hW rfl,hW rfl,hW rfl,hW rfl,hW rfl,hR rfl,hW rfl,trivial⟩
 apply vb hm<;>intro _ hm
 obtain⟨ev3104,he,hk3105⟩:=b5 hm
 refine u4.ofL (T0 c) (fun(i3048,v3049)=>⟨[(0, .agg [DI x8.Now.Round, .row 3 4, .row 4 6, .row 5 4, .row 6 5, .row 7 6]),(1, .agg (b8.c c)),(2, .own 14 0),(3, .own 15 0),(4, .own 16 0),(5,DB false),(8,DI i3048),(13,DI c.Kind),(14,DB (c.Kind==3)),(66,DB (c.Kind==2)),(1000000, .agg (a6.c x)),(1000001, .agg (b8.c c)),(1000002, .own 0 0),(1000003, .own 1 0),(1000004, .own 2 0),(1000005,DI 0),(1000006, .own 13 0),(1000011,DB (x1 !=0)),(1000022,DB (c.To !=x.Me))], [(0, .blk (a6.c x) 30),(1, .blk (b8.c c) 42),(2, .blk [DI 0,DI 0,nS,nS,nS,nS,nS,DI 0,nS,nS,nS,nS,nS] 30),(3,rE 4 x8.Now.Slots a8.c 110),(4,rE 6 v3049 b9.c 108),(5,rE 4 x8.Now.Heard a7.c 149),(6,rE 5 x8.Now.Leases b6.c 112),(7,rE 6 x8.Now.Loans b4.c 114),(8,rE 4 x8.Safe.Slots a8.c 110),(9,rE 6 x8.Safe.Bids b9.c 108),(10,rE 4 x8.Safe.Heard a7.c 149),(11,rE 5 x8.Safe.Leases b6.c 112),(12,rE 6 x8.Safe.Loans b4.c 114),(13, .blk [DI x8.Me,DI x8.Now.Round, .row 3 4, .row 4 6, .row 5 4, .row 6 5, .row 7 6,DI x8.Safe.Round, .row 8 4, .row 9 6, .row 10 4, .row 11 5, .row 12 6] 30),(14, .blk [DI x8.Now.Round, .row 3 4, .row 4 6, .row 5 4, .row 6 5, .row 7 6] 28),(15, .blk (b8.c c) 42),(16, .blk [DI 0,nS,nS,nS,nS,nS] 28)],17⟩) (0,x8.Now.Bids) (c5.of 17 rfl (tA rfl) ⟨hR rfl,hR rfl,hR rfl,hW rfl,hW rfl,hW rfl,hW rfl,hW rfl,hW rfl,hW rfl,hW rfl,hW rfl,hW rfl,hR rfl,hR rfl,hR rfl,hR rfl,trivial⟩) he ?_
 rintro fu3106 ⟨i3048,v3049⟩ b hm hi3107
 apply vb hm<;>intro _ hm
 obtain⟨e3109,hx3110,hm⟩:=b5 hm
 refine⟨z7 hx3110, ?_⟩
 obtain⟨e3111,hx3112,hm⟩:=b5 hm
 refine⟨_,r7 (fun _=>rfl) hx3112, ?_⟩
 refine⟨rfl, ?_⟩
 apply vb hm<;>intro _ hm
 cases hm
 exact⟨(_,((W (i3048+1)),v3049)),c5.of 17 rfl (tA rfl) ⟨hR rfl,hR rfl,hR rfl,hW rfl,hW rfl,hW rfl,hW rfl,hW rfl,hW rfl,hW rfl,hW rfl,hW rfl,hW rfl,hR rfl,hR rfl,hR rfl,hR rfl,trivial⟩,hi3107,Nat.lt_succ_self _⟩
 apply vb hm<;>intro _ hm
 cases hm
 exact⟨(_,((W (i3048+1)),v3049)),c5.of 17 rfl (tA rfl) ⟨hR rfl,hR rfl,hR rfl,hW rfl,hW rfl,hW rfl,hW rfl,hW rfl,hW rfl,hW rfl,hW rfl,hW rfl,hW rfl,hR rfl,hR rfl,hR rfl,hR rfl,trivial⟩,hi3107,Nat.lt_succ_self _⟩
 apply vb hm<;>intro _ hm
 cases hm
 exact⟨(_,((W (i3048+1)),v3049)),c5.of 17 rfl (tA rfl) ⟨hR rfl,hR rfl,hR rfl,hW rfl,hW rfl,hW rfl,hW rfl,hW rfl,hW rfl,hW rfl,hW rfl,hW rfl,hW rfl,hR rfl,hR rfl,hR rfl,hR rfl,trivial⟩,hi3107,Nat.lt_succ_self _⟩
 refine cy hm (a1q c.From) fun x3116 hm=> ?_
 apply vb hm<;>intro _ hm
 cases hm
 exact⟨(_,((W (i3048+1)),v3049)),c5.of 17 rfl (tA rfl) ⟨hR rfl,hR rfl,hR rfl,hW rfl,hW rfl,hW rfl,hW rfl,hW rfl,hW rfl,hW rfl,hW rfl,hW rfl,hW rfl,hR rfl,hR rfl,hR rfl,hR rfl,trivial⟩,hi3107,Nat.lt_succ_self _⟩
 refine⟨rfl, ?_⟩
 refine cy hm (a1q c.From) fun x3119 hm=> ?_
 apply vb hm<;>intro _ hm
 refine cy hm (a3f ((W ((BitVec.ofInt IntKind.i64.bits e3111.Mask|||BitVec.ofInt IntKind.i64.bits x3119).toNat:Int)))) fun x3122 hm=> ?_
 obtain⟨e3124,hx3125,hm⟩:=b5 hm
 refine⟨z7 hx3125, ?_⟩
 obtain⟨e3126,hx3127,hm⟩:=b5 hm
 refine⟨_,r7 (fun _=>rfl) hx3127,_,N6 (y:=(⟨e3111.Night,e3111.Ballot,c.Value,c.Best,(W ((BitVec.ofInt IntKind.i64.bits e3111.Mask|||BitVec.ofInt IntKind.i64.bits x3119).toNat:Int)),x3122⟩:b9)) (fun _=>rfl) hx3127, ?_⟩
 cases hm
 exact⟨(_,((W (i3048+1)),(v3049.set i3048.toNat (⟨e3111.Night,e3111.Ballot,c.Value,c.Best,(W ((BitVec.ofInt IntKind.i64.bits e3111.Mask|||BitVec.ofInt IntKind.i64.bits x3119).toNat:Int)),x3122⟩:b9)))),c5.of 17 rfl (tA rfl) ⟨hR rfl,hR rfl,hR rfl,hW rfl,hW rfl,hW rfl,hW rfl,hW rfl,hW rfl,hW rfl,hW rfl,hW rfl,hW rfl,hR rfl,hR rfl,hR rfl,hR rfl,trivial⟩,hi3107,Nat.lt_succ_self _⟩
 refine cy hm (a3f ((W ((BitVec.ofInt IntKind.i64.bits e3111.Mask|||BitVec.ofInt IntKind.i64.bits x3119).toNat:Int)))) fun x3128 hm=> ?_
 obtain⟨e3130,hx3131,hm⟩:=b5 hm
 refine⟨z7 hx3131, ?_⟩
 obtain⟨e3132,hx3133,hm⟩:=b5 hm
 refine⟨_,r7 (fun _=>rfl) hx3133,_,N6 (y:=(⟨e3111.Night,e3111.Ballot,e3111.Value,e3111.Best,(W ((BitVec.ofInt IntKind.i64.bits e3111.Mask|||BitVec.ofInt IntKind.i64.bits x3119).toNat:Int)),x3128⟩:b9)) (fun _=>rfl) hx3133, ?_⟩
 cases hm
 exact⟨(_,((W (i3048+1)),(v3049.set i3048.toNat (⟨e3111.Night,e3111.Ballot,e3111.Value,e3111.Best,(W ((BitVec.ofInt IntKind.i64.bits e3111.Mask|||BitVec.ofInt IntKind.i64.bits x3119).toNat:Int)),x3128⟩:b9)))),c5.of 17 rfl (tA rfl) ⟨hR rfl,hR rfl,hR rfl,hW rfl,hW rfl,hW rfl,hW rfl,hW rfl,hW rfl,hW rfl,hW rfl,hW rfl,hW rfl,hR rfl,hR rfl,hR rfl,hR rfl,trivial⟩,hi3107,Nat.lt_succ_self _⟩
 cases hm
 cases hi3107
 have hm:=hk3105
 cases hm
 exact c5.of 14 rfl (tA rfl) ⟨hR rfl,hR rfl,hR rfl,hW rfl,hW rfl,hW rfl,hW rfl,hW rfl,hW rfl,hW rfl,hW rfl,hW rfl,hW rfl,hR rfl,trivial⟩
 apply vb hm<;>intro _ hm
 refine co hm (b5M x8.Now c) ?_
 rintro⟨x3135,x3136⟩ hm
 cases hm
 exact c5.of 14 rfl (tA rfl) ⟨hR rfl,hR rfl,hR rfl,hW rfl,hW rfl,hW rfl,hW rfl,hW rfl,hR rfl,trivial⟩
 apply vb hm<;>intro _ hm
 refine co hm (b2G x8.Now c) ?_
 rintro⟨x3139,x3140⟩ hm
 cases hm
 exact c5.of 14 rfl (tA rfl) ⟨hR rfl,hR rfl,hR rfl,hW rfl,hW rfl,hW rfl,hW rfl,hW rfl,hR rfl,trivial⟩
 obtain⟨ev3182,he,hk3183⟩:=b5 hm
 refine u4.ofL (U1 c) (fun(i3154,v3155)=>⟨[(0, .agg [DI x8.Now.Round, .row 3 4, .row 4 6, .row 5 4, .row 6 5, .row 7 6]),(1, .agg (b8.c c)),(2, .own 14 0),(3, .own 15 0),(4, .own 16 0),(5,DB false),(10,DI i3154),(13,DI c.Kind),(14,DB (c.Kind==3)),(66,DB (c.Kind==2)),(133,DB (c.Kind==4)),(140,DB (c.Kind==5)),(1000000, .agg (a6.c x)),(1000001, .agg (b8.c c)),(1000002, .own 0 0),(1000003, .own 1 0),(1000004, .own 2 0),(1000005,DI 0),(1000006, .own 13 0),(1000011,DB (x1 !=0)),(1000022,DB (c.To !=x.Me))], [(0, .blk (a6.c x) 30),(1, .blk (b8.c c) 42),(2, .blk [DI 0,DI 0,nS,nS,nS,nS,nS,DI 0,nS,nS,nS,nS,nS] 30),(3,rE 4 x8.Now.Slots a8.c 110),(4,rE 6 x8.Now.Bids b9.c 108),(5,rE 4 x8.Now.Heard a7.c 149),(6,rE 5 v3155 b6.c 112),(7,rE 6 x8.Now.Loans b4.c 114),(8,rE 4 x8.Safe.Slots a8.c 110),(9,rE 6 x8.Safe.Bids b9.c 108),(10,rE 4 x8.Safe.Heard a7.c 149),(11,rE 5 x8.Safe.Leases b6.c 112),(12,rE 6 x8.Safe.Loans b4.c 114),(13, .blk [DI x8.Me,DI x8.Now.Round, .row 3 4, .row 4 6, .row 5 4, .row 6 5, .row 7 6,DI x8.Safe.Round, .row 8 4, .row 9 6, .row 10 4, .row 11 5, .row 12 6] 30),(14, .blk [DI x8.Now.Round, .row 3 4, .row 4 6, .row 5 4, .row 6 5, .row 7 6] 28),(15, .blk (b8.c c) 42),(16, .blk [DI 0,nS,nS,nS,nS,nS] 28)],17⟩) (0,x8.Now.Leases) (c5.of 17 rfl (tA rfl) ⟨hR rfl,hR rfl,hR rfl,hW rfl,hW rfl,hW rfl,hW rfl,hW rfl,hW rfl,hW rfl,hW rfl,hW rfl,hW rfl,hR rfl,hR rfl,hR rfl,hR rfl,trivial⟩) he ?_
 rintro fu3184 ⟨i3154,v3155⟩ b hm hi3185
 apply vb hm<;>intro _ hm
 obtain⟨e3187,hx3188,hm⟩:=b5 hm
 refine⟨z7 hx3188, ?_⟩
 obtain⟨e3189,hx3190,hm⟩:=b5 hm
 refine⟨_,r7 (fun _=>rfl) hx3190, ?_⟩
 apply vb hm<;>intro _ hm
 apply vb hm<;>intro _ hm
 apply vb hm<;>intro _ hm
 obtain⟨e3194,hx3195,hm⟩:=b5 hm
 refine⟨z7 hx3195, ?_⟩
 obtain⟨e3196,hx3197,hm⟩:=b5 hm
 refine⟨_,r7 (fun _=>rfl) hx3197,_,N6 (y:=(⟨e3196.No,e3196.Thing,e3196.To,e3196.From,(if(if e3189.From>c.Until then e3189.From else c.Until)<e3189.Until then(if e3189.From>c.Until then e3189.From else c.Until)else e3189.Until)⟩:b6)) (fun _=>rfl) hx3197, ?_⟩
 cases hm
 exact⟨(_,((W (i3154+1)),(v3155.set i3154.toNat (⟨e3196.No,e3196.Thing,e3196.To,e3196.From,(if(if e3189.From>c.Until then e3189.From else c.Until)<e3189.Until then(if e3189.From>c.Until then e3189.From else c.Until)else e3189.Until)⟩:b6)))),c5.of 17 rfl (tA rfl) ⟨hR rfl,hR rfl,hR rfl,hW rfl,hW rfl,hW rfl,hW rfl,hW rfl,hW rfl,hW rfl,hW rfl,hW rfl,hW rfl,hR rfl,hR rfl,hR rfl,hR rfl,trivial⟩,hi3185,Nat.lt_succ_self _⟩
 cases hm
 exact⟨(_,((W (i3154+1)),v3155)),c5.of 17 rfl (tA rfl) ⟨hR rfl,hR rfl,hR rfl,hW rfl,hW rfl,hW rfl,hW rfl,hW rfl,hW rfl,hW rfl,hW rfl,hW rfl,hW rfl,hR rfl,hR rfl,hR rfl,hR rfl,trivial⟩,hi3185,Nat.lt_succ_self _⟩
 cases hm
 exact⟨(_,((W (i3154+1)),v3155)),c5.of 17 rfl (tA rfl) ⟨hR rfl,hR rfl,hR rfl,hW rfl,hW rfl,hW rfl,hW rfl,hW rfl,hW rfl,hW rfl,hW rfl,hW rfl,hW rfl,hR rfl,hR rfl,hR rfl,hR rfl,trivial⟩,hi3185,Nat.lt_succ_self _⟩
 cases hm
 exact⟨(_,((W (i3154+1)),v3155)),c5.of 17 rfl (tA rfl) ⟨hR rfl,hR rfl,hR rfl,hW rfl,hW rfl,hW rfl,hW rfl,hW rfl,hW rfl,hW rfl,hW rfl,hW rfl,hW rfl,hR rfl,hR rfl,hR rfl,hR rfl,trivial⟩,hi3185,Nat.lt_succ_self _⟩
 cases hm
 cases hi3185
 have hm:=hk3183
 cases hm
 exact c5.of 14 rfl (tA rfl) ⟨hR rfl,hR rfl,hR rfl,hW rfl,hW rfl,hW rfl,hW rfl,hW rfl,hW rfl,hW rfl,hW rfl,hW rfl,hW rfl,hR rfl,trivial⟩
 rcases ev1964 with⟨v716,x717,x718⟩|(⟨v719,v720,x721⟩|⟨x722,x723,x724,x725,x726,x727,x728,x729,x730,x731,x732,x733⟩)
 apply vb hm<;>intro _ hm
 cases hm
 exact d0.le (⟨_,rfl,⟨⟨_,rfl,⟨leD.refl _,leD.refl _,leD.nil,leD.nil,leD.nil,leD.nil,leD.nil,leD.refl _,leD.nil,leD.nil,leD.nil,leD.nil,leD.nil,trivial⟩⟩,leD.refl _,trivial⟩⟩)
 cases hm
 exact d0.le (leD.refl _)
 cases hm
 exact d0.le (leD.refl _)
 apply vb hm<;>intro _ hm
 cases hm
 exact d0.le (⟨_,rfl,⟨⟨_,rfl,⟨leD.refl _,leD.refl _,leD.nil,leD.nil,leD.nil,leD.nil,leD.nil,leD.refl _,leD.nil,leD.nil,leD.nil,leD.nil,leD.nil,trivial⟩⟩,leD.refl _,trivial⟩⟩)
 cases hm
 exact d0.le (leD.refl _)
def a1I (x:a6) (c:b8) (a:a7V):Option Bool:=
 Option.bind (U6 x a.Night a.Value) fun⟨x1,x2⟩=>
 Option.bind (a2B x a.Night a.Value) fun⟨x4,x5⟩=>
 Option.bind (J6 x a.Deal.Thing a.Deal.To a.Deal.From a.Deal.Until) fun⟨x7,x8⟩=>
 Option.bind (a5z x a.Deal) fun⟨x10,x11⟩=>
 Option.bind (a0P x a.Loan.1 a.Loan.2.1 a.Loan.2.2) fun⟨x13,x14⟩=>
 Option.bind (a3a x a.Loan) fun⟨x16,x17⟩=>
 Option.bind (N7 x c) fun⟨x19,x20⟩=>
 Option.bind (a5c x c) fun⟨x22,x23⟩=>
 Option.bind (a1b x1 x4) fun x25=>
 if x25=true then
  if(x2==x5)=true then
   Option.bind (a1b x7 x10) fun x29=>
   if x29=true then
    if(x8==x11)=true then
     Option.bind (a1b x13 x16) fun x33=>
     if x33=true then
      if(x14==x17)=true then
       Option.bind (a1b x19 x22) fun x37=>
       if x37=true then
        if(x20==x23)=true then
         Option.bind (a5t) fun x41=>
         some x41
        else
         some false
       else
        some false
      else
       some false
     else
      some false
    else
     some false
   else
    some false
  else
   some false
 else
  some false
theorem a8W (x:a6) (c:b8) (a:a7V) (r:Bool) (hm:a1I x c a=some r):d7 Tryz.prog 5 [.agg (a6.c x), .agg (b8.c c), .agg (a7V.c a)] (fun x=>x=DB r):=by
 refine zn Tryz.func5 rfl ?_
 refine cy hm (a4Y x a.Night a.Value) ?_
 rintro⟨x1,x2⟩ hm
 refine cy hm (b2F x a.Night a.Value) ?_
 rintro⟨x4,x5⟩ hm
 refine cy hm (a0z x a.Deal.Thing a.Deal.To a.Deal.From a.Deal.Until) ?_
 rintro⟨x7,x8⟩ hm
 refine cy hm (b7v x a.Deal) ?_
 rintro⟨x10,x11⟩ hm
 refine⟨by decide, ?_⟩
 refine⟨by decide, ?_⟩
 refine⟨by decide, ?_⟩
 refine cy hm (b0v x a.Loan.1 a.Loan.2.1 a.Loan.2.2) ?_
 rintro⟨x13,x14⟩ hm
 refine cy hm (b4c x a.Loan) ?_
 rintro⟨x16,x17⟩ hm
 refine cy hm (a2y x c) ?_
 rintro⟨x19,x20⟩ hm
 refine cy hm (b6X x c) ?_
 rintro⟨x22,x23⟩ hm
 refine cy hm (a5m x1 x4) fun x25 hm=> ?_
 apply vb hm<;>intro _ hm
 apply vb hm<;>intro _ hm
 refine cy hm (a5m x7 x10) fun x29 hm=> ?_
 apply vb hm<;>intro _ hm
 apply vb hm<;>intro _ hm
 refine cy hm (a5m x13 x16) fun x33 hm=> ?_
 apply vb hm<;>intro _ hm
 apply vb hm<;>intro _ hm
 refine cy hm (a5m x19 x22) fun x37 hm=> ?_
 apply vb hm<;>intro _ hm
 apply vb hm<;>intro _ hm
 refine cy hm (b6p) fun x41 hm=> ?_
 exact hm.rr
 exact hm.rr
 exact hm.rr
 exact hm.rr
 exact hm.rr
 exact hm.rr
 exact hm.rr
 exact hm.rr
 exact hm.rr
end Go.Proofs.YtcedmbakcchkiaaGreatDoor
