/- Functions of the program as pure Lean functions, and that calls do what these say. Printed by a program out of the given form. -/
import Derived.Test.YtggdlgclohnbaaaGreatDoorI1
set_option linter.unusedVariables false
set_option linter.unusedSimpArgs false
namespace Go.Proofs.YtggdlgclohnbaaaGreatDoor
open Go Go.RowKit Go.Sx
set_option maxRecDepth 100000
set_option maxHeartbeats 20000000
def j2 (slices:(List (List c8))):(Int×Int)→Option (Sum (Int×Int) (Int×Int)):=fun(size5,v6)=>
 if(decide (v6<(slices.length:Int)))=true then
  Option.bind (idx slices v6) fun e12=>
  if(decide ((W (size5+(e12.length:Int)))<0))=true then
   none
  else
   some (.inl ((W (size5+(e12.length:Int))),(W (v6+1))))
 else
  some (.inr (size5,v6))
def j3 (slices:(List (List c8))):(Int×(List c8))→Option (Sum (Int×(List c8)) (Int×(List c8))):=fun(v22,v23)=>
 if(decide (v22<(slices.length:Int)))=true then
  Option.bind (idx slices v22) fun e28=>
  gd ((v23.length+e28.length)*48≤140737488355328∧v23.length+e28.length≤9223372036854775807)<|
  some (.inl ((W (v22+1)),(v23++e28)))
 else
  some (.inr (v22,v23))
def D1 (slices:(List (List c8))):Option (List c8):=
 Option.bind (w7 (j2 slices) (0,0)) fun(size15,v16)=>
 gd (0≤size15∧size15*48≤140737488355328)<|
 Option.bind (w7 (j3 slices) (0,([]:List c8))) fun(v30,v31)=>
 some v31
theorem Y7 (slices:(List (List c8))) (r:(List c8)) (hm:D1 slices=some r):o8 Tryz.prog 131 [lD 1 slices cf2] (fun x=>x=lD 5 r c8.c):=by
 refine zy [] [80,112,155,175] [159] [] Tryz.func131 rfl ?_;obtain⟨ev39,he,hk40⟩:=e9 hm;refine c8A (j2 slices) (fun(size5,v6)=>⟨[(0,lD 1 slices cf2),(3,DI size5),(9,lD 1 slices cf2),(10,DI (slices.length:Int)),(11,DI v6)], [],0⟩) (0,0) (sb 0) he ?_;rintro fu41 ⟨size5,v6⟩ b hm hi42;apply vb hm<;>intro _ hm;refine ei hm fun e44 hm=> ?_
 apply vb hm<;>intro _ hm;cases hm;cases hm;exact⟨(_,((W (size5+(e44.length:Int))),(W (v6+1)))),sb 0,hi42,y6 _⟩;cases hm;cases hi42;have hm:=hk40;obtain⟨hg,hm⟩:=j1 hm;refine .inl (a5n.mk ⟨_,_,_,_,a0q size5 hg, ?_⟩);obtain⟨ev62,he,hk63⟩:=e9 hm;refine c8A (j3 slices) (fun(v52,v53)=>⟨[(6, .row 0 5),(25,lD 1 slices cf2),(26,DI (slices.length:Int)),(27,DI v52)], [(0,rE 5 v53 c8.c 53)],1⟩) (0,([]:List c8)) (sb 1) he ?_;rintro fu64 ⟨v52,v53⟩ b hm hi65;apply vb hm<;>intro _ hm;refine ei hm fun e67 hm=> ?_
 obtain⟨hg,hm⟩:=j1 hm;refine⟨hg,_,_,y0 (c:=c8.c) (l:=(v53:List c8)) (r:=(e67:List c8)), ?_⟩;cases hm;exact⟨(_,((W (v52+1)),(v53++e67))),sb 1,hi65,y6 _⟩;cases hm;cases hi65;have hm:=hk63;cases hm;exact c8z (c8x _)
def Y4 (b_:m7):Option (List c8):=
 Option.bind (D1 ([b_.Thread,b_.Loose]:List (List c8))) fun x1=>
 some x1
theorem a5m (b_:m7) (r:(List c8)) (hm:Y4 b_=some r):o8 Tryz.prog 77 [.agg (m7.c b_)] (fun x=>x=lD 5 r c8.c):=by
 refine zn Tryz.func77 rfl ?_;refine⟨([b_.Thread,b_.Loose]:List (List c8)).flatMap cf2,([b_.Thread,b_.Loose]:List (List c8)).length,⟨rfl,rfl⟩, ?_⟩;refine co hm (Y7 (([b_.Thread,b_.Loose]:List (List c8)))) fun x1 hm=> ?_
 cases hm;exact c8z (c8x _)
def V5 (c:c8):Option Bool:=
 Option.bind (y9 c.No 0 59) fun x1=>
 if x1=true then
  Option.bind (y9 c.Parts 1 10) fun x4=>
  if x4=true then
   Option.bind (y9 c.Part 0 (W (c.Parts-1))) fun x7=>
   if x7=true then
    Option.bind (y9 c.Size 1 24) fun x10=>
    if x10=true then
     some ((c.Text.size:Int)==c.Size)
    else
     some false
   else
    some false
  else
   some false
 else
  some false
theorem a9w (c:c8) (r:Bool) (hm:V5 c=some r):o8 Tryz.prog 100 [.agg (c8.c c)] (fun x=>x=DB r):=by
 refine zn Tryz.func100 rfl ?_;refine cy hm (D9 c.No 0 59) fun x1 hm=> ?_
 apply vb hm<;>intro _ hm;refine cy hm (D9 c.Parts 1 10) fun x4 hm=> ?_
 apply vb hm<;>intro _ hm;refine cy hm (D9 c.Part 0 (W (c.Parts-1))) fun x7 hm=> ?_
 apply vb hm<;>intro _ hm;refine cy hm (D9 c.Size 1 24) fun x10 hm=> ?_
 apply vb hm<;>intro _ hm;exact hm.rr;exact hm.rr;exact hm.rr;exact hm.rr;exact hm.rr
def a2I (b_:m7):Option m7:=
 some b_
theorem b2j (b_:m7) (r:m7) (hm:a2I b_=some r):o8 Tryz.prog 69 [.agg (m7.c b_)] (fun x=>x= .fn 128 [] [.ptr [lD 5 r.Thread c8.c,lD 5 r.Loose c8.c] 0]):=by
 refine zn Tryz.func69 rfl ?_;cases hm;exact c8z (c8x _)
def G4 (s:ByteArray):Option ByteArray:=gd (s.size≤281474976710656) (some s)
theorem a1k (s:ByteArray) (r:ByteArray) (hm:G4 s=some r):o8 Tryz.prog 134 [.v (.string s)] (fun x=>x= .v (.string r)):=by
 obtain⟨hg,hm⟩:=j1 hm;cases hm;exact b5C b7V s hg
def M4 (l:(List b9)):(Int×Int×Int×Int×Int×Int×Int)→Option (Sum (Int×Int×Int×Int×Int×Int×Int) (Int×Int×Int×Int×Int×Int×Int)):=fun(v15,v16,v17,v18,v19,v20,v21)=>
 if(decide (v15<(l.length:Int)))=true then
  Option.bind (idx l v15) fun e37=>
  gd (0≤e37.At.Depot∧e37.At.Depot<6)<|
  Option.bind (idx [v16,v17,v18,v19,v20,v21] e37.At.Depot) fun e39=>
  gd (0≤e37.At.Depot∧e37.At.Depot<6)<|
  Option.bind (idx [v16,v17,v18,v19,v20,v21] e37.At.Depot) fun e41=>
  Option.bind (some (W (e39+1))) fun y43=>
  Option.bind (some (if(e37.At.Depot==0)=true then y43 else v16)) fun q44=>
  Option.bind (some (if(e37.At.Depot==1)=true then y43 else v17)) fun q45=>
  Option.bind (some (if(e37.At.Depot==2)=true then y43 else v18)) fun q46=>
  Option.bind (some (if(e37.At.Depot==3)=true then y43 else v19)) fun q47=>
  Option.bind (some (if(e37.At.Depot==4)=true then y43 else v20)) fun q48=>
  Option.bind (some (if(e37.At.Depot==5)=true then y43 else v21)) fun q49=>
  some (.inl ((W (v15+1)),q44,q45,q46,q47,q48,q49))
 else
  some (.inr (v15,v16,v17,v18,v19,v20,v21))
def a0W (l:(List b9)):Option (Int×Int×Int×Int×Int×Int):=
 Option.bind (w7 (M4 l) (0,0,0,0,0,0,0)) fun(v50,v51,v52,v53,v54,v55,v56)=>
 some (v51,v52,v53,v54,v55,v56)
theorem a8N (l:(List b9)) (r:(Int×Int×Int×Int×Int×Int)) (hm:a0W l=some r):o8 Tryz.prog 109 [lD 8 l b9.c] (fun x=>x= .agg [DI r.1,DI r.2.1,DI r.2.2.1,DI r.2.2.2.1,DI r.2.2.2.2.1,DI r.2.2.2.2.2]):=by
 refine zn Tryz.func109 rfl ?_;obtain⟨ev57,he,hk58⟩:=e9 hm;refine c8A (M4 l) (fun(v15,v16,v17,v18,v19,v20,v21)=>⟨[(2, .own 0 0),(3, .own 1 0),(6,lD 8 l b9.c),(7,DI (l.length:Int)),(8,DI v15)], [(0, .blk [DI 0,DI 0,DI 0,DI 0,DI 0,DI 0] 78),(1, .blk [DI v16,DI v17,DI v18,DI v19,DI v20,DI v21] 78)],2⟩) (0,0,0,0,0,0,0) (sb 2) he ?_;rintro fu59 ⟨v15,v16,v17,v18,v19,v20,v21⟩ b hm hi60;apply vb hm<;>intro _ hm;refine ei hm fun _ hm=> ?_
 obtain⟨hg,hm⟩:=j1 hm;refine⟨hg, ?_⟩;obtain⟨e64,hx65,hm⟩:=e9 hm;refine⟨_,ldx (r:= [DI e64]) (c:=cI) (z:=1) (pre:= []) (post:= []) (b:=0) (off:=0) (fun _=>rfl) hx65 rfl rfl (by omega) rfl, ?_⟩;obtain⟨hg,hm⟩:=j1 hm;refine⟨hg, ?_⟩;obtain⟨e66,hx67,hm⟩:=e9 hm;obtain⟨y68,hy,hm⟩:=e9 hm;obtain⟨q69,hq0,hm⟩:=e9 hm;obtain⟨q70,hq1,hm⟩:=e9 hm;obtain⟨q71,hq2,hm⟩:=e9 hm;obtain⟨q72,hq3,hm⟩:=e9 hm;obtain⟨q73,hq4,hm⟩:=e9 hm;obtain⟨q74,hq5,hm⟩:=e9 hm;refine⟨[DI q69,DI q70,DI q71,DI q72,DI q73,DI q74],stx (y:=y68) (ys:= [q69,q70,q71,q72,q73,q74]) (c:=cI) (z:=1) (pre:= []) (post:= []) (b:=0) (off:=0) (fun _=>rfl) hx67 rfl rfl (by omega) (by cases hy;rfl) rfl (by cases hq0;cases hq1;cases hq2;cases hq3;cases hq4;cases hq5;exact b0x hx67), ?_⟩;clear hy hq0 hq1 hq2 hq3 hq4 hq5;cases hm;exact⟨(_,((W (v15+1)),q69,q70,q71,q72,q73,q74)),sb 2,hi60,y6 _⟩;cases hm;cases hi60;have hm:=hk58;cases hm;exact c8z (c8x _)
def a0g (l:(List b9)) (r_:b9):Option Bool:=
 if(decide ((l.length:Int)<60))=true then
  Option.bind (a0W l) fun x2=>
  Option.bind (idx [x2.1,x2.2.1,x2.2.2.1,x2.2.2.2.1,x2.2.2.2.2.1,x2.2.2.2.2.2] r_.At.Depot) fun e4=>
  some (e4==r_.At.No)
 else
  some false
theorem a7m (l:(List b9)) (r_:b9) (r:Bool) (hm:a0g l r_=some r):o8 Tryz.prog 71 [lD 8 l b9.c, .agg (b9.c r_)] (fun x=>x=DB r):=by
 refine zy c7S [] [] [] Tryz.func71 rfl ?_;refine⟨rfl, ?_⟩;apply vb hm<;>intro _ hm;refine cy hm (a8N l) fun x2 hm=> ?_
 obtain⟨e4,hx5,hm⟩:=e9 hm;refine⟨b0J hx5,_,ldx (c:=cI) (z:=1) (pre:= []) (post:= []) (b:=0) (off:=0) (fun _=>rfl) hx5 rfl rfl (by omega) rfl, ?_⟩;exact hm.rr;exact hm.rr
def M2 (s:(List Int)) (n:Int):Option ((List Int)×Int):=
 if(decide (n<1))=true then
  none
 else
  some (s,n)
theorem a2H (s:(List Int)) (n:Int) (r:((List Int)×Int)) (hm:M2 s n=some r):o8 Tryz.prog 144 [lD 1 s a6d,DI n] (fun x=>x= .fn 164 [] [.ptr [lD 1 r.1 a6d] 0, .ptr [DI r.2] 0]):=by
 refine zn Tryz.func144 rfl ?_;apply vb hm<;>intro _ hm;cases hm;cases hm;exact c8z (c8x _)
def w4 (x:(List Int)):List D:= [lD 1 x a6d]
def r7 (c_0:(List Int)) (c_1:Int):Int→Option (List (List Int)×Sum Int Int):=fun i5=>
 if(decide (i5<(c_0.length:Int)))=true then
  gd ((0≤i5∧i5≤(c_0.length:Int)))<|
  Option.bind (some (sub c_0 (i5).toNat c_0.length)) fun sl11=>
  gd ((0≤(W (i5+(if(sl11.length:Int)<c_1 then(sl11.length:Int)else c_1)))∧(W (i5+(if(sl11.length:Int)<c_1 then(sl11.length:Int)else c_1)))≤(c_0.length:Int))∧(0≤(W (i5+(if(sl11.length:Int)<c_1 then(sl11.length:Int)else c_1)))∧(W (i5+(if(sl11.length:Int)<c_1 then(sl11.length:Int)else c_1)))≤(W (i5+(if(sl11.length:Int)<c_1 then(sl11.length:Int)else c_1))))∧(0≤i5∧i5≤(W (i5+(if(sl11.length:Int)<c_1 then(sl11.length:Int)else c_1)))))<|
  Option.bind (some (sub c_0 (i5).toNat ((W (i5+(if(sl11.length:Int)<c_1 then(sl11.length:Int)else c_1)))).toNat)) fun sl12=>
  emit sl12<|
  some ([], .inl (W (i5+c_1)))
 else
  some ([], .inr i5)
def C8 (c_0:(List Int)) (c_1:Int):Option (List (List Int)×Unit):=
 b3K (b0A (r7 c_0 c_1) 0) fun i14=>
 some ([],())
theorem a1T (c_0:(List Int)) (c_1:Int) (xs:List (List Int)) (hm:C8 c_0 c_1=some (xs,())):a5d Tryz.prog 164 [.ptr [lD 1 c_0 a6d] 0, .ptr [DI c_1] 0] (xs.map w4):=by
 refine b6D (X:=⟨Tryz.prog,tt,Tryz.f164.ntmps,c6B, [], [], [], [], []⟩) pok _ _ [] Tryz.func164 rfl rfl (F8 rfl) rfl ?_;intro l;obtain⟨r,hr⟩:∃r:List (List Int)×Unit,r=(xs,()):=⟨_,rfl⟩;rw [←hr]at hm;have hp:Hp3 w4 [] r.1 [] (xs.map w4):=⟨by rw [hr];simp⟩;clear hr;obtain⟨ev15,rr19,he,hk16,hb1,hb2⟩:=b1z hm;replace hp:=hp.in1 hb1;clear hb1 hb2;refine a8G.of (fun(lpx:Nat×Int)=>match lpx with|(fu17,i5)=>(⟨[(0, .v (.func (.yield l) #[] #[])),(1, .ptr [lD 1 c_0 a6d] 0),(2, .ptr [DI c_1] 0),(4,DI i5)], [],0⟩:Sy)) (fun lpx q=>∃e,a2T (r7 c_0 c_1) lpx.1 lpx.2=some e∧Hp3 w4 q e.1 _ _∧e.2=ev15.2) (fun lpx=>lpx.1) (W8,0) ⟨_,he,hp,rfl⟩ (sb 0) ?_
 clear hp he;rintro⟨fu17,i5⟩ q ⟨el21,hi18,hp,hx22⟩;obtain⟨fu17,b,tl,rfl,hm,hb1,hi18⟩:=b0O hi18;replace hp:=hp.in1 hb1;clear hb1;have hq:b.2=b.2:=rfl;apply vb hm<;>intro _ hm;refine⟨rfl, ?_⟩;obtain⟨hg,hm⟩:=j1 hm;obtain⟨sl25,hy,hm⟩:=e9 hm;refine⟨hg,_,(b1O (c:=a6d) (z:=1) (fun _=>rfl) _ _ _).trans (m9 _ (N6 hy)), ?_⟩;have hl:sl25.length=c_0.length-(i5).toNat:=by rw [←N6 hy];exact b4A (by omega)
 rw [←hl];obtain⟨hg,hm⟩:=j1 hm;obtain⟨sl26,hy,hm⟩:=e9 hm;refine⟨hg.1,hg.2.1,hg.2.2,_,(b1O (c:=a6d) (z:=1) (fun _=>rfl) _ _ _).trans (m9 _ (N6 hy)), ?_⟩;have hl:sl26.length=((W (i5+(if(sl25.length:Int)<c_1 then(sl25.length:Int)else c_1)))).toNat-(i5).toNat:=by rw [←N6 hy];exact b4A (by omega)
 rw [←hl];obtain⟨rb27,hm,hb1,hb2⟩:=b3G hm;refine a2K.of (x':=w4 sl26) rfl rfl (c8z (c8x _)) (hp.pre hb1) ?_ ?_;replace hp:=hp.emit hb1;replace hq:=hq.trans hb2;cases hm;rw [hq]at hi18;obtain⟨e2,hm,rfl,ht⟩:=hi18;exact⟨(fu17,(W (i5+c_1))),_,sb 0,rfl,⟨_,hm,hp.out rfl,ht.symm.trans hx22⟩,y6 _⟩;exact .inl rfl;cases hm;rw [hq]at hi18;obtain⟨rfl,ht⟩:=hi18;replace hp:=(hp.out (l':= []) rfl).out rfl;have hm:=hk16
 try rw [←hx22,ht]at hm
 clear hq;cases hm;exact .inr (m9 some (hp.done rfl))
def U6 (no:Int):(List c8)→(List Int)→Option (Sum (List c8) Unit):=fun v8 y7=>
 gd ((v8.length+([(⟨no,(v8.length:Int),0,(y7.length:Int),(a1p y7)⟩:c8)]:List c8).length)*48≤140737488355328∧v8.length+([(⟨no,(v8.length:Int),0,(y7.length:Int),(a1p y7)⟩:c8)]:List c8).length≤9223372036854775807)<|
 some (.inl (v8++([(⟨no,(v8.length:Int),0,(y7.length:Int),(a1p y7)⟩:c8)]:List c8)))
def H7 (v10:(List c8)):(Int×(List c8))→Option (Sum (Int×(List c8)) (Int×(List c8))):=fun(v16,v17)=>
 if(decide (v16<(v10.length:Int)))=true then
  Option.bind (idx v17 v16) fun e24=>
  Option.bind (idx v17 v16) fun e26=>
  some (.inl ((W (v16+1)),(v17.set v16.toNat (⟨e26.No,e26.Part,(v17.length:Int),e26.Size,e26.Text⟩:c8))))
 else
  some (.inr (v16,v17))
def P3 (r_:b9) (no:Int):Option (List c8):=
 Option.bind (E7 r_) fun x1=>
 gd (x1.size≤9223372036854775807)<|
 Option.bind (some (D0 x1)) fun by3=>
 Option.bind (M2 by3 24) fun⟨x4,x5⟩=>
 Option.bind (C8 x4 x5) fun l9=>
 Option.bind (J4 (U6 no) l9.1 []) fun e=>
 match e with
 | .inl v10=>
  Option.bind (w7 (H7 v10) (0,v10)) fun(v28,v29)=>
  some v29
 | .inr _=>none
theorem a2P (r_:b9) (no:Int) (r:(List c8)) (hm:P3 r_ no=some r):o8 Tryz.prog 96 [.agg (b9.c r_),DI no] (fun x=>x=lD 5 r c8.c):=by
 refine b9h (X:=⟨Tryz.prog,tt,Tryz.f96.ntmps, [], [], [], [], [], []⟩) pok _ Tryz.func96 rfl rfl (F8 rfl) ?_;intro ds;intro ds;intro ds;refine cy hm (a4N r_) fun x1 hm=> ?_
 obtain⟨hg,hm⟩:=j1 hm;obtain⟨by3,hy,hm⟩:=e9 hm;refine⟨⟨5, .string,by kernel_rfl,by kernel_rfl,by kernel_rfl⟩,hg,_,_,b1t (fun _=>rfl) hy, ?_⟩;clear hy;refine cy hm (a2H by3 24) ?_;rintro⟨x4,x5⟩ hm;obtain⟨l9,hl40,hm⟩:=e9 hm;obtain⟨ev39,he,hm⟩:=e9 hm;refine a2J.ofZ (E:=Unit) w4 l9.1 (U6 no) (fun(lpx:(List c8))=>match lpx with|v8=>(⟨[(0, .agg (b9.c r_)),(1,DI no),(2, .own 0 0),(3, .own 1 0),(4,nS),(5, .own 2 0)], [(0, .blk (b9.c r_) 38),(1, .blk [DI no] 3),(2, .blk [.row 3 5] 22),(3,rE 5 v8 c8.c 53)],4⟩:Sy)) (fun(_:Unit)=>(⟨[], [],0⟩:Sy)) (fun _=> .ret) [] ev39 [0,1,2,3,4,5] (a1T x4 x5 l9.1 hl40) he (b5l pok Tryz.func164 rfl) rfl rfl (fun _=>rfl) rfl rfl rfl (by rintro v8;rfl) (by intro _;rfl) (sb 3) ?_ ?_ (fun _=> .inl rfl) ?_
 rintro v10 rfl;intro ds;intro ds;obtain⟨ev30,he,hk31⟩:=e9 hm;refine c8A (H7 v10) (fun(v16,v17)=>⟨[(5, .own 2 0),(25,DI (v10.length:Int)),(26,DI v16)], [(2, .blk [.row 3 5] 22),(3,rE 5 v17 c8.c 53)],4⟩) (0,v10) (sb 4) he ?_;rintro fu32 ⟨v16,v17⟩ b hm hi33;apply vb hm<;>intro _ hm;refine eb hm fun _ hm=> ?_
 obtain⟨e37,hx38,hm⟩:=e9 hm;refine⟨_,c2y (fun _=>rfl) hx38,_,c4d (y:=(⟨e37.No,e37.Part,(v17.length:Int),e37.Size,e37.Text⟩:c8)) (fun _=>rfl) hx38, ?_⟩;cases hm;exact⟨(_,((W (v16+1)),(v17.set v16.toNat (⟨e37.No,e37.Part,(v17.length:Int),e37.Size,e37.Text⟩:c8)))),sb 4,hi33,y6 _⟩;cases hm;cases hi33;have hm:=hk31;intro ds;intro ds;cases hm;exact c8z (c8x _);rintro _ rfl;cases hm;clear he hm;rintro v8 y7 b hm;refine⟨⟨rfl,5,by kernel_rfl,by kernel_rfl,by kernel_rfl⟩,y7,b5e (fun _=>rfl) _, ?_⟩;refine⟨([(⟨no,(v8.length:Int),0,(y7.length:Int),(a1p y7)⟩:c8)]:List c8).flatMap c8.c,([(⟨no,(v8.length:Int),0,(y7.length:Int),(a1p y7)⟩:c8)]:List c8).length,⟨rfl,rfl⟩, ?_⟩;obtain⟨hg,hm⟩:=j1 hm;refine⟨hg,_,_,y0 (c:=c8.c) (l:=(v8:List c8)) (r:=(([(⟨no,(v8.length:Int),0,(y7.length:Int),(a1p y7)⟩:c8)]:List c8):List c8)), ?_⟩;cases hm;exact⟨(v8++([(⟨no,(v8.length:Int),0,(y7.length:Int),(a1p y7)⟩:c8)]:List c8)),rfl,sb 4⟩
def P4 (l:(List b9)):((List c8)×Int)→Option (Sum ((List c8)×Int) ((List c8)×Int)):=fun(out6,v7)=>
 if(decide (v7<(l.length:Int)))=true then
  Option.bind (idx l v7) fun e14=>
  Option.bind (P3 e14 v7) fun x16=>
  gd ((out6.length+x16.length)*48≤140737488355328∧out6.length+x16.length≤9223372036854775807)<|
  some (.inl ((out6++x16),(W (v7+1))))
 else
  some (.inr (out6,v7))
def a2g (l:(List b9)):Option (List c8):=
 Option.bind (w7 (P4 l) ([],0)) fun(out18,v19)=>
 some out18
theorem a3N (l:(List b9)) (r:(List c8)) (hm:a2g l=some r):o8 Tryz.prog 72 [lD 8 l b9.c] (fun x=>x=lD 5 r c8.c):=by
 refine zn Tryz.func72 rfl ?_;obtain⟨ev20,he,hk21⟩:=e9 hm;refine c8A (P4 l) (fun(out6,v7)=>⟨[(3, .row 0 5),(6,lD 8 l b9.c),(7,DI (l.length:Int)),(8,DI v7)], [(0,rE 5 out6 c8.c 53)],1⟩) ([],0) (sb 0) he ?_;rintro fu22 ⟨out6,v7⟩ b hm hi23;apply vb hm<;>intro _ hm;refine ei hm fun e25 hm=> ?_
 refine cy hm (a2P e25 v7) fun x27 hm=> ?_
 obtain⟨hg,hm⟩:=j1 hm;refine⟨hg,_,_,y0 (c:=c8.c) (l:=(out6:List c8)) (r:=(x27:List c8)), ?_⟩;cases hm;exact⟨(_,((out6++x27),(W (v7+1)))),sb 1,hi23,y6 _⟩;cases hm;cases hi23;have hm:=hk21;cases hm;exact c8z (c8x _)
abbrev a6G:MTy:=⟨114,119,9, [.int .i64, .int .i64, .int .i64],true, .string (⟨#[]⟩:ByteArray)⟩
theorem a3H:a7C Tryz.prog tt a6G:=⟨by kernel_rfl,rfl,by kernel_rfl,by kernel_rfl,rfl⟩
abbrev S9 (k:A1):List Value:= [.int .i64 k.no, .int .i64 k.part, .int .i64 k.parts]
abbrev a1F (x:ByteArray):Value:= .string x
theorem Z5 (a b:A1):N3 (S9 a) (y5 (C4 true (S9 b)))=decide (a=b):=by
 cases a;cases b;simp [N3,eqV,y5,C4,and_assoc];rfl
abbrev a3W (l:List (A1×ByteArray)):E:= .mp (mpE true S9 a1F l) a6G
abbrev a6J:MTy:=⟨115,3,3, [.int .i64],false, .int .i64 0⟩
theorem R7:a7C Tryz.prog tt a6J:=⟨by kernel_rfl,rfl,by kernel_rfl,by kernel_rfl,rfl⟩
abbrev E6 (k:Int):List Value:= [.int .i64 k]
abbrev K8 (x:Int):Value:= .int .i64 x
theorem C6 (a b:Int):N3 (E6 a) (y5 (C4 false (E6 b)))=decide (a=b):=by
 simp [N3,eqV,y5,C4];rfl
abbrev a3G (l:List (Int×Int)):E:= .mp (mpE false E6 K8 l) a6J
def H8 (x:c8):List D:= [.agg (c8.c x)]
def E0 (x1:(List c8)):Int→Option (List c8×Sum Int Int):=fun v10=>
 if(decide (v10<(x1.length:Int)))=true then
  Option.bind (idx x1 v10) fun e19=>
  Option.bind (V5 e19) fun x21=>
  if x21=true then
   emit e19<|
   some ([], .inl (W (v10+1)))
  else
   some ([], .inl (W (v10+1)))
 else
  some ([], .inr v10)
def S8 (c_0:m7):Option (List c8×Unit):=
 Option.bind (Y4 c_0) fun x1=>
 b3K (b0A (E0 x1) 0) fun v25=>
 some ([],())
theorem a9s (c_0:m7) (xs:List c8) (hm:S8 c_0=some (xs,())):a5d Tryz.prog 128 [.ptr [lD 5 c_0.Thread c8.c,lD 5 c_0.Loose c8.c] 0] (xs.map H8):=by
 refine b6D (X:=⟨Tryz.prog,tt,Tryz.f128.ntmps, [], [], [], [], [], []⟩) pok _ _ [] Tryz.func128 rfl rfl (F8 rfl) rfl ?_;intro l;obtain⟨r,hr⟩:∃r:List c8×Unit,r=(xs,()):=⟨_,rfl⟩;rw [←hr]at hm;have hp:Hp3 H8 [] r.1 [] (xs.map H8):=⟨by rw [hr];simp⟩;clear hr;refine cy hm (a5m c_0) fun x1 hm=> ?_
 obtain⟨ev26,rr30,he,hk27,hb1,hb2⟩:=b1z hm;replace hp:=hp.in1 hb1;clear hb1 hb2;refine a8G.of (fun(lpx:Nat×Int)=>match lpx with|(fu28,v10)=>(⟨[(0, .v (.func (.yield l) #[] #[])),(1, .ptr [lD 5 c_0.Thread c8.c,lD 5 c_0.Loose c8.c] 0),(6,lD 5 x1 c8.c),(7,DI (x1.length:Int)),(8,DI v10)], [],0⟩:Sy)) (fun lpx q=>∃e,a2T (E0 x1) lpx.1 lpx.2=some e∧Hp3 H8 q e.1 _ _∧e.2=ev26.2) (fun lpx=>lpx.1) (W8,0) ⟨_,he,hp,rfl⟩ (sb 0) ?_
 clear hp he;rintro⟨fu28,v10⟩ q ⟨el32,hi29,hp,hx33⟩;obtain⟨fu28,b,tl,rfl,hm,hb1,hi29⟩:=b0O hi29;replace hp:=hp.in1 hb1;clear hb1;have hq:b.2=b.2:=rfl;apply vb hm<;>intro _ hm;refine ei hm fun e36 hm=> ?_
 refine cy hm (a9w e36) fun x38 hm=> ?_
 apply vb hm<;>intro _ hm;obtain⟨rb41,hm,hb1,hb2⟩:=b3G hm;refine a2K.of (x':=H8 e36) rfl rfl (c8z (c8x _)) (hp.pre hb1) ?_ ?_;replace hp:=hp.emit hb1;replace hq:=hq.trans hb2;cases hm;rw [hq]at hi29;obtain⟨e2,hm,rfl,ht⟩:=hi29;exact⟨(fu28,(W (v10+1))),_,sb 0,rfl,⟨_,hm,hp.out rfl,ht.symm.trans hx33⟩,y6 _⟩;exact .inl rfl;cases hm;rw [hq]at hi29;obtain⟨e2,hm,rfl,ht⟩:=hi29;exact⟨(fu28,(W (v10+1))),_,sb 0,rfl,⟨_,hm,hp.out rfl,ht.symm.trans hx33⟩,y6 _⟩;cases hm;rw [hq]at hi29;obtain⟨rfl,ht⟩:=hi29;replace hp:=(hp.out (l':= []) rfl).out rfl;have hm:=hk27
 try rw [←hx33,ht]at hm
 clear hq;cases hm;exact .inr (m9 some (hp.done rfl))
def J7:((List (A1×ByteArray))×(List (Int×Int)))→c8→Option (Sum ((List (A1×ByteArray))×(List (Int×Int))) Unit):=fun(v9,v10) y3=>
 if(!((z8 v9 (⟨y3.No,y3.Part,y3.Parts⟩:A1)).isSome))=true then
  if(!((z8 v10 y3.No).isSome))=true then
   if(y3.Part==0)=true then
    some (.inl ((a4A v9 (⟨y3.No,y3.Part,y3.Parts⟩:A1) y3.Text),(a4A v10 y3.No y3.Parts)))
   else
    some (.inl ((a4A v9 (⟨y3.No,y3.Part,y3.Parts⟩:A1) y3.Text),v10))
  else
   some (.inl ((a4A v9 (⟨y3.No,y3.Part,y3.Parts⟩:A1) y3.Text),v10))
 else
  if(!((z8 v10 y3.No).isSome))=true then
   if(y3.Part==0)=true then
    some (.inl (v9,(a4A v10 y3.No y3.Parts)))
   else
    some (.inl (v9,v10))
  else
   some (.inl (v9,v10))
def B0 (v22:(List (A1×ByteArray))) (v23:(List (Int×Int))) (k45:Int):(ByteArray×Bool×Int)→Option (Sum (ByteArray×Bool×Int) (ByteArray×Bool×Int)):=fun(text68,fine69,v70)=>
 if(decide (v70<((z8 v23 k45).getD 0)))=true then
  gd (((text68.size+((z8 v22 (⟨k45,v70,((z8 v23 k45).getD 0)⟩:A1)).getD (⟨#[]⟩:ByteArray)).size:Nat):Int)≤9223372036854775807)<|
  if fine69=true then
   some (.inl ((text68++((z8 v22 (⟨k45,v70,((z8 v23 k45).getD 0)⟩:A1)).getD (⟨#[]⟩:ByteArray))),(z8 v22 (⟨k45,v70,((z8 v23 k45).getD 0)⟩:A1)).isSome,(W (v70+1))))
  else
   some (.inl ((text68++((z8 v22 (⟨k45,v70,((z8 v23 k45).getD 0)⟩:A1)).getD (⟨#[]⟩:ByteArray))),false,(W (v70+1))))
 else
  some (.inr (text68,fine69,v70))
def J9 (v22:(List (A1×ByteArray))) (v23:(List (Int×Int))):((List b9)×Int)→Option (Sum ((List b9)×Int) ((List b9)×Int)):=fun(out44,k45)=>
 Option.bind (w7 (B0 v22 v23 k45) ((⟨#[]⟩:ByteArray),(decide (((z8 v23 k45).getD 0)>0)),0)) fun(text75,fine76,v77)=>
 if(!fine76)=true then
  some (.inr (out44,k45))
 else
  Option.bind (E8 text75) fun⟨x79,x80⟩=>
  if(!x80)=true then
   some (.inr (out44,k45))
  else
   Option.bind (a0g out44 x79) fun x83=>
   if(!x83)=true then
    some (.inr (out44,k45))
   else
    gd ((out44.length+([x79]:List b9).length)*72≤140737488355328∧out44.length+([x79]:List b9).length≤9223372036854775807)<|
    some (.inl ((out44++([x79]:List b9)),(W (k45+1))))
def A4 (b_:m7):Option (m7×(List b9)):=
 Option.bind (a2I b_) fun x1=>
 Option.bind (S8 x1) fun l21=>
 Option.bind (J4 J7 l21.1 (([]:List (A1×ByteArray)),([]:List (Int×Int)))) fun e=>
 match e with
 | .inl (v22,v23)=>
  Option.bind (w7 (J9 v22 v23) ([],0)) fun(out100,k101)=>
  Option.bind (a2g out100) fun x102=>
  some ((⟨x102, []⟩:m7),out100)
 | .inr _=>none
theorem S6 (b_:m7) (r:(m7×(List b9))) (hm:A4 b_=some r):o8 Tryz.prog 15 [.agg (m7.c b_)] (fun x=>x= .tup [.agg (m7.c r.1),lD 8 r.2 b9.c]):=by
 refine b9h (X:=⟨Tryz.prog,tt,Tryz.f15.ntmps,c8k, [], [], [], [], []⟩) pok _ Tryz.func15 rfl rfl (F8 rfl) ?_;intro ds;intro ds;refine⟨a6G,⟨rfl,a3H⟩, ?_⟩;intro ds;refine⟨a6J,⟨rfl,R7⟩, ?_⟩;intro ds;refine cy hm (b2j b_) fun x1 hm=> ?_
 obtain⟨l21,hl155,hm⟩:=e9 hm;obtain⟨ev154,he,hm⟩:=e9 hm;refine a2J.ofZ (E:=Unit) H8 l21.1 J7 (fun(lpx:((List (A1×ByteArray))×(List (Int×Int))))=>match lpx with|(v9,v10)=>(⟨[(0, .agg [lD 5 b_.Thread c8.c,lD 5 b_.Loose c8.c]),(1, .own 0 0),(2, .own 1 0),(3,nS),(4, .own 3 0),(5, .own 5 0)], [(0, .blk [lD 5 b_.Thread c8.c,lD 5 b_.Loose c8.c] 24),(1, .blk [nS,nS] 24),(2,a3W v9),(3, .blk [.row 2 0] 114),(4,a3G v10),(5, .blk [.row 4 0] 115)],6⟩:Sy)) (fun(_:Unit)=>(⟨[], [],0⟩:Sy)) (fun _=> .ret) (([]:List (A1×ByteArray)),([]:List (Int×Int))) ev154 [0,1,2,3,4,5] (a9s x1 l21.1 hl155) he (b5l pok Tryz.func128 rfl) rfl rfl (fun _=>rfl) rfl rfl rfl (by rintro⟨v9,v10⟩;rfl) (by intro _;rfl) (E1.of 6 rfl (tA rfl) ⟨hR rfl,hR rfl,⟨_,rfl,rfl⟩,hR rfl,⟨_,rfl,rfl⟩,hR rfl,trivial⟩) ?_ ?_ (fun _=> .inl rfl) ?_
 rintro⟨v22,v23⟩ rfl;intro ds;intro ds;intro ds;obtain⟨ev104,he,hk105⟩:=e9 hm;refine c8A (J9 v22 v23) (fun(out44,k45)=>⟨[(2, .own 1 0),(4, .own 3 0),(5, .own 5 0),(12, .row 6 8),(13,DI k45)], [(1, .blk [nS,nS] 24),(2,a3W v22),(3, .blk [.row 2 0] 114),(4,a3G v23),(5, .blk [.row 4 0] 115),(6,rE 8 out44 b9.c 38)],7⟩) ([],0) (E1.of 6 rfl (tA rfl) ⟨hR rfl,⟨_,rfl,rfl⟩,hR rfl,⟨_,rfl,rfl⟩,hR rfl,⟨rfl,rfl⟩,trivial⟩) he ?_;rintro fu106 ⟨out44,k45⟩ b hm hi107;refine⟨rfl, ?_⟩;refine⟨⟨R7,rfl⟩,E6 k45,_,_,⟨rfl,⟨rfl,trivial⟩,a2l (ev:=K8) (z':=0) C6 rfl,a2f C6,rfl⟩, ?_⟩;refine⟨⟨R7,rfl⟩,E6 k45,_,_,⟨rfl,⟨rfl,trivial⟩,a2l (ev:=K8) (z':=0) C6 rfl,a2f C6,rfl⟩, ?_⟩;obtain⟨ev134,he,hk135⟩:=e9 hm;refine c8A (B0 v22 v23 k45) (fun(text110,fine111,v112)=>⟨[(2, .own 1 0),(4, .own 3 0),(5, .own 5 0),(12, .row 6 8),(13,DI k45),(14, .v (.string text110)),(15,DB fine111),(72,DI ((z8 v23 k45).getD 0)),(73,DI v112)], [(1, .blk [nS,nS] 24),(2,a3W v22),(3, .blk [.row 2 0] 114),(4,a3G v23),(5, .blk [.row 4 0] 115),(6,rE 8 out44 b9.c 38)],7⟩) ((⟨#[]⟩:ByteArray),(decide (((z8 v23 k45).getD 0)>0)),0) (E1.of 7 rfl (tA rfl) ⟨hR rfl,⟨_,rfl,rfl⟩,hR rfl,⟨_,rfl,rfl⟩,hR rfl,hW rfl,trivial⟩) he ?_;rintro fu136 ⟨text110,fine111,v112⟩ b hm hi137;apply vb hm<;>intro _ hm;refine⟨⟨R7,rfl⟩,E6 k45,_,_,⟨rfl,⟨rfl,trivial⟩,a2l (ev:=K8) (z':=0) C6 rfl,a2f C6,rfl⟩, ?_⟩;refine⟨⟨a3H,rfl⟩,S9 (⟨k45,v112,((z8 v23 k45).getD 0)⟩:A1),_,_,⟨rfl,⟨rfl,rfl,rfl,trivial⟩,a2l (ev:=a1F) (z':=(⟨#[]⟩:ByteArray)) Z5 rfl,a2f Z5,rfl⟩, ?_⟩;obtain⟨hg,hm⟩:=j1 hm;refine⟨hg, ?_⟩;apply vb hm<;>intro _ hm;cases hm;exact⟨(_,((text110++((z8 v22 (⟨k45,v112,((z8 v23 k45).getD 0)⟩:A1)).getD (⟨#[]⟩:ByteArray))),(z8 v22 (⟨k45,v112,((z8 v23 k45).getD 0)⟩:A1)).isSome,(W (v112+1)))),E1.of 7 rfl (tA rfl) ⟨hR rfl,⟨_,rfl,rfl⟩,hR rfl,⟨_,rfl,rfl⟩,hR rfl,hW rfl,trivial⟩,hi137,y6 _⟩;cases hm;exact⟨(_,((text110++((z8 v22 (⟨k45,v112,((z8 v23 k45).getD 0)⟩:A1)).getD (⟨#[]⟩:ByteArray))),false,(W (v112+1)))),E1.of 7 rfl (tA rfl) ⟨hR rfl,⟨_,rfl,rfl⟩,hR rfl,⟨_,rfl,rfl⟩,hR rfl,hW rfl,trivial⟩,hi137,y6 _⟩;cases hm;cases hi137;have hm:=hk135;apply vb hm<;>intro _ hm;cases hm;cases hi107;have hm:=hk105;intro ds;refine co hm (a3N out44) fun x141 hm=> ?_
 intro ds;cases hm;exact c8z (le1);refine cy hm (b1k text110) ?_;rintro⟨x143,x144⟩ hm;apply vb hm<;>intro _ hm;cases hm;cases hi107;have hm:=hk105;intro ds;refine co hm (a3N out44) fun x147 hm=> ?_
 intro ds;cases hm;exact c8z (le1);refine co hm (a7m out44 x143) fun x149 hm=> ?_
 apply vb hm<;>intro _ hm;cases hm;cases hi107;have hm:=hk105;intro ds;refine co hm (a3N out44) fun x152 hm=> ?_
 intro ds;cases hm;exact c8z (le1);refine⟨([x143]:List b9).flatMap b9.c,([x143]:List b9).length,⟨rfl,rfl⟩, ?_⟩;obtain⟨hg,hm⟩:=j1 hm;refine⟨hg,_,_,y0 (c:=b9.c) (l:=(out44:List b9)) (r:=(([x143]:List b9):List b9)), ?_⟩;cases hm;exact⟨(_,((out44++([x143]:List b9)),(W (k45+1)))),E1.of 7 rfl (tA rfl) ⟨hR rfl,⟨_,rfl,rfl⟩,hR rfl,⟨_,rfl,rfl⟩,hR rfl,hW rfl,trivial⟩,hi107,y6 _⟩;rintro _ rfl;cases hm;clear he hm;rintro⟨v9,v10⟩ y3 b hm;refine⟨⟨a3H,rfl⟩,S9 (⟨y3.No,y3.Part,y3.Parts⟩:A1),_,_,⟨rfl,⟨rfl,rfl,rfl,trivial⟩,a2l (ev:=a1F) (z':=(⟨#[]⟩:ByteArray)) Z5 rfl,a2f Z5,rfl⟩, ?_⟩;apply vb hm<;>intro _ hm;refine⟨⟨a3H,rfl,rfl⟩,S9 (⟨y3.No,y3.Part,y3.Parts⟩:A1),_,⟨rfl,⟨rfl,rfl,rfl,trivial⟩,b4e (ev:=a1F) (v:=y3.Text) Z5⟩, ?_⟩;refine⟨⟨R7,rfl⟩,E6 y3.No,_,_,⟨rfl,⟨rfl,trivial⟩,a2l (ev:=K8) (z':=0) C6 rfl,a2f C6,rfl⟩, ?_⟩;apply vb hm<;>intro _ hm;apply vb hm<;>intro _ hm;refine⟨⟨R7,rfl,rfl⟩,E6 y3.No,_,⟨rfl,⟨rfl,trivial⟩,b4e (ev:=K8) (v:=y3.Parts) C6⟩, ?_⟩;cases hm;exact⟨((a4A v9 (⟨y3.No,y3.Part,y3.Parts⟩:A1) y3.Text),(a4A v10 y3.No y3.Parts)),rfl,E1.of 6 rfl (tA rfl) ⟨hR rfl,hR rfl,⟨_,rfl,rfl⟩,hR rfl,⟨_,rfl,rfl⟩,hR rfl,trivial⟩⟩;cases hm;exact⟨((a4A v9 (⟨y3.No,y3.Part,y3.Parts⟩:A1) y3.Text),v10),rfl,E1.of 6 rfl (tA rfl) ⟨hR rfl,hR rfl,⟨_,rfl,rfl⟩,hR rfl,⟨_,rfl,rfl⟩,hR rfl,trivial⟩⟩;cases hm;exact⟨((a4A v9 (⟨y3.No,y3.Part,y3.Parts⟩:A1) y3.Text),v10),rfl,E1.of 6 rfl (tA rfl) ⟨hR rfl,hR rfl,⟨_,rfl,rfl⟩,hR rfl,⟨_,rfl,rfl⟩,hR rfl,trivial⟩⟩;refine⟨⟨R7,rfl⟩,E6 y3.No,_,_,⟨rfl,⟨rfl,trivial⟩,a2l (ev:=K8) (z':=0) C6 rfl,a2f C6,rfl⟩, ?_⟩;apply vb hm<;>intro _ hm;apply vb hm<;>intro _ hm;refine⟨⟨R7,rfl,rfl⟩,E6 y3.No,_,⟨rfl,⟨rfl,trivial⟩,b4e (ev:=K8) (v:=y3.Parts) C6⟩, ?_⟩;cases hm;exact⟨(v9,(a4A v10 y3.No y3.Parts)),rfl,E1.of 6 rfl (tA rfl) ⟨hR rfl,hR rfl,⟨_,rfl,rfl⟩,hR rfl,⟨_,rfl,rfl⟩,hR rfl,trivial⟩⟩;cases hm;exact⟨(v9,v10),rfl,E1.of 6 rfl (tA rfl) ⟨hR rfl,hR rfl,⟨_,rfl,rfl⟩,hR rfl,⟨_,rfl,rfl⟩,hR rfl,trivial⟩⟩;cases hm;exact⟨(v9,v10),rfl,E1.of 6 rfl (tA rfl) ⟨hR rfl,hR rfl,⟨_,rfl,rfl⟩,hR rfl,⟨_,rfl,rfl⟩,hR rfl,trivial⟩⟩
def O1 (b_:m7):Option m7:=
 Option.bind (Y4 b_) fun x1=>
 some (⟨x1, []⟩:m7)
theorem a7s (b_:m7) (r:m7) (hm:O1 b_=some r):o8 Tryz.prog 19 [.agg (m7.c b_)] (fun x=>x= .agg (m7.c r)):=by
 refine zn Tryz.func19 rfl ?_;refine cy hm (a5m b_) fun x1 hm=> ?_
 cases hm;exact c8z (le2)
def o0 (s:List c8):Option (List c8):=gd (s.length*48≤140737488355328∧s.length≤9223372036854775807) (some s)
theorem L4 (s:List c8) (r:List c8) (hm:o0 s=some r):o8 Tryz.prog 78 [.lst 5 s.length (s.flatMap c8.c)] (fun x=>x= .lst 5 r.length (r.flatMap c8.c)):=by
 obtain⟨hg,hm⟩:=j1 hm;cases hm;refine zn Tryz.func78 rfl ?_;intro b hb;refine VIf.mk (fun h=> ?_) (fun h=> ?_)
 · have h0:=hb h;have h1:s= []:=a2h h0;subst h1;exact c8z c8y
 · refine⟨[],0,⟨rfl,rfl⟩, ?_⟩;exact⟨by omega,s.flatMap c8.c,s.length,⟨rfl,P2 _⟩,c8z (c8x _)⟩
theorem D6 (s:List c8) (r:List c8) (hm:o0 s=some r):b2N Tryz.prog 78 [.lst 5 s.length (s.flatMap c8.c)] 5 r.length (r.flatMap c8.c) 53:=by
 obtain⟨hg,hm⟩:=j1 hm;cases hm;refine b8R (X:=⟨Tryz.prog,tt,Tryz.f78.ntmps, [], [], [], [], [], []⟩) pok _ Tryz.func78 rfl rfl (F8 rfl) ?_;intro b hb;refine VIf.mk (fun h=> ?_) (fun h=> ?_)
 · have h0:=hb h;have h1:s= []:=a2h h0;subst h1;exact⟨rfl,rfl⟩
 · refine⟨[],0,⟨rfl,rfl⟩, ?_⟩;exact⟨by omega,s.flatMap c8.c,s.length,⟨rfl,P2 _⟩,⟨rfl,rfl⟩⟩
def Z0 (picks:(List Int)) (i:Int) (n:Int):Option Int:=
 if((picks.length:Int)==0)=true then
  some 0
 else
  gd ((picks.length:Int)≠0)<|
  Option.bind (idx picks (i.tmod (picks.length:Int))) fun e2=>
  gd (n≠0)<|
  gd (n≠0)<|
  some ((W ((e2.tmod n)+n)).tmod n)
theorem a7H (picks:(List Int)) (i:Int) (n:Int) (r:Int) (hm:Z0 picks i n=some r):o8 Tryz.prog 79 [lD 1 picks cI,DI i,DI n] (fun x=>x=DI r):=by
 refine zn Tryz.func79 rfl ?_;apply vb hm<;>intro _ hm;exact hm.rr;obtain⟨hg,hm⟩:=j1 hm;refine⟨hg, ?_⟩;refine ei hm fun _ hm=> ?_
 obtain⟨hg,hm⟩:=j1 hm;refine⟨hg, ?_⟩;obtain⟨hg,hm⟩:=j1 hm;refine⟨hg, ?_⟩;exact hm.rr
def C9 (s:(List c8)) (i:Int) (v:(List c8)):Option (List c8):=
 gd (0≤i∧i.toNat≤s.length)<|
 if((v.length:Int)==0)=true then
  some s
 else
  if(i==(s.length:Int))=true then
   gd ((s.length+v.length)*48≤140737488355328∧s.length+v.length≤9223372036854775807)<|
   some (s++v)
  else
   gd (0≤i∧i.toNat<s.length∧0<v.length∧(s.length+v.length)*48≤140737488355328∧s.length+v.length≤9223372036854775807) (some (s.take i.toNat++v++s.drop i.toNat))
theorem Y8 (s:(List c8)) (i:Int) (v:(List c8)) (r:(List c8)) (hm:C9 s i v=some r):b9t Tryz.prog 80 5 s.length (s.flatMap c8.c) 53 [DI i,lD 5 v c8.c] 5 r.length (r.flatMap c8.c):=by
 obtain⟨hg0,hm⟩:=j1 hm;refine c0G (X:=⟨Tryz.prog,tt,Tryz.f80.ntmps, [], [], [], [], [], []⟩) (t:=22) (tI:=3) (tB:=4) (ov:=132) (ty:=53) (args:= [lD 5 v c8.c]) pok Tryz.func80 rfl rfl .mk .mk (F8 rfl) hg0 rfl rfl rfl rfl rfl rfl (by kernel_rfl) ⟨⟨_,4,Tryz.func132,by kernel_rfl,by kernel_rfl,by kernel_rfl,by kernel_rfl⟩⟩ (by decide) ?_;apply vb hm<;>intro _ hm;cases hm;exact⟨rfl,rfl⟩;apply vb hm<;>intro _ hm;obtain⟨hg,hm⟩:=j1 hm;refine⟨hg,_,_,y0 (c:=c8.c) (l:=(s:List c8)) (r:=(v:List c8)), ?_⟩;cases hm;exact⟨rfl,rfl⟩;obtain⟨hg,hm⟩:=j1 hm;cases hm;exact c6S (fun _=>rfl) hg
def a1j (s:ByteArray):Option ByteArray:=
 Option.bind (G4 s) fun x1=>
 some x1
theorem a9u (s:ByteArray) (r:ByteArray) (hm:a1j s=some r):o8 Tryz.prog 81 [.v (.string s)] (fun x=>x= .v (.string r)):=by
 refine zn Tryz.func81 rfl ?_;refine cy hm (a1k s) fun x1 hm=> ?_
 cases hm;exact c8z (c8x _)
def K5 (b_:m7) (picks:(List Int)):(Int×(List c8)×(List c8)×(List c8)×(List c8))→Option (Sum (Int×(List c8)×(List c8)×(List c8)×(List c8)) (Int×(List c8)×(List c8)×(List c8)×(List c8))):=fun(v18,v19,v20,v21,v22)=>
 if(decide (v18<(b_.Loose.length:Int)))=true then
  Option.bind (idx b_.Loose v18) fun e39=>
  Option.bind (Z0 picks (W (2*v18)) 4) fun x41=>
  if(x41==0)=true then
   some (.inl ((W (v18+1)),v19,v20,v21,v22))
  else
   if(x41==3)=true then
    Option.bind (C9 v22 0 ([e39]:List c8)) fun x45=>
    some (.inl ((W (v18+1)),v19,v20,v21,x45))
   else
    if(x41==1)=true then
     if(decide ((e39.Text.size:Int)>0))=true then
      Option.bind (Z0 picks (W ((W (2*v18))+1)) (e39.Text.size:Int)) fun x49=>
      gd ((0≤x49∧x49≤(e39.Text.size:Int)))<|
      Option.bind (a1j (e39.Text.extract 0 ((x49).toNat))) fun x51=>
      gd ((v22.length+([(⟨e39.No,e39.Part,e39.Parts,e39.Size,x51⟩:c8)]:List c8).length)*48≤140737488355328∧v22.length+([(⟨e39.No,e39.Part,e39.Parts,e39.Size,x51⟩:c8)]:List c8).length≤9223372036854775807)<|
      some (.inl ((W (v18+1)),v19,v20,v21,(v22++([(⟨e39.No,e39.Part,e39.Parts,e39.Size,x51⟩:c8)]:List c8))))
     else
      gd ((v22.length+([e39]:List c8).length)*48≤140737488355328∧v22.length+([e39]:List c8).length≤9223372036854775807)<|
      some (.inl ((W (v18+1)),v19,v20,v21,(v22++([e39]:List c8))))
    else
     gd ((v22.length+([e39]:List c8).length)*48≤140737488355328∧v22.length+([e39]:List c8).length≤9223372036854775807)<|
     some (.inl ((W (v18+1)),v19,v20,v21,(v22++([e39]:List c8))))
 else
  some (.inr (v18,v19,v20,v21,v22))
def A3 (b_:m7) (picks:(List Int)):Option m7:=
 Option.bind (o0 b_.Thread) fun x1=>
 Option.bind (w7 (K5 b_ picks) (0, [], [], [], [])) fun(v53,v54,v55,v56,v57)=>
 some (⟨x1,v57⟩:m7)
theorem S4 (b_:m7) (picks:(List Int)) (r:m7) (hm:A3 b_ picks=some r):o8 Tryz.prog 21 [.agg (m7.c b_),lD 1 picks cI] (fun x=>x= .agg (m7.c r)):=by
 refine zy c7T [80,112,155,175] [78] [] Tryz.func21 rfl ?_;obtain⟨x1,hx2,hm⟩:=e9 hm;refine .inl (a5n.mk ⟨_,_,_,_,D6 b_.Thread _ hx2, ?_⟩);obtain⟨ev58,he,hk59⟩:=e9 hm;refine c8A (K5 b_ picks) (fun(v18,v19,v20,v21,v22)=>⟨[(1,lD 1 picks cI),(4, .own 1 0),(5, .own 3 0),(14,lD 5 b_.Loose c8.c),(15,DI (b_.Loose.length:Int)),(16,DI v18)], [(1, .blk [nS,nS] 24),(2,rE 5 x1 c8.c 53),(3, .blk [.row 2 5, .row 7 5] 24),(4,rE 5 v19 c8.c 53),(5,rE 5 v20 c8.c 53),(6,rE 5 v21 c8.c 53),(7,rE 5 v22 c8.c 53)],8⟩) (0, [], [], [], []) (sb 4) he ?_;rintro fu60 ⟨v18,v19,v20,v21,v22⟩ b hm hi61;apply vb hm<;>intro _ hm;refine ei hm fun e63 hm=> ?_
 refine cy hm (a7H picks (W (2*v18)) 4) fun x65 hm=> ?_
 apply vb hm<;>intro _ hm;cases hm;exact⟨(_,((W (v18+1)),v19,v20,v21,v22)),sb 8,hi61,y6 _⟩;apply vb hm<;>intro _ hm;refine⟨([e63]:List c8).flatMap c8.c,([e63]:List c8).length,⟨rfl,rfl⟩, ?_⟩;obtain⟨x69,hx70,hm⟩:=e9 hm;refine .inl (c1d.mk ⟨_,_,_,_,_,_,_,rfl,Y8 v22 0 (([e63]:List c8)) _ hx70, ?_⟩);cases hm;exact⟨(_,((W (v18+1)),v19,v20,v21,x69)),sb 8,hi61,y6 _⟩;apply vb hm<;>intro _ hm;apply vb hm<;>intro _ hm;refine⟨rfl, ?_⟩;refine cy hm (a7H picks (W ((W (2*v18))+1)) ((e63.Text.size:Int))) fun x73 hm=> ?_
 obtain⟨hg,hm⟩:=j1 hm;refine⟨hg, ?_⟩;refine cy hm (a9u (e63.Text.extract 0 ((x73).toNat))) fun x75 hm=> ?_
 refine⟨([(⟨e63.No,e63.Part,e63.Parts,e63.Size,x75⟩:c8)]:List c8).flatMap c8.c,([(⟨e63.No,e63.Part,e63.Parts,e63.Size,x75⟩:c8)]:List c8).length,⟨rfl,rfl⟩, ?_⟩;obtain⟨hg,hm⟩:=j1 hm;refine⟨hg,_,_,y0 (c:=c8.c) (l:=(v22:List c8)) (r:=(([(⟨e63.No,e63.Part,e63.Parts,e63.Size,x75⟩:c8)]:List c8):List c8)), ?_⟩;cases hm;exact⟨(_,((W (v18+1)),v19,v20,v21,(v22++([(⟨e63.No,e63.Part,e63.Parts,e63.Size,x75⟩:c8)]:List c8)))),sb 8,hi61,y6 _⟩;refine⟨([e63]:List c8).flatMap c8.c,([e63]:List c8).length,⟨rfl,rfl⟩, ?_⟩;obtain⟨hg,hm⟩:=j1 hm;refine⟨hg,_,_,y0 (c:=c8.c) (l:=(v22:List c8)) (r:=(([e63]:List c8):List c8)), ?_⟩;cases hm;exact⟨(_,((W (v18+1)),v19,v20,v21,(v22++([e63]:List c8)))),sb 8,hi61,y6 _⟩;refine⟨([e63]:List c8).flatMap c8.c,([e63]:List c8).length,⟨rfl,rfl⟩, ?_⟩;obtain⟨hg,hm⟩:=j1 hm;refine⟨hg,_,_,y0 (c:=c8.c) (l:=(v22:List c8)) (r:=(([e63]:List c8):List c8)), ?_⟩;cases hm;exact⟨(_,((W (v18+1)),v19,v20,v21,(v22++([e63]:List c8)))),sb 8,hi61,y6 _⟩;cases hm;cases hi61;have hm:=hk59;cases hm;exact c8z (c8x _)
def I8 (l:(List b9)):Int→Option (Sum Int (Sum Int Bool)):=fun v11=>
 if(decide (v11<(l.length:Int)))=true then
  Option.bind (idx l v11) fun e23=>
  Option.bind (o6 e23) fun x25=>
  if(!x25)=true then
   some (.inr (.inr false))
  else
   gd ((0≤v11∧v11≤(l.length:Int)))<|
   Option.bind (some (sub l 0 (v11).toNat)) fun sl28=>
   Option.bind (a0g sl28 e23) fun x29=>
   if(!x29)=true then
    some (.inr (.inr false))
   else
    some (.inl (W (v11+1)))
 else
  some (.inr (.inl v11))
def O2 (l:(List b9)):Option Bool:=
 Option.bind (w7 (I8 l) 0) fun e=>
 match e with
 | .inl v32=>
  some true
 | .inr rr33=>
  some rr33
theorem a6K (l:(List b9)) (r:Bool) (hm:O2 l=some r):o8 Tryz.prog 107 [lD 8 l b9.c] (fun x=>x=DB r):=by
 refine zy c6j [] [] [] Tryz.func107 rfl ?_;obtain⟨ev34,he,hk35⟩:=e9 hm;refine c8A (I8 l) (fun v11=>⟨[(0,lD 8 l b9.c),(5,lD 8 l b9.c),(6,DI (l.length:Int)),(7,DI v11)], [],0⟩) 0 (sb 0) he ?_;rintro fu36 v11 b hm hi37;apply vb hm<;>intro _ hm;refine ei hm fun e39 hm=> ?_
 refine⟨rfl, ?_⟩;refine cy hm (z7 e39) fun x41 hm=> ?_
 apply vb hm<;>intro _ hm;cases hm;cases hi37;have hm:=hk35;exact hm.rr;obtain⟨hg,hm⟩:=j1 hm;obtain⟨sl44,hy,hm⟩:=e9 hm;refine⟨hg,_,(b1O (c:=b9.c) (z:=8) (fun _=>rfl) _ _ _).trans (m9 _ (N6 hy)), ?_⟩;have hl:sl44.length=(v11).toNat-0:=by rw [←N6 hy];exact b4A (by omega)
 rw [←hl];refine cy hm (a7m sl44 e39) fun x45 hm=> ?_
 apply vb hm<;>intro _ hm;cases hm;cases hi37;have hm:=hk35;exact hm.rr;cases hm;exact⟨(_,(W (v11+1))),sb 0,hi37,y6 _⟩;cases hm;cases hi37;have hm:=hk35;exact hm.rr
def w9 (s1:(List c8)) (s2:(List c8)):Int→Option (Sum Int (Sum Int Bool)):=fun v8=>
 if(decide (v8<(s1.length:Int)))=true then
  Option.bind (idx s1 v8) fun e16=>
  Option.bind (idx s2 v8) fun e18=>
  if(!((e16.No==e18.No)&&((e16.Part==e18.Part)&&((e16.Parts==e18.Parts)&&((e16.Size==e18.Size)&&(e16.Text.toList==e18.Text.toList))))))=true then
   some (.inr (.inr false))
  else
   some (.inl (W (v8+1)))
 else
  some (.inr (.inl v8))
def A2 (s1:(List c8)) (s2:(List c8)):Option Bool:=
 if((s1.length:Int) !=(s2.length:Int))=true then
  some false
 else
  Option.bind (w7 (w9 s1 s2) 0) fun e=>
  match e with
  | .inl v21=>
   some true
  | .inr rr22=>
   some rr22
theorem a0l (s1:(List c8)) (s2:(List c8)) (r:Bool) (hm:A2 s1 s2=some r):o8 Tryz.prog 135 [lD 5 s1 c8.c,lD 5 s2 c8.c] (fun x=>x=DB r):=by
 refine zy c7h [] [] [] Tryz.func135 rfl ?_;apply vb hm<;>intro _ hm;exact hm.rr;obtain⟨ev23,he,hk24⟩:=e9 hm;refine c8A (w9 s1 s2) (fun v8=>⟨[(0,lD 5 s1 c8.c),(1,lD 5 s2 c8.c),(12,DI (s1.length:Int)),(13,DI v8)], [],0⟩) 0 (sb 0) he ?_;rintro fu25 v8 b hm hi26;apply vb hm<;>intro _ hm;refine⟨rfl, ?_⟩;refine ei hm fun _ hm=> ?_
 refine ei hm fun _ hm=> ?_
 apply vb hm<;>intro _ hm;cases hm;cases hi26;have hm:=hk24;exact hm.rr;cases hm;exact⟨(_,(W (v8+1))),sb 0,hi26,y6 _⟩;cases hm;cases hi26;have hm:=hk24;exact hm.rr
def a1D (b_:m7) (written:(List b9)):Option Bool:=
 Option.bind (O2 written) fun x1=>
 if x1=true then
  Option.bind (Y4 b_) fun x4=>
  Option.bind (a2g written) fun x6=>
  Option.bind (A2 x4 x6) fun x8=>
  some x8
 else
  some false
theorem b4s (b_:m7) (written:(List b9)) (r:Bool) (hm:a1D b_ written=some r):o8 Tryz.prog 83 [.agg (m7.c b_),lD 8 written b9.c] (fun x=>x=DB r):=by
 refine zn Tryz.func83 rfl ?_;refine cy hm (a6K written) fun x1 hm=> ?_
 apply vb hm<;>intro _ hm;refine cy hm (a5m b_) fun x4 hm=> ?_
 refine cy hm (a3N written) fun x6 hm=> ?_
 refine cy hm (a0l x4 x6) fun x8 hm=> ?_
 exact hm.rr;exact hm.rr
def L3 (b_:Q1):(Int×Int×Int)→Option (Sum (Int×Int×Int) (Sum (Int×Int×Int) Bool)):=fun(v25,v26,v27)=>
 if(decide (v25<(b_.Records.length:Int)))=true then
  Option.bind (idx b_.Records v25) fun e53=>
  if(e53.At.Depot==v26)=true then
   if(e53.At.No==(W (v27+1)))=true then
    Option.bind (o6 e53) fun x57=>
    if(!x57)=true then
     some (.inr (.inr false))
    else
     some (.inl ((W (v25+1)),e53.At.Depot,e53.At.No))
   else
    if(decide (e53.At.Depot>v26))=true then
     Option.bind (o6 e53) fun x61=>
     if(!x61)=true then
      some (.inr (.inr false))
     else
      if(!(e53.At.No==0))=true then
       some (.inr (.inr false))
      else
       some (.inl ((W (v25+1)),e53.At.Depot,e53.At.No))
    else
     Option.bind (o6 e53) fun x65=>
     if(!x65)=true then
      some (.inr (.inr false))
     else
      some (.inr (.inr false))
  else
   if(decide (e53.At.Depot>v26))=true then
    Option.bind (o6 e53) fun x69=>
    if(!x69)=true then
     some (.inr (.inr false))
    else
     if(!(e53.At.No==0))=true then
      some (.inr (.inr false))
     else
      some (.inl ((W (v25+1)),e53.At.Depot,e53.At.No))
   else
    Option.bind (o6 e53) fun x73=>
    if(!x73)=true then
     some (.inr (.inr false))
    else
     some (.inr (.inr false))
 else
  some (.inr (.inl (v25,v26,v27)))
def a0j (b_:Q1):Option Bool:=
 Option.bind (w7 (L3 b_) (0,(-1),0)) fun e=>
 match e with
 | .inl (v76,v77,v78)=>
  some (decide ((b_.Records.length:Int)≤60))
 | .inr rr79=>
  some rr79
theorem b1M (b_:Q1) (r:Bool) (hm:a0j b_=some r):o8 Tryz.prog 101 [.agg (Q1.c b_)] (fun x=>x=DB r):=by
 refine zn Tryz.func101 rfl ?_;obtain⟨ev80,he,hk81⟩:=e9 hm;refine c8A (L3 b_) (fun(v25,v26,v27)=>⟨[(1, .own 0 0),(3, .own 1 0),(9,lD 8 b_.Records b9.c),(10,DI (b_.Records.length:Int)),(11,DI v25)], [(0, .blk [lD 8 b_.Records b9.c] 70),(1, .blk [DI v26,DI v27] 36)],2⟩) (0,(-1),0) (sb 2) he ?_;rintro fu82 ⟨v25,v26,v27⟩ b hm hi83;apply vb hm<;>intro _ hm;refine ei hm fun e85 hm=> ?_
 apply vb hm<;>intro _ hm;apply vb hm<;>intro _ hm;refine cy hm (z7 e85) fun x89 hm=> ?_
 apply vb hm<;>intro _ hm;cases hm;cases hi83;have hm:=hk81;exact hm.rr;cases hm;exact⟨(_,((W (v25+1)),e85.At.Depot,e85.At.No)),sb 2,hi83,y6 _⟩;apply vb hm<;>intro _ hm;refine cy hm (z7 e85) fun x93 hm=> ?_
 apply vb hm<;>intro _ hm;cases hm;cases hi83;have hm:=hk81;exact hm.rr;apply vb hm<;>intro _ hm;cases hm;cases hi83;have hm:=hk81;exact hm.rr;cases hm;exact⟨(_,((W (v25+1)),e85.At.Depot,e85.At.No)),sb 2,hi83,y6 _⟩;refine cy hm (z7 e85) fun x97 hm=> ?_
 apply vb hm<;>intro _ hm;cases hm;cases hi83;have hm:=hk81;exact hm.rr;cases hm;cases hi83;have hm:=hk81;exact hm.rr;apply vb hm<;>intro _ hm;refine cy hm (z7 e85) fun x101 hm=> ?_
 apply vb hm<;>intro _ hm;cases hm;cases hi83;have hm:=hk81;exact hm.rr;apply vb hm<;>intro _ hm;cases hm;cases hi83;have hm:=hk81;exact hm.rr;cases hm;exact⟨(_,((W (v25+1)),e85.At.Depot,e85.At.No)),sb 2,hi83,y6 _⟩;refine cy hm (z7 e85) fun x105 hm=> ?_
 apply vb hm<;>intro _ hm;cases hm;cases hi83;have hm:=hk81;exact hm.rr;cases hm;cases hi83;have hm:=hk81;exact hm.rr;cases hm;cases hi83;have hm:=hk81;exact hm.rr
def l7 (s:List b9):Option (List b9):=gd (s.length*72≤140737488355328∧s.length≤9223372036854775807) (some s)
theorem a5M (s:List b9) (r:List b9) (hm:l7 s=some r):o8 Tryz.prog 102 [.lst 8 s.length (s.flatMap b9.c)] (fun x=>x= .lst 8 r.length (r.flatMap b9.c)):=by
 obtain⟨hg,hm⟩:=j1 hm;cases hm;refine zn Tryz.func102 rfl ?_;intro b hb;refine VIf.mk (fun h=> ?_) (fun h=> ?_)
 · have h0:=hb h;have h1:s= []:=a2h h0;subst h1;exact c8z c8y
 · refine⟨[],0,⟨rfl,rfl⟩, ?_⟩;exact⟨by omega,s.flatMap b9.c,s.length,⟨rfl,P2 _⟩,c8z (c8x _)⟩
theorem o9 (s:List b9) (r:List b9) (hm:l7 s=some r):b2N Tryz.prog 102 [.lst 8 s.length (s.flatMap b9.c)] 8 r.length (r.flatMap b9.c) 38:=by
 obtain⟨hg,hm⟩:=j1 hm;cases hm;refine b8R (X:=⟨Tryz.prog,tt,Tryz.f102.ntmps, [], [], [], [], [], []⟩) pok _ Tryz.func102 rfl rfl (F8 rfl) ?_;intro b hb;refine VIf.mk (fun h=> ?_) (fun h=> ?_)
 · have h0:=hb h;have h1:s= []:=a2h h0;subst h1;exact⟨rfl,rfl⟩
 · refine⟨[],0,⟨rfl,rfl⟩, ?_⟩;exact⟨by omega,s.flatMap b9.c,s.length,⟨rfl,P2 _⟩,⟨rfl,rfl⟩⟩
def a4o (vals:(List Int)):Int→Option (Sum Int (Sum Int Int)):=fun v5=>
 if(decide (v5<(vals.length:Int)))=true then
  Option.bind (idx vals v5) fun e11=>
  if(e11 !=0)=true then
   some (.inr (.inr e11))
  else
   some (.inl (W (v5+1)))
 else
  some (.inr (.inl v5))
def a6O (vals:(List Int)):Option Int:=
 Option.bind (w7 (a4o vals) 0) fun e=>
 match e with
 | .inl v14=>
  some 0
 | .inr rr15=>
  some rr15
theorem b4q (vals:(List Int)) (r:Int) (hm:a6O vals=some r):o8 Tryz.prog 165 [lD 1 vals cI] (fun x=>x=DI r):=by
 refine zn Tryz.func165 rfl ?_;obtain⟨ev16,he,hk17⟩:=e9 hm;refine c8A (a4o vals) (fun v5=>⟨[(3,DI 0),(6,lD 1 vals cI),(7,DI (vals.length:Int)),(8,DI v5)], [],0⟩) 0 (sb 0) he ?_;rintro fu18 v5 b hm hi19;apply vb hm<;>intro _ hm;refine ei hm fun _ hm=> ?_
 apply vb hm<;>intro _ hm;cases hm;cases hi19;have hm:=hk17;exact hm.rr;cases hm;exact⟨(_,(W (v5+1))),sb 0,hi19,y6 _⟩;cases hm;cases hi19;have hm:=hk17;exact hm.rr
def a1l (x:Int):Option Bool:=
 some (x !=x)
theorem a4q (x:Int) (r:Bool) (hm:a1l x=some r):o8 Tryz.prog 178 [DI x] (fun x=>x=DB r):=by
 refine zn Tryz.func178 rfl ?_;exact hm.rr
def a0d (x:Int) (y:Int):Option Int:=
 Option.bind (a1l x) fun x1=>
 Option.bind (a1l y) fun x3=>
 if x1=true then
  if x3=true then
   some 0
  else
   some (-1)
 else
  if x3=true then
   some 1
  else
   if(decide (x<y))=true then
    some (-1)
   else
    if(decide (x>y))=true then
     some 1
    else
     some 0
theorem a2v (x:Int) (y:Int) (r:Int) (hm:a0d x y=some r):o8 Tryz.prog 166 [DI x,DI y] (fun x=>x=DI r):=by
 refine zn Tryz.func166 rfl ?_;refine cy hm (a4q x) fun x1 hm=> ?_
 refine cy hm (a4q y) fun x3 hm=> ?_
 apply vb hm<;>intro _ hm;apply vb hm<;>intro _ hm;exact hm.rr;exact hm.rr;apply vb hm<;>intro _ hm;exact hm.rr;apply vb hm<;>intro _ hm;exact hm.rr;apply vb hm<;>intro _ hm;exact hm.rr;exact hm.rr
def a4p (a:u0) (b_:u0):Option Int:=
 Option.bind (a0d a.Depot b_.Depot) fun x1=>
 Option.bind (a0d a.No b_.No) fun x3=>
 Option.bind (a6O ([x1,x3]:List Int)) fun x5=>
 some x5
theorem a9t (a:u0) (b_:u0) (r:Int) (hm:a4p a b_=some r):o8 Tryz.prog 147 [.agg (u0.c a), .agg (u0.c b_)] (fun x=>x=DI r):=by
 refine zy c7I [] [] [] Tryz.func147 rfl ?_;refine⟨rfl, ?_⟩;refine cy hm (a2v a.Depot b_.Depot) fun x1 hm=> ?_
 refine cy hm (a2v a.No b_.No) fun x3 hm=> ?_
 refine⟨([x1,x3]:List Int).flatMap cI,([x1,x3]:List Int).length,⟨rfl,rfl⟩, ?_⟩;refine co hm (b4q (([x1,x3]:List Int))) fun x5 hm=> ?_
 exact hm.rr
def a2m (r_:b9) (at_:u0):Option Int:=
 Option.bind (a4p r_.At at_) fun x1=>
 some x1
theorem a4H (r_:b9) (at_:u0) (r:Int) (hm:a2m r_ at_=some r):o8 Tryz.prog 146 [.agg (b9.c r_), .agg (u0.c at_)] (fun x=>x=DI r):=by
 refine zn Tryz.func146 rfl ?_;refine cy hm (a9t r_.At at_) fun x1 hm=> ?_
 exact hm.rr
def o7 (x:(List b9)) (target:u0):(Int×Int)→Option (Sum (Int×Int) (Int×Int)):=fun(i7,j8)=>
 if(decide (i7<j8))=true then
  Option.bind (idx x (W ((IntKind.u64.wrap (W (i7+j8))).fdiv (2^(min (1:Int).toNat IntKind.u64.bits))))) fun e16=>
  Option.bind (a2m e16 target) fun x18=>
  if(decide (x18<0))=true then
   some (.inl ((W ((W ((IntKind.u64.wrap (W (i7+j8))).fdiv (2^(min (1:Int).toNat IntKind.u64.bits))))+1)),j8))
  else
   some (.inl (i7,(W ((IntKind.u64.wrap (W (i7+j8))).fdiv (2^(min (1:Int).toNat IntKind.u64.bits))))))
 else
  some (.inr (i7,j8))
def p0 (x:(List b9)) (target:u0):Option (Int×Bool):=
 Option.bind (w7 (o7 x target) (0,(x.length:Int))) fun(i21,j22)=>
 if(decide (i21<(x.length:Int)))=true then
  Option.bind (idx x i21) fun e24=>
  Option.bind (a2m e24 target) fun x26=>
  some (i21,(x26==0))
 else
  some (i21,false)
theorem B5 (x:(List b9)) (target:u0) (r:(Int×Bool)) (hm:p0 x target=some r):o8 Tryz.prog 145 [lD 8 x b9.c, .agg (u0.c target), .fn 146 [] []] (fun x=>x= .tup [DI r.1,DB r.2]):=by
 refine zy c6e [] [] [] Tryz.func145 rfl ?_;obtain⟨ev28,he,hk29⟩:=e9 hm;refine c8A (o7 x target) (fun(i7,j8)=>⟨[(0,lD 8 x b9.c),(2, .fn 146 [] []),(4, .own 0 0),(8,DI (x.length:Int)),(9,DI i7),(10,DI j8)], [(0, .blk [DI target.Depot,DI target.No] 36)],1⟩) (0,(x.length:Int)) (sb 1) he ?_;rintro fu30 ⟨i7,j8⟩ b hm hi31;apply vb hm<;>intro _ hm;refine⟨by decide, ?_⟩;refine⟨rfl, ?_⟩;refine ei hm fun e33 hm=> ?_
 refine cy hm (a4H e33 target) fun x35 hm=> ?_
 apply vb hm<;>intro _ hm;cases hm;exact⟨(_,((W ((W ((IntKind.u64.wrap (W (i7+j8))).fdiv (2^(min (1:Int).toNat IntKind.u64.bits))))+1)),j8)),sb 1,hi31,y6 _⟩;cases hm;exact⟨(_,(i7,(W ((IntKind.u64.wrap (W (i7+j8))).fdiv (2^(min (1:Int).toNat IntKind.u64.bits)))))),sb 1,hi31,y6 _⟩;cases hm;cases hi31;have hm:=hk29;refine⟨rfl, ?_⟩;apply vb hm<;>intro _ hm;refine ei hm fun e39 hm=> ?_
 refine cy hm (a4H e39 target) fun x41 hm=> ?_
 cases hm;exact c8z (c8x _);cases hm;exact c8z (c8x _)
def a3Q (b_:Q1) (at_:u0):Option (Int×Bool):=
 Option.bind (p0 b_.Records at_) fun⟨x1,x2⟩=>
 some (x1,x2)
theorem b4l (b_:Q1) (at_:u0) (r:(Int×Bool)) (hm:a3Q b_ at_=some r):o8 Tryz.prog 103 [.agg (Q1.c b_), .agg (u0.c at_)] (fun x=>x= .tup [DI r.1,DB r.2]):=by
 refine zn Tryz.func103 rfl ?_;refine cy hm (B5 b_.Records at_) ?_;rintro⟨x1,x2⟩ hm;cases hm;exact c8z (c8x _)
def a2B (b_:Q1) (r_:b9):Option (Q1×Int):=
 Option.bind (a0j b_) fun x1=>
 if(!x1)=true then
  some ((⟨[]⟩:Q1),81)
 else
  Option.bind (o6 r_) fun x4=>
  if(!x4)=true then
   some ((⟨[]⟩:Q1),80)
  else
   Option.bind (a3Q b_ r_.At) fun⟨x7,x8⟩=>
   if x8=true then
    Option.bind (idx b_.Records x7) fun e11=>
    if((e11.At.Depot==r_.At.Depot)&&((e11.At.No==r_.At.No)&&((e11.Kind==r_.Kind)&&((e11.Day==r_.Day)&&((e11.Known==r_.Known)&&((e11.Of.Depot==r_.Of.Depot)&&((e11.Of.No==r_.Of.No)&&(e11.Text.toList==r_.Text.toList))))))))=true then
     Option.bind (M9 b_.Records) fun x14=>
     some (x14,0)
    else
     some ((⟨[]⟩:Q1),82)
   else
    Option.bind (a0W b_.Records) fun x16=>
    Option.bind (idx [x16.1,x16.2.1,x16.2.2.1,x16.2.2.2.1,x16.2.2.2.2.1,x16.2.2.2.2.2] r_.At.Depot) fun e18=>
    if(decide (e18<r_.At.No))=true then
     some ((⟨[]⟩:Q1),83)
    else
     if((b_.Records.length:Int)==60)=true then
      some ((⟨[]⟩:Q1),2)
     else
      Option.bind (l7 b_.Records) fun x22=>
      gd ((x22.length+([r_]:List b9).length)*72≤140737488355328∧x22.length+([r_]:List b9).length≤9223372036854775807)<|
      Option.bind (M9 (x22++([r_]:List b9))) fun x24=>
      some (x24,0)
theorem b5t (b_:Q1) (r_:b9) (r:(Q1×Int)) (hm:a2B b_ r_=some r):o8 Tryz.prog 46 [.agg (Q1.c b_), .agg (b9.c r_)] (fun x=>x= .tup [.agg (Q1.c r.1),DI r.2]):=by
 refine zy c8n [80,112,155,175] [102] [] Tryz.func46 rfl ?_;refine cy hm (b1M b_) fun x1 hm=> ?_
 apply vb hm<;>intro _ hm;cases hm;exact c8z (le3);refine cy hm (z7 r_) fun x4 hm=> ?_
 apply vb hm<;>intro _ hm;cases hm;exact c8z (le3);refine cy hm (b4l b_ r_.At) ?_;rintro⟨x7,x8⟩ hm;refine⟨rfl, ?_⟩;apply vb hm<;>intro h10 hm;refine ei hm fun _ hm=> ?_
 apply vb hm<;>intro _ hm;refine cy hm (a0f b_.Records) fun x14 hm=> ?_
 cases hm;exact c8z (c8x _);refine VIf.t h10 ?_;cases hm;exact c8z (le3);refine VIf.f h10 ?_;refine⟨rfl, ?_⟩;refine cy hm (a8N b_.Records) fun x16 hm=> ?_
 obtain⟨e18,hx19,hm⟩:=e9 hm;refine⟨b0J hx19,_,ldx (c:=cI) (z:=1) (pre:= []) (post:= []) (b:=0) (off:=0) (fun _=>rfl) hx19 rfl rfl (by omega) rfl, ?_⟩;apply vb hm<;>intro _ hm;cases hm;exact c8z (le3);apply vb hm<;>intro _ hm;cases hm;exact c8z (le3);refine⟨rfl, ?_⟩;refine⟨?_, ?_⟩;obtain⟨x22,hx23,hm⟩:=e9 hm;refine .inl (a5n.mk ⟨_,_,_,_,o9 b_.Records _ hx23, ?_⟩);refine⟨([r_]:List b9).flatMap b9.c,([r_]:List b9).length,⟨rfl,rfl⟩, ?_⟩;obtain⟨hg,hm⟩:=j1 hm;refine⟨hg,_,_,y0 (c:=b9.c) (l:=(x22:List b9)) (r:=(([r_]:List b9):List b9)), ?_⟩;refine co hm (a0f ((x22++([r_]:List b9)))) fun x24 hm=> ?_
 cases hm;exact c8z (c8x _);refine⟨([r_]:List b9).flatMap b9.c,([r_]:List b9).length,⟨rfl,rfl⟩, ?_⟩;obtain⟨x26,hx27,hm⟩:=e9 hm;refine .inl (a5n.mk ⟨_,_,_,_,o9 b_.Records _ hx27, ?_⟩);obtain⟨hg,hm⟩:=j1 hm;refine⟨hg,_,_,y0 (c:=b9.c) (l:=(x26:List b9)) (r:=(([r_]:List b9):List b9)), ?_⟩;refine co hm (a0f ((x26++([r_]:List b9)))) fun x28 hm=> ?_
 cases hm;exact c8z (c8x _)
def E5 (s:(List b9)) (v:b9):Int→Option (Sum Int (Sum Int Int)):=fun v5=>
 if(decide (v5<(s.length:Int)))=true then
  Option.bind (idx s v5) fun e11=>
  if((v.At.Depot==e11.At.Depot)&&((v.At.No==e11.At.No)&&((v.Kind==e11.Kind)&&((v.Day==e11.Day)&&((v.Known==e11.Known)&&((v.Of.Depot==e11.Of.Depot)&&((v.Of.No==e11.Of.No)&&(v.Text.toList==e11.Text.toList))))))))=true then
   some (.inr (.inr v5))
  else
   some (.inl (W (v5+1)))
 else
  some (.inr (.inl v5))
def G7 (s:(List b9)) (v:b9):Option Int:=
 Option.bind (w7 (E5 s v) 0) fun e=>
 match e with
 | .inl v14=>
  some (-1)
 | .inr rr15=>
  some rr15
theorem V0 (s:(List b9)) (v:b9) (r:Int) (hm:G7 s v=some r):o8 Tryz.prog 161 [lD 8 s b9.c, .agg (b9.c v)] (fun x=>x=DI r):=by
 refine zy c6P [] [] [] Tryz.func161 rfl ?_;obtain⟨ev16,he,hk17⟩:=e9 hm;refine c8A (E5 s v) (fun v5=>⟨[(0,lD 8 s b9.c),(3, .own 0 0),(7,DI (s.length:Int)),(8,DI v5)], [(0, .blk (b9.c v) 38)],1⟩) 0 (sb 1) he ?_;rintro fu18 v5 b hm hi19;apply vb hm<;>intro _ hm;refine⟨rfl, ?_⟩;refine ei hm fun _ hm=> ?_
 apply vb hm<;>intro _ hm;cases hm;cases hi19;have hm:=hk17;exact hm.rr;cases hm;exact⟨(_,(W (v5+1))),sb 1,hi19,y6 _⟩;cases hm;cases hi19;have hm:=hk17;exact hm.rr
def A6 (s:(List b9)) (v:b9):Option Bool:=
 Option.bind (G7 s v) fun x1=>
 some (decide (x1≥0))
theorem Q5 (s:(List b9)) (v:b9) (r:Bool) (hm:A6 s v=some r):o8 Tryz.prog 136 [lD 8 s b9.c, .agg (b9.c v)] (fun x=>x=DB r):=by
 refine zn Tryz.func136 rfl ?_;refine cy hm (V0 s v) fun x1 hm=> ?_
 exact hm.rr
def R5 (b_:m7):Option m7:=
 Option.bind (o0 b_.Thread) fun x1=>
 Option.bind (o0 b_.Loose) fun x3=>
 some (⟨x1,x3⟩:m7)
theorem c2L (b_:m7) (r:m7) (hm:R5 b_=some r):o8 Tryz.prog 137 [.agg (m7.c b_)] (fun x=>x= .agg (m7.c r)):=by
 refine zy c4B [] [] [] Tryz.func137 rfl ?_;refine⟨rfl, ?_⟩;obtain⟨x1,hx2,hm⟩:=e9 hm;refine a6i.det (L4 b_.Thread _ hx2) ?_;obtain⟨x3,hx4,hm⟩:=e9 hm;refine a6i.det (L4 b_.Loose _ hx4) ?_;cases hm;exact c8z (c8x _)
theorem a4s (b_:m7) (r:m7) (hm:R5 b_=some r):b8M Tryz.prog 137 [.agg (m7.c b_)] [(5,r.Thread.length,r.Thread.flatMap c8.c,53),(5,r.Loose.length,r.Loose.flatMap c8.c,53)] [.row 0 5, .row 1 5]:=by
 refine c3q (X:=⟨Tryz.prog,tt,Tryz.f137.ntmps,c4B, [80,112,155,175], [78], [], [], []⟩) pok _ Tryz.func137 rfl rfl (F8 rfl) rfl ?_;refine⟨rfl, ?_⟩;obtain⟨x1,hx2,hm⟩:=e9 hm;refine .inl (a5n.mk ⟨_,_,_,_,D6 b_.Thread _ hx2, ?_⟩);obtain⟨x3,hx4,hm⟩:=e9 hm;refine .inl (a5n.mk ⟨_,_,_,_,D6 b_.Loose _ hx4, ?_⟩);cases hm;exact⟨rfl,⟨⟨rfl,rfl,rfl,rfl⟩,⟨⟨rfl,rfl,rfl,rfl⟩,rfl⟩⟩⟩
def a2N (b_:m7) (written:(List b9)) (r_:b9):Option (m7×(List b9)×Int):=
 Option.bind (A6 written r_) fun x1=>
 if x1=true then
  Option.bind (R5 b_) fun x4=>
  Option.bind (l7 written) fun x6=>
  some (x4,x6,0)
 else
  Option.bind (M9 written) fun x8=>
  Option.bind (a2B x8 r_) fun⟨x10,x11⟩=>
  if(x11 !=0)=true then
   some ((⟨[], []⟩:m7), [],x11)
  else
   Option.bind (R5 b_) fun x14=>
   Option.bind (P3 r_ (written.length:Int)) fun x16=>
   gd ((x14.Loose.length+x16.length)*48≤140737488355328∧x14.Loose.length+x16.length≤9223372036854775807)<|
   Option.bind (l7 written) fun x18=>
   gd ((x18.length+([r_]:List b9).length)*72≤140737488355328∧x18.length+([r_]:List b9).length≤9223372036854775807)<|
   some ((⟨x14.Thread,(x14.Loose++x16)⟩:m7),(x18++([r_]:List b9)),0)
theorem b2p (b_:m7) (written:(List b9)) (r_:b9) (r:(m7×(List b9)×Int)) (hm:a2N b_ written r_=some r):o8 Tryz.prog 84 [.agg (m7.c b_),lD 8 written b9.c, .agg (b9.c r_)] (fun x=>x= .tup [.agg (m7.c r.1),lD 8 r.2.1 b9.c,DI r.2.2]):=by
 refine zy c7L [80,112,155,175] [102,137] [] Tryz.func84 rfl ?_;refine cy hm (Q5 written r_) fun x1 hm=> ?_
 apply vb hm<;>intro _ hm;obtain⟨x4,hx5,hm⟩:=e9 hm;refine .inr (b9f.mk ⟨_,_,a4s b_ _ hx5, ?_⟩);obtain⟨x6,hx7,hm⟩:=e9 hm;refine .inl (a5n.mk ⟨_,_,_,_,o9 written _ hx7, ?_⟩);cases hm;exact c8z (c8x _);refine⟨rfl, ?_⟩;refine cy hm (a0f written) fun x8 hm=> ?_
 refine cy hm (b5t x8 r_) ?_;rintro⟨x10,x11⟩ hm;apply vb hm<;>intro _ hm;cases hm;exact c8z (le4);obtain⟨x14,hx15,hm⟩:=e9 hm;refine .inr (b9f.mk ⟨_,_,a4s b_ _ hx15, ?_⟩);refine⟨rfl, ?_⟩;refine cy hm (a2P r_ ((written.length:Int))) fun x16 hm=> ?_
 obtain⟨hg,hm⟩:=j1 hm;refine⟨hg,_,_,y0 (c:=c8.c) (l:=(x14.Loose:List c8)) (r:=(x16:List c8)), ?_⟩;refine⟨rfl, ?_⟩;refine⟨?_, ?_⟩;obtain⟨x18,hx19,hm⟩:=e9 hm;refine .inl (a5n.mk ⟨_,_,_,_,o9 written _ hx19, ?_⟩);refine⟨([r_]:List b9).flatMap b9.c,([r_]:List b9).length,⟨rfl,rfl⟩, ?_⟩;obtain⟨hg,hm⟩:=j1 hm;refine⟨hg,_,_,y0 (c:=b9.c) (l:=(x18:List b9)) (r:=(([r_]:List b9):List b9)), ?_⟩;cases hm;exact c8z (c8x _);refine⟨([r_]:List b9).flatMap b9.c,([r_]:List b9).length,⟨rfl,rfl⟩, ?_⟩;obtain⟨x20,hx21,hm⟩:=e9 hm;refine .inl (a5n.mk ⟨_,_,_,_,o9 written _ hx21, ?_⟩);obtain⟨hg,hm⟩:=j1 hm;refine⟨hg,_,_,y0 (c:=b9.c) (l:=(x20:List b9)) (r:=(([r_]:List b9):List b9)), ?_⟩;cases hm;exact c8z (c8x _)
def a0L (b_:m7) (written:(List b9)) (r_:b9):Option (m7×(List b9)×Int):=
 Option.bind (a1D b_ written) fun x1=>
 if(!x1)=true then
  some ((⟨[], []⟩:m7), [],84)
 else
  Option.bind (a2N b_ written r_) fun⟨x4,x5,x6⟩=>
  some (x4,x5,x6)
theorem b2w (b_:m7) (written:(List b9)) (r_:b9) (r:(m7×(List b9)×Int)) (hm:a0L b_ written r_=some r):o8 Tryz.prog 23 [.agg (m7.c b_),lD 8 written b9.c, .agg (b9.c r_)] (fun x=>x= .tup [.agg (m7.c r.1),lD 8 r.2.1 b9.c,DI r.2.2]):=by
 refine zn Tryz.func23 rfl ?_;refine cy hm (b4s b_ written) fun x1 hm=> ?_
 apply vb hm<;>intro _ hm;cases hm;exact c8z (le4);refine cy hm (b2p b_ written r_) ?_;rintro⟨x4,x5,x6⟩ hm;cases hm;exact c8z (c8x _)
def Z1 (r_:b9):Option (ByteArray×Int):=
 Option.bind (o6 r_) fun x1=>
 if(!x1)=true then
  some ((⟨#[]⟩:ByteArray),80)
 else
  Option.bind (E7 r_) fun x4=>
  some (x4,0)
theorem b1m (r_:b9) (r:(ByteArray×Int)) (hm:Z1 r_=some r):o8 Tryz.prog 29 [.agg (b9.c r_)] (fun x=>x= .tup [.v (.string r.1),DI r.2]):=by
 refine zn Tryz.func29 rfl ?_;refine cy hm (z7 r_) fun x1 hm=> ?_
 apply vb hm<;>intro _ hm;cases hm;exact c8z (c8x _);refine cy hm (a4N r_) fun x4 hm=> ?_
 cases hm;exact c8z (c8x _)
def a0N (r_:b9) (no:Int):Option ((List c8)×Int):=
 Option.bind (o6 r_) fun x1=>
 if(!x1)=true then
  some ([],80)
 else
  Option.bind (y9 no 0 59) fun x4=>
  if(!x4)=true then
   some ([],1)
  else
   Option.bind (P3 r_ no) fun x7=>
   some (x7,0)
theorem b2t (r_:b9) (no:Int) (r:((List c8)×Int)) (hm:a0N r_ no=some r):o8 Tryz.prog 33 [.agg (b9.c r_),DI no] (fun x=>x= .tup [lD 5 r.1 c8.c,DI r.2]):=by
 refine zn Tryz.func33 rfl ?_;refine cy hm (z7 r_) fun x1 hm=> ?_
 apply vb hm<;>intro _ hm;cases hm;exact c8z (le5);refine cy hm (D9 no 0 59) fun x4 hm=> ?_
 apply vb hm<;>intro _ hm;cases hm;exact c8z (le5);refine cy hm (a2P r_ no) fun x7 hm=> ?_
 cases hm;exact c8z (c8x _)
def a3T:Option Bool:=
 Option.bind (Z1 (⟨(⟨2,0⟩:u0),5,10,12,(⟨0,0⟩:u0),(⟨#[97,32,108,97,109,112,32,111,110,32,116,104,101,32,113,117,97,121]⟩:ByteArray)⟩:b9)) fun⟨x1,x2⟩=>
 Option.bind (a0N (⟨(⟨2,0⟩:u0),5,10,12,(⟨0,0⟩:u0),(⟨#[97,32,108,97,109,112,32,111,110,32,116,104,101,32,113,117,97,121]⟩:ByteArray)⟩:b9) 3) fun⟨x4,x5⟩=>
 Option.bind (a0L (⟨[], []⟩:m7) [] (⟨(⟨2,0⟩:u0),5,10,12,(⟨0,0⟩:u0),(⟨#[97,32,108,97,109,112,32,111,110,32,116,104,101,32,113,117,97,121]⟩:ByteArray)⟩:b9)) fun⟨x7,x8,x9⟩=>
 Option.bind (A3 x7 ([2,0]:List Int)) fun x11=>
 Option.bind (A4 x11) fun⟨x13,x14⟩=>
 Option.bind (A3 x7 ([3,0]:List Int)) fun x16=>
 Option.bind (A4 x16) fun⟨x18,x19⟩=>
 Option.bind (A3 x7 ([2,0,0,0]:List Int)) fun x21=>
 Option.bind (A4 x21) fun⟨x23,x24⟩=>
 Option.bind (A3 x7 ([2,0,1,9]:List Int)) fun x26=>
 Option.bind (A4 x26) fun⟨x28,x29⟩=>
 Option.bind (O1 x7) fun x31=>
 Option.bind (A3 x31 ([0,0]:List Int)) fun x33=>
 Option.bind (A4 x33) fun⟨x35,x36⟩=>
 if(x2==0)=true then
  if(x5==0)=true then
   if(x9==0)=true then
    if((x8.length:Int)==1)=true then
     if((x4.length:Int)==2)=true then
      if((x7.Thread.length:Int)==0)=true then
       if((x7.Loose.length:Int)==2)=true then
        Option.bind (idx x4 0) fun e45=>
        if((e45.No==3)&&((e45.Part==0)&&((e45.Parts==2)&&((e45.Size==24)&&(e45.Text.toList==(⟨#[50,32,48,32,53,32,49,48,32,49,50,32,48,32,48,32,97,32,108,97,109,112,32,111]⟩:ByteArray).toList)))))=true then
         Option.bind (idx x4 1) fun e48=>
         if((e48.No==3)&&((e48.Part==1)&&((e48.Parts==2)&&((e48.Size==10)&&(e48.Text.toList==(⟨#[110,32,116,104,101,32,113,117,97,121]⟩:ByteArray).toList)))))=true then
          if(x1.toList==(⟨#[50,32,48,32,53,32,49,48,32,49,50,32,48,32,48,32,97,32,108,97,109,112,32,111,110,32,116,104,101,32,113,117,97,121]⟩:ByteArray).toList)=true then
           if((x14.length:Int)==1)=true then
            if((x19.length:Int)==1)=true then
             if((x24.length:Int)==0)=true then
              if((x29.length:Int)==0)=true then
               if((x36.length:Int)==1)=true then
                if((x35.Thread.length:Int)==2)=true then
                 some ((x35.Loose.length:Int)==0)
                else
                 some false
               else
                some false
              else
               some false
             else
              some false
            else
             some false
           else
            some false
          else
           some false
         else
          some false
        else
         some false
       else
        some false
      else
       some false
     else
      some false
    else
     some false
   else
    some false
  else
   some false
 else
  some false
theorem b8w (r:Bool) (hm:a3T=some r):o8 Tryz.prog 14 [] (fun x=>x=DB r):=by
 refine zn Tryz.func14 rfl ?_;refine cy hm (b1m ((⟨(⟨2,0⟩:u0),5,10,12,(⟨0,0⟩:u0),(⟨#[97,32,108,97,109,112,32,111,110,32,116,104,101,32,113,117,97,121]⟩:ByteArray)⟩:b9))) ?_;rintro⟨x1,x2⟩ hm;refine cy hm (b2t ((⟨(⟨2,0⟩:u0),5,10,12,(⟨0,0⟩:u0),(⟨#[97,32,108,97,109,112,32,111,110,32,116,104,101,32,113,117,97,121]⟩:ByteArray)⟩:b9)) 3) ?_;rintro⟨x4,x5⟩ hm;obtain⟨⟨x7,x8,x9⟩,hx10,hm⟩:=e9 hm;refine a6i.det ((b2w ((⟨[], []⟩:m7)) [] ((⟨(⟨2,0⟩:u0),5,10,12,(⟨0,0⟩:u0),(⟨#[97,32,108,97,109,112,32,111,110,32,116,104,101,32,113,117,97,121]⟩:ByteArray)⟩:b9)) _ hx10).le ⟨⟨_,rfl,⟨c8y,c8y,trivial⟩⟩,c8y,c8x _,trivial⟩) ?_;refine⟨([2,0]:List Int).flatMap cI,([2,0]:List Int).length,⟨rfl,rfl⟩, ?_⟩;refine co hm (S4 x7 (([2,0]:List Int))) fun x11 hm=> ?_
 refine cy hm (S6 x11) ?_;rintro⟨x13,x14⟩ hm;refine⟨([3,0]:List Int).flatMap cI,([3,0]:List Int).length,⟨rfl,rfl⟩, ?_⟩;refine co hm (S4 x7 (([3,0]:List Int))) fun x16 hm=> ?_
 refine cy hm (S6 x16) ?_;rintro⟨x18,x19⟩ hm;refine⟨([2,0,0,0]:List Int).flatMap cI,([2,0,0,0]:List Int).length,⟨rfl,rfl⟩, ?_⟩;refine co hm (S4 x7 (([2,0,0,0]:List Int))) fun x21 hm=> ?_
 refine cy hm (S6 x21) ?_;rintro⟨x23,x24⟩ hm;refine⟨([2,0,1,9]:List Int).flatMap cI,([2,0,1,9]:List Int).length,⟨rfl,rfl⟩, ?_⟩;refine co hm (S4 x7 (([2,0,1,9]:List Int))) fun x26 hm=> ?_
 refine cy hm (S6 x26) ?_;rintro⟨x28,x29⟩ hm;refine cy hm (a7s x7) fun x31 hm=> ?_
 refine⟨([0,0]:List Int).flatMap cI,([0,0]:List Int).length,⟨rfl,rfl⟩, ?_⟩;refine co hm (S4 x31 (([0,0]:List Int))) fun x33 hm=> ?_
 refine cy hm (S6 x33) ?_;rintro⟨x35,x36⟩ hm;apply vb hm<;>intro _ hm;apply vb hm<;>intro _ hm;apply vb hm<;>intro _ hm;apply vb hm<;>intro _ hm;apply vb hm<;>intro _ hm;apply vb hm<;>intro _ hm;apply vb hm<;>intro _ hm;refine ei hm fun _ hm=> ?_
 apply vb hm<;>intro _ hm;refine ei hm fun _ hm=> ?_
 apply vb hm<;>intro _ hm;apply vb hm<;>intro _ hm;apply vb hm<;>intro _ hm;apply vb hm<;>intro _ hm;apply vb hm<;>intro _ hm;apply vb hm<;>intro _ hm;apply vb hm<;>intro _ hm;apply vb hm<;>intro _ hm;exact hm.rr;exact hm.rr;exact hm.rr;exact hm.rr;exact hm.rr;exact hm.rr;exact hm.rr;exact hm.rr;exact hm.rr;exact hm.rr;exact hm.rr;exact hm.rr;exact hm.rr;exact hm.rr;exact hm.rr;exact hm.rr;exact hm.rr
def P1 (n:Int) (low:Int) (high:Int):Option Bool:=
 if(decide (n≥low))=true then
  some (decide (n≤high))
 else
  some false
theorem Z3 (n:Int) (low:Int) (high:Int) (r:Bool) (hm:P1 n low high=some r):o8 Tryz.prog 97 [DI n,DI low,DI high] (fun x=>x=DB r):=by
 refine zn Tryz.func97 rfl ?_;apply vb hm<;>intro _ hm;exact hm.rr;exact hm.rr
def a0n (x:u0):Option Bool:=
 Option.bind (P1 x.Depot 0 5) fun x1=>
 if x1=true then
  Option.bind (P1 x.No 0 9999) fun x4=>
  some x4
 else
  some false
theorem a7U (x:u0) (r:Bool) (hm:a0n x=some r):o8 Tryz.prog 98 [.agg (u0.c x)] (fun x=>x=DB r):=by
 refine zn Tryz.func98 rfl ?_;refine cy hm (Z3 x.Depot 0 5) fun x1 hm=> ?_
 apply vb hm<;>intro _ hm;refine cy hm (Z3 x.No 0 9999) fun x4 hm=> ?_
 exact hm.rr;exact hm.rr
def P0 (s:ByteArray):Int→Option (Sum Int (Sum Int Bool)):=fun i7=>
 if(decide (i7<(s.size:Int)))=true then
  Option.bind (idx s.data.toList i7) fun ch14=>
  if(decide ((ch14.toNat:Int)<32))=true then
   some (.inr (.inr false))
  else
   Option.bind (idx s.data.toList i7) fun ch16=>
   if(decide ((ch16.toNat:Int)>126))=true then
    some (.inr (.inr false))
   else
    some (.inl (W (i7+1)))
 else
  some (.inr (.inl i7))
def a1B (s:ByteArray):Option Bool:=
 if(decide ((s.size:Int)>160))=true then
  some false
 else
  Option.bind (w7 (P0 s) 0) fun e=>
  match e with
  | .inl i18=>
   some true
  | .inr rr19=>
   some rr19
theorem b4r (s:ByteArray) (r:Bool) (hm:a1B s=some r):o8 Tryz.prog 99 [.v (.string s)] (fun x=>x=DB r):=by
 refine zn Tryz.func99 rfl ?_;apply vb hm<;>intro _ hm;exact hm.rr;obtain⟨ev20,he,hk21⟩:=e9 hm;refine c8A (P0 s) (fun i7=>⟨[(0, .v (.string s)),(3,DI i7)], [],0⟩) 0 (sb 0) he ?_;rintro fu22 i7 b hm hi23;apply vb hm<;>intro _ hm;obtain⟨ch25,hx,hm⟩:=e9 hm;refine⟨ch25,Q9 hx, ?_⟩;apply vb hm<;>intro _ hm;cases hm;cases hi23;have hm:=hk21;exact hm.rr;obtain⟨ch27,hx,hm⟩:=e9 hm;refine⟨ch27,Q9 hx, ?_⟩;apply vb hm<;>intro _ hm;cases hm;cases hi23;have hm:=hk21;exact hm.rr;cases hm;exact⟨(_,(W (i7+1))),sb 0,hi23,y6 _⟩;cases hm;cases hi23;have hm:=hk21;exact hm.rr
def K6 (r_:b9):Option Int:=
 Option.bind (a0n r_.At) fun x1=>
 if(!x1)=true then
  some 80
 else
  Option.bind (P1 r_.Kind 0 60) fun x4=>
  if(!x4)=true then
   some 80
  else
   Option.bind (P1 r_.Day 0 100000) fun x7=>
   if(!x7)=true then
    some 80
   else
    Option.bind (P1 r_.Known 0 100000) fun x10=>
    if(!x10)=true then
     some 80
    else
     Option.bind (a1B r_.Text) fun x13=>
     if(!x13)=true then
      some 80
     else
      if(r_.Kind==0)=true then
       if(r_.Day !=0)=true then
        some 80
       else
        if(!(r_.Text.toList==(⟨#[]⟩:ByteArray).toList))=true then
         some 80
        else
         Option.bind (a0n r_.Of) fun x19=>
         if(!x19)=true then
          some 80
         else
          if(r_.Of.Depot !=r_.At.Depot)=true then
           some 80
          else
           if(decide (r_.Of.No≥r_.At.No))=true then
            some 80
           else
            some 0
      else
       if(!((r_.Of.Depot==0)&&(r_.Of.No==0)))=true then
        some 80
       else
        some 0
theorem a2A (r_:b9) (r:Int) (hm:K6 r_=some r):o8 Tryz.prog 37 [.agg (b9.c r_)] (fun x=>x=DI r):=by
 refine zn Tryz.func37 rfl ?_;refine cy hm (a7U r_.At) fun x1 hm=> ?_
 apply vb hm<;>intro _ hm;exact hm.rr;refine cy hm (Z3 r_.Kind 0 60) fun x4 hm=> ?_
 apply vb hm<;>intro _ hm;exact hm.rr;refine cy hm (Z3 r_.Day 0 100000) fun x7 hm=> ?_
 apply vb hm<;>intro _ hm;exact hm.rr;refine cy hm (Z3 r_.Known 0 100000) fun x10 hm=> ?_
 apply vb hm<;>intro _ hm;exact hm.rr;refine cy hm (b4r r_.Text) fun x13 hm=> ?_
 apply vb hm<;>intro _ hm;exact hm.rr;apply vb hm<;>intro _ hm;apply vb hm<;>intro _ hm;exact hm.rr;apply vb hm<;>intro _ hm;exact hm.rr;refine cy hm (a7U r_.Of) fun x19 hm=> ?_
 apply vb hm<;>intro _ hm;exact hm.rr;apply vb hm<;>intro _ hm;exact hm.rr;apply vb hm<;>intro _ hm;exact hm.rr;exact hm.rr;apply vb hm<;>intro _ hm;exact hm.rr;exact hm.rr
def a0M:(Int×ByteArray)→Option (Sum (Int×ByteArray) (Int×ByteArray)):=fun(n2,s3)=>
 if(decide (n2≥10))=true then
  gd ((((a1p ([(IntKind.u8.wrap (W (48+((W (n2.tdiv 10)).tmod 10))))]:List Int)).size+s3.size:Nat):Int)≤9223372036854775807)<|
  some (.inl ((W (n2.tdiv 10)),((a1p ([(IntKind.u8.wrap (W (48+((W (n2.tdiv 10)).tmod 10))))]:List Int))++s3)))
 else
  some (.inr (n2,s3))
def L6 (n:Int):Option ByteArray:=
 Option.bind (w7 a0M (n,(a1p ([(IntKind.u8.wrap (W (48+(n.tmod 10))))]:List Int)))) fun(n6,s7)=>
 some s7
theorem W9 (n:Int) (r:ByteArray) (hm:L6 n=some r):o8 Tryz.prog 143 [DI n] (fun x=>x= .v (.string r)):=by
 refine zn Tryz.func143 rfl ?_;refine⟨by decide, ?_⟩;refine⟨([(IntKind.u8.wrap (W (48+(n.tmod 10))))]:List Int).flatMap a6d,([(IntKind.u8.wrap (W (48+(n.tmod 10))))]:List Int).length,⟨rfl,rfl⟩, ?_⟩;refine⟨⟨rfl,5,by kernel_rfl,by kernel_rfl,by kernel_rfl⟩,([(IntKind.u8.wrap (W (48+(n.tmod 10))))]:List Int),b5e (fun _=>rfl) _, ?_⟩;obtain⟨ev8,he,hk9⟩:=e9 hm;refine c8A a0M (fun(n2,s3)=>⟨[(0,DI n2),(3, .v (.string s3))], [],1⟩) (n,(a1p ([(IntKind.u8.wrap (W (48+(n.tmod 10))))]:List Int))) (sb 1) he ?_;rintro fu10 ⟨n2,s3⟩ b hm hi11;apply vb hm<;>intro _ hm;refine⟨by decide, ?_⟩;refine⟨by decide, ?_⟩;refine⟨([(IntKind.u8.wrap (W (48+((W (n2.tdiv 10)).tmod 10))))]:List Int).flatMap a6d,([(IntKind.u8.wrap (W (48+((W (n2.tdiv 10)).tmod 10))))]:List Int).length,⟨rfl,rfl⟩, ?_⟩;refine⟨⟨rfl,5,by kernel_rfl,by kernel_rfl,by kernel_rfl⟩,([(IntKind.u8.wrap (W (48+((W (n2.tdiv 10)).tmod 10))))]:List Int),b5e (fun _=>rfl) _, ?_⟩;obtain⟨hg,hm⟩:=j1 hm;refine⟨hg, ?_⟩;cases hm;exact⟨(_,((W (n2.tdiv 10)),((a1p ([(IntKind.u8.wrap (W (48+((W (n2.tdiv 10)).tmod 10))))]:List Int))++s3))),sb 1,hi11,y6 _⟩;cases hm;cases hi11;have hm:=hk9;cases hm;exact c8z (c8x _)
def a2n (r_:b9):Option ByteArray:=
 Option.bind (L6 r_.At.Depot) fun x1=>
 gd (((x1.size+(⟨#[32]⟩:ByteArray).size:Nat):Int)≤9223372036854775807)<|
 Option.bind (L6 r_.At.No) fun x3=>
 gd ((((x1++(⟨#[32]⟩:ByteArray)).size+x3.size:Nat):Int)≤9223372036854775807)<|
 gd (((((x1++(⟨#[32]⟩:ByteArray))++x3).size+(⟨#[32]⟩:ByteArray).size:Nat):Int)≤9223372036854775807)<|
 Option.bind (L6 r_.Kind) fun x5=>
 gd ((((((x1++(⟨#[32]⟩:ByteArray))++x3)++(⟨#[32]⟩:ByteArray)).size+x5.size:Nat):Int)≤9223372036854775807)<|
 gd (((((((x1++(⟨#[32]⟩:ByteArray))++x3)++(⟨#[32]⟩:ByteArray))++x5).size+(⟨#[32]⟩:ByteArray).size:Nat):Int)≤9223372036854775807)<|
 Option.bind (L6 r_.Day) fun x7=>
 gd ((((((((x1++(⟨#[32]⟩:ByteArray))++x3)++(⟨#[32]⟩:ByteArray))++x5)++(⟨#[32]⟩:ByteArray)).size+x7.size:Nat):Int)≤9223372036854775807)<|
 gd (((((((((x1++(⟨#[32]⟩:ByteArray))++x3)++(⟨#[32]⟩:ByteArray))++x5)++(⟨#[32]⟩:ByteArray))++x7).size+(⟨#[32]⟩:ByteArray).size:Nat):Int)≤9223372036854775807)<|
 Option.bind (L6 r_.Known) fun x9=>
 gd ((((((((((x1++(⟨#[32]⟩:ByteArray))++x3)++(⟨#[32]⟩:ByteArray))++x5)++(⟨#[32]⟩:ByteArray))++x7)++(⟨#[32]⟩:ByteArray)).size+x9.size:Nat):Int)≤9223372036854775807)<|
 gd (((((((((((x1++(⟨#[32]⟩:ByteArray))++x3)++(⟨#[32]⟩:ByteArray))++x5)++(⟨#[32]⟩:ByteArray))++x7)++(⟨#[32]⟩:ByteArray))++x9).size+(⟨#[32]⟩:ByteArray).size:Nat):Int)≤9223372036854775807)<|
 Option.bind (L6 r_.Of.Depot) fun x11=>
 gd ((((((((((((x1++(⟨#[32]⟩:ByteArray))++x3)++(⟨#[32]⟩:ByteArray))++x5)++(⟨#[32]⟩:ByteArray))++x7)++(⟨#[32]⟩:ByteArray))++x9)++(⟨#[32]⟩:ByteArray)).size+x11.size:Nat):Int)≤9223372036854775807)<|
 gd (((((((((((((x1++(⟨#[32]⟩:ByteArray))++x3)++(⟨#[32]⟩:ByteArray))++x5)++(⟨#[32]⟩:ByteArray))++x7)++(⟨#[32]⟩:ByteArray))++x9)++(⟨#[32]⟩:ByteArray))++x11).size+(⟨#[32]⟩:ByteArray).size:Nat):Int)≤9223372036854775807)<|
 Option.bind (L6 r_.Of.No) fun x13=>
 gd ((((((((((((((x1++(⟨#[32]⟩:ByteArray))++x3)++(⟨#[32]⟩:ByteArray))++x5)++(⟨#[32]⟩:ByteArray))++x7)++(⟨#[32]⟩:ByteArray))++x9)++(⟨#[32]⟩:ByteArray))++x11)++(⟨#[32]⟩:ByteArray)).size+x13.size:Nat):Int)≤9223372036854775807)<|
 gd (((((((((((((((x1++(⟨#[32]⟩:ByteArray))++x3)++(⟨#[32]⟩:ByteArray))++x5)++(⟨#[32]⟩:ByteArray))++x7)++(⟨#[32]⟩:ByteArray))++x9)++(⟨#[32]⟩:ByteArray))++x11)++(⟨#[32]⟩:ByteArray))++x13).size+(⟨#[32]⟩:ByteArray).size:Nat):Int)≤9223372036854775807)<|
 gd ((((((((((((((((x1++(⟨#[32]⟩:ByteArray))++x3)++(⟨#[32]⟩:ByteArray))++x5)++(⟨#[32]⟩:ByteArray))++x7)++(⟨#[32]⟩:ByteArray))++x9)++(⟨#[32]⟩:ByteArray))++x11)++(⟨#[32]⟩:ByteArray))++x13)++(⟨#[32]⟩:ByteArray)).size+r_.Text.size:Nat):Int)≤9223372036854775807)<|
 some ((((((((((((((x1++(⟨#[32]⟩:ByteArray))++x3)++(⟨#[32]⟩:ByteArray))++x5)++(⟨#[32]⟩:ByteArray))++x7)++(⟨#[32]⟩:ByteArray))++x9)++(⟨#[32]⟩:ByteArray))++x11)++(⟨#[32]⟩:ByteArray))++x13)++(⟨#[32]⟩:ByteArray))++r_.Text)
theorem b0L (r_:b9) (r:ByteArray) (hm:a2n r_=some r):o8 Tryz.prog 93 [.agg (b9.c r_)] (fun x=>x= .v (.string r)):=by
 refine zy c7X [] [] [] Tryz.func93 rfl ?_;refine⟨rfl, ?_⟩;refine cy hm (W9 r_.At.Depot) fun x1 hm=> ?_
 obtain⟨hg,hm⟩:=j1 hm;refine⟨hg, ?_⟩;refine cy hm (W9 r_.At.No) fun x3 hm=> ?_
 obtain⟨hg,hm⟩:=j1 hm;refine⟨hg, ?_⟩;obtain⟨hg,hm⟩:=j1 hm;refine⟨hg, ?_⟩;refine cy hm (W9 r_.Kind) fun x5 hm=> ?_
 obtain⟨hg,hm⟩:=j1 hm;refine⟨hg, ?_⟩;obtain⟨hg,hm⟩:=j1 hm;refine⟨hg, ?_⟩;refine cy hm (W9 r_.Day) fun x7 hm=> ?_
 obtain⟨hg,hm⟩:=j1 hm;refine⟨hg, ?_⟩;obtain⟨hg,hm⟩:=j1 hm;refine⟨hg, ?_⟩;refine cy hm (W9 r_.Known) fun x9 hm=> ?_
 obtain⟨hg,hm⟩:=j1 hm;refine⟨hg, ?_⟩;obtain⟨hg,hm⟩:=j1 hm;refine⟨hg, ?_⟩;refine⟨rfl, ?_⟩;refine cy hm (W9 r_.Of.Depot) fun x11 hm=> ?_
 obtain⟨hg,hm⟩:=j1 hm;refine⟨hg, ?_⟩;obtain⟨hg,hm⟩:=j1 hm;refine⟨hg, ?_⟩;refine cy hm (W9 r_.Of.No) fun x13 hm=> ?_
 obtain⟨hg,hm⟩:=j1 hm;refine⟨hg, ?_⟩;obtain⟨hg,hm⟩:=j1 hm;refine⟨hg, ?_⟩;obtain⟨hg,hm⟩:=j1 hm;refine⟨hg, ?_⟩;cases hm;exact c8z (c8x _)
def V7 (s:ByteArray) (at_:Int):(Int×Int)→Option (Sum (Int×Int) (Sum (Int×Int) (Int×Int×Bool))):=fun(n10,i11)=>
 if(decide (i11<(s.size:Int)))=true then
  if(decide (i11<(W (at_+9))))=true then
   Option.bind (idx s.data.toList i11) fun ch23=>
   if((ch23.toNat:Int)==32)=true then
    some (.inr (.inr (n10,(W (i11+1)),(decide (i11>at_)))))
   else
    Option.bind (idx s.data.toList i11) fun ch25=>
    if(decide ((ch25.toNat:Int)<48))=true then
     some (.inr (.inr (0,0,false)))
    else
     Option.bind (idx s.data.toList i11) fun ch27=>
     if(decide ((ch27.toNat:Int)>57))=true then
      some (.inr (.inr (0,0,false)))
     else
      Option.bind (idx s.data.toList i11) fun ch29=>
      some (.inl ((W ((W (10*n10))+(W (IntKind.u8.wrap ((ch29.toNat:Int)-48))))),(W (i11+1))))
  else
   some (.inr (.inl (n10,i11)))
 else
  some (.inr (.inl (n10,i11)))
def U0 (s:ByteArray) (at_:Int):Option (Int×Int×Bool):=
 Option.bind (w7 (V7 s at_) (0,at_)) fun e=>
 match e with
 | .inl (n30,i31)=>
  some (0,0,false)
 | .inr rr32=>
  some rr32
theorem b4n (s:ByteArray) (at_:Int) (r:(Int×Int×Bool)) (hm:U0 s at_=some r):o8 Tryz.prog 94 [.v (.string s),DI at_] (fun x=>x= .tup [DI r.1,DI r.2.1,DB r.2.2]):=by
 refine zn Tryz.func94 rfl ?_;obtain⟨ev33,he,hk34⟩:=e9 hm;refine c8A (V7 s at_) (fun(n10,i11)=>⟨[(0, .v (.string s)),(1,DI at_),(7,DI n10),(8,DI i11)], [],0⟩) (0,at_) (sb 0) he ?_;rintro fu35 ⟨n10,i11⟩ b hm hi36;apply vb hm<;>intro _ hm;apply vb hm<;>intro _ hm;obtain⟨ch39,hx,hm⟩:=e9 hm;refine⟨ch39,Q9 hx, ?_⟩;apply vb hm<;>intro _ hm;cases hm;cases hi36;have hm:=hk34;cases hm;exact c8z (c8x _);obtain⟨ch41,hx,hm⟩:=e9 hm;refine⟨ch41,Q9 hx, ?_⟩;apply vb hm<;>intro _ hm;cases hm;cases hi36;have hm:=hk34;cases hm;exact c8z (c8x _);obtain⟨ch43,hx,hm⟩:=e9 hm;refine⟨ch43,Q9 hx, ?_⟩;apply vb hm<;>intro _ hm;cases hm;cases hi36;have hm:=hk34;cases hm;exact c8z (c8x _);obtain⟨ch45,hx,hm⟩:=e9 hm;refine⟨ch45,Q9 hx, ?_⟩;cases hm;exact⟨(_,((W ((W (10*n10))+(W (IntKind.u8.wrap ((ch45.toNat:Int)-48))))),(W (i11+1)))),sb 0,hi36,y6 _⟩;cases hm;cases hi36;have hm:=hk34;cases hm;exact c8z (c8x _);cases hm;cases hi36;have hm:=hk34;cases hm;exact c8z (c8x _)
def u6 (s:ByteArray):(Int×Int×Int×Int×Int×Int×Int×Int×Int)→Option (Sum (Int×Int×Int×Int×Int×Int×Int×Int×Int) (Sum (Int×Int×Int×Int×Int×Int×Int×Int×Int) (b9×Int))):=fun(at_16,i17,v18,v19,v20,v21,v22,v23,v24)=>
 if(decide (i17<7))=true then
  Option.bind (U0 s at_16) fun⟨x42,x43,x44⟩=>
  if(!x44)=true then
   some (.inr (.inr ((⟨(⟨0,0⟩:u0),0,0,0,(⟨0,0⟩:u0),(⟨#[]⟩:ByteArray)⟩:b9),5)))
  else
   gd (0≤i17∧i17<7)<|
   Option.bind (idx [v18,v19,v20,v21,v22,v23,v24] i17) fun e47=>
   Option.bind (some x42) fun y49=>
   Option.bind (some (if(i17==0)=true then y49 else v18)) fun q50=>
   Option.bind (some (if(i17==1)=true then y49 else v19)) fun q51=>
   Option.bind (some (if(i17==2)=true then y49 else v20)) fun q52=>
   Option.bind (some (if(i17==3)=true then y49 else v21)) fun q53=>
   Option.bind (some (if(i17==4)=true then y49 else v22)) fun q54=>
   Option.bind (some (if(i17==5)=true then y49 else v23)) fun q55=>
   Option.bind (some (if(i17==6)=true then y49 else v24)) fun q56=>
   some (.inl (x43,(W (i17+1)),q50,q51,q52,q53,q54,q55,q56))
 else
  some (.inr (.inl (at_16,i17,v18,v19,v20,v21,v22,v23,v24)))
def O5 (s:ByteArray):Option (b9×Int):=
 Option.bind (w7 (u6 s) (0,0,0,0,0,0,0,0,0)) fun e=>
 match e with
 | .inl (at_57,i58,v59,v60,v61,v62,v63,v64,v65)=>
  gd ((0≤at_57∧at_57≤(s.size:Int)))<|
  Option.bind (K6 (⟨(⟨v59,v60⟩:u0),v61,v62,v63,(⟨v64,v65⟩:u0),(s.extract ((at_57).toNat) s.size)⟩:b9)) fun x66=>
  if(x66 !=0)=true then
   some ((⟨(⟨0,0⟩:u0),0,0,0,(⟨0,0⟩:u0),(⟨#[]⟩:ByteArray)⟩:b9),5)
  else
   Option.bind (a2n (⟨(⟨v59,v60⟩:u0),v61,v62,v63,(⟨v64,v65⟩:u0),(s.extract ((at_57).toNat) s.size)⟩:b9)) fun x69=>
   if(!(x69.toList==s.toList))=true then
    some ((⟨(⟨0,0⟩:u0),0,0,0,(⟨0,0⟩:u0),(⟨#[]⟩:ByteArray)⟩:b9),5)
   else
    some ((⟨(⟨v59,v60⟩:u0),v61,v62,v63,(⟨v64,v65⟩:u0),(s.extract ((at_57).toNat) s.size)⟩:b9),0)
 | .inr rr72=>
  some rr72
theorem a7Q (s:ByteArray) (r:(b9×Int)) (hm:O5 s=some r):o8 Tryz.prog 32 [.v (.string s)] (fun x=>x= .tup [.agg (b9.c r.1),DI r.2]):=by
 refine zy c8i [] [] [] Tryz.func32 rfl ?_;obtain⟨ev73,he,hk74⟩:=e9 hm;refine c8A (u6 s) (fun(at_16,i17,v18,v19,v20,v21,v22,v23,v24)=>⟨[(0, .v (.string s)),(2, .own 0 0),(4, .own 1 0),(5,DI at_16),(6,DI i17)], [(0, .blk [DI 0,DI 0,DI 0,DI 0,DI 0,DI 0,DI 0, .v (.string (⟨#[]⟩:ByteArray))] 38),(1, .blk [DI v18,DI v19,DI v20,DI v21,DI v22,DI v23,DI v24] 144)],2⟩) (0,0,0,0,0,0,0,0,0) (sb 2) he ?_;rintro fu75 ⟨at_16,i17,v18,v19,v20,v21,v22,v23,v24⟩ b hm hi76;apply vb hm<;>intro _ hm;refine cy hm (b4n s at_16) ?_;rintro⟨x78,x79,x80⟩ hm;apply vb hm<;>intro _ hm;cases hm;cases hi76;have hm:=hk74;cases hm;exact c8z (c8x _);obtain⟨hg,hm⟩:=j1 hm;refine⟨hg, ?_⟩;obtain⟨e83,hx84,hm⟩:=e9 hm;obtain⟨y85,hy,hm⟩:=e9 hm;obtain⟨q86,hq0,hm⟩:=e9 hm;obtain⟨q87,hq1,hm⟩:=e9 hm;obtain⟨q88,hq2,hm⟩:=e9 hm;obtain⟨q89,hq3,hm⟩:=e9 hm;obtain⟨q90,hq4,hm⟩:=e9 hm;obtain⟨q91,hq5,hm⟩:=e9 hm;obtain⟨q92,hq6,hm⟩:=e9 hm;refine⟨[DI q86,DI q87,DI q88,DI q89,DI q90,DI q91,DI q92],stx (y:=y85) (ys:= [q86,q87,q88,q89,q90,q91,q92]) (c:=cI) (z:=1) (pre:= []) (post:= []) (b:=0) (off:=0) (fun _=>rfl) hx84 rfl rfl (by omega) (by cases hy;rfl) rfl (by cases hq0;cases hq1;cases hq2;cases hq3;cases hq4;cases hq5;cases hq6;exact b0x hx84), ?_⟩;clear hy hq0 hq1 hq2 hq3 hq4 hq5 hq6;cases hm;exact⟨(_,(x79,(W (i17+1)),q86,q87,q88,q89,q90,q91,q92)),sb 2,hi76,y6 _⟩;cases hm;cases hi76;have hm:=hk74;refine⟨rfl, ?_⟩;refine⟨by decide, ?_⟩;refine⟨by decide, ?_⟩;refine⟨by decide, ?_⟩;refine⟨by decide, ?_⟩;refine⟨by decide, ?_⟩;refine⟨by decide, ?_⟩;refine⟨by decide, ?_⟩;obtain⟨hg,hm⟩:=j1 hm;refine⟨hg, ?_⟩;refine cy hm (a2A ((⟨(⟨v18,v19⟩:u0),v20,v21,v22,(⟨v23,v24⟩:u0),(s.extract ((at_16).toNat) s.size)⟩:b9))) fun x93 hm=> ?_
 apply vb hm<;>intro _ hm;cases hm;exact c8z (c8x _);refine cy hm (b0L ((⟨(⟨v18,v19⟩:u0),v20,v21,v22,(⟨v23,v24⟩:u0),(s.extract ((at_16).toNat) s.size)⟩:b9))) fun x96 hm=> ?_
 apply vb hm<;>intro _ hm;cases hm;exact c8z (c8x _);cases hm;exact c8z (c8x _)
def a5q (b_:m7):Option (List c8):=
 gd ((([]:List c8).length+b_.Thread.length)*48≤140737488355328∧([]:List c8).length+b_.Thread.length≤9223372036854775807)<|
 gd (((([]:List c8)++b_.Thread).length+b_.Loose.length)*48≤140737488355328∧(([]:List c8)++b_.Thread).length+b_.Loose.length≤9223372036854775807)<|
 some ((([]:List c8)++b_.Thread)++b_.Loose)
theorem b5H (b_:m7) (r:(List c8)) (hm:a5q b_=some r):o8 Tryz.prog 73 [.agg (m7.c b_)] (fun x=>x=lD 5 r c8.c):=by
 refine zy c8j [] [] [] Tryz.func73 rfl ?_;refine⟨rfl, ?_⟩;refine⟨([]:List c8).flatMap c8.c,([]:List c8).length,⟨rfl,rfl⟩, ?_⟩;obtain⟨hg,hm⟩:=j1 hm;refine⟨hg,_,_,y0 (c:=c8.c) (l:=(([]:List c8):List c8)) (r:=(b_.Thread:List c8)), ?_⟩;obtain⟨hg,hm⟩:=j1 hm;refine⟨hg,_,_,y0 (c:=c8.c) (l:=((([]:List c8)++b_.Thread):List c8)) (r:=(b_.Loose:List c8)), ?_⟩;cases hm;exact c8z (c8x _)
def V9 (c:c8):Option Int:=
 Option.bind (P1 c.No 0 59) fun x1=>
 if(!x1)=true then
  some 87
 else
  Option.bind (P1 c.Parts 1 10) fun x4=>
  if(!x4)=true then
   some 87
  else
   Option.bind (P1 c.Part 0 (W (c.Parts-1))) fun x7=>
   if(!x7)=true then
    some 87
   else
    Option.bind (P1 c.Size 1 24) fun x10=>
    if(!x10)=true then
     some 87
    else
     if((c.Text.size:Int) !=c.Size)=true then
      some 87
     else
      some 0
theorem a9D (c:c8) (r:Int) (hm:V9 c=some r):o8 Tryz.prog 39 [.agg (c8.c c)] (fun x=>x=DI r):=by
 refine zn Tryz.func39 rfl ?_;refine cy hm (Z3 c.No 0 59) fun x1 hm=> ?_
 apply vb hm<;>intro _ hm;exact hm.rr;refine cy hm (Z3 c.Parts 1 10) fun x4 hm=> ?_
 apply vb hm<;>intro _ hm;exact hm.rr;refine cy hm (Z3 c.Part 0 (W (c.Parts-1))) fun x7 hm=> ?_
 apply vb hm<;>intro _ hm;exact hm.rr;refine cy hm (Z3 c.Size 1 24) fun x10 hm=> ?_
 apply vb hm<;>intro _ hm;exact hm.rr;apply vb hm<;>intro _ hm;exact hm.rr;exact hm.rr
def Q7 (l:(List c8)) (no:Int) (part:(Int×Int)):Int→Option (Sum Int (Sum Int (c8×Bool))):=fun i11=>
 if(decide (i11<(l.length:Int)))=true then
  Option.bind (idx l i11) fun e23=>
  Option.bind (V9 e23) fun x25=>
  if(x25==0)=true then
   if(e23.No==no)=true then
    if(e23.Part==part.1)=true then
     if(part.2==0)=true then
      some (.inr (.inr (e23,true)))
     else
      if(e23.Parts==part.2)=true then
       some (.inr (.inr (e23,true)))
      else
       some (.inl (W (i11+1)))
    else
     some (.inl (W (i11+1)))
   else
    some (.inl (W (i11+1)))
  else
   some (.inl (W (i11+1)))
 else
  some (.inr (.inl i11))
def a0Q (l:(List c8)) (no:Int) (part:(Int×Int)):Option (c8×Bool):=
 Option.bind (w7 (Q7 l no part) 0) fun e=>
 match e with
 | .inl i32=>
  some ((⟨0,0,0,0,(⟨#[]⟩:ByteArray)⟩:c8),false)
 | .inr rr33=>
  some rr33
theorem a8T (l:(List c8)) (no:Int) (part:(Int×Int)) (r:(c8×Bool)) (hm:a0Q l no part=some r):o8 Tryz.prog 74 [lD 5 l c8.c,DI no, .agg [DI part.1,DI part.2]] (fun x=>x= .tup [.agg (c8.c r.1),DB r.2]):=by
 refine zn Tryz.func74 rfl ?_;obtain⟨ev34,he,hk35⟩:=e9 hm;refine c8A (Q7 l no part) (fun i11=>⟨[(0,lD 5 l c8.c),(1,DI no),(5, .own 0 0),(6, .own 1 0),(8,DI i11)], [(0, .blk [DI part.1,DI part.2] 129),(1, .blk [DI 0,DI 0,DI 0,DI 0, .v (.string (⟨#[]⟩:ByteArray))] 53)],2⟩) 0 (sb 2) he ?_;rintro fu36 i11 b hm hi37;apply vb hm<;>intro _ hm;refine ei hm fun e39 hm=> ?_
 refine cy hm (a9D e39) fun x41 hm=> ?_
 apply vb hm<;>intro _ hm;apply vb hm<;>intro _ hm;refine⟨by decide, ?_⟩;apply vb hm<;>intro _ hm;refine⟨by decide, ?_⟩;apply vb hm<;>intro _ hm;cases hm;cases hi37;have hm:=hk35;cases hm;exact c8z (c8x _);refine⟨by decide, ?_⟩;apply vb hm<;>intro _ hm;cases hm;cases hi37;have hm:=hk35;cases hm;exact c8z (c8x _);cases hm;exact⟨(_,(W (i11+1))),sb 2,hi37,y6 _⟩;cases hm;exact⟨(_,(W (i11+1))),sb 2,hi37,y6 _⟩;cases hm;exact⟨(_,(W (i11+1))),sb 2,hi37,y6 _⟩;cases hm;exact⟨(_,(W (i11+1))),sb 2,hi37,y6 _⟩;cases hm;cases hi37;have hm:=hk35;cases hm;exact c8z (c8x _)
def a5W (l:(List b9)):(Int×Int×Int×Int×Int×Int×Int)→Option (Sum (Int×Int×Int×Int×Int×Int×Int) (Int×Int×Int×Int×Int×Int×Int)):=fun(i15,v16,v17,v18,v19,v20,v21)=>
 if(decide (i15<(l.length:Int)))=true then
  Option.bind (idx l i15) fun e37=>
  gd (0≤e37.At.Depot∧e37.At.Depot<6)<|
  Option.bind (idx [v16,v17,v18,v19,v20,v21] e37.At.Depot) fun e39=>
  gd (0≤e37.At.Depot∧e37.At.Depot<6)<|
  Option.bind (idx [v16,v17,v18,v19,v20,v21] e37.At.Depot) fun e41=>
  Option.bind (some (W (e39+1))) fun y43=>
  Option.bind (some (if(e37.At.Depot==0)=true then y43 else v16)) fun q44=>
  Option.bind (some (if(e37.At.Depot==1)=true then y43 else v17)) fun q45=>
  Option.bind (some (if(e37.At.Depot==2)=true then y43 else v18)) fun q46=>
  Option.bind (some (if(e37.At.Depot==3)=true then y43 else v19)) fun q47=>
  Option.bind (some (if(e37.At.Depot==4)=true then y43 else v20)) fun q48=>
  Option.bind (some (if(e37.At.Depot==5)=true then y43 else v21)) fun q49=>
  some (.inl ((W (i15+1)),q44,q45,q46,q47,q48,q49))
 else
  some (.inr (i15,v16,v17,v18,v19,v20,v21))
def a6B (l:(List b9)):Option (Int×Int×Int×Int×Int×Int):=
 Option.bind (w7 (a5W l) (0,0,0,0,0,0,0)) fun(i50,v51,v52,v53,v54,v55,v56)=>
 some (v51,v52,v53,v54,v55,v56)
theorem b7t (l:(List b9)) (r:(Int×Int×Int×Int×Int×Int)) (hm:a6B l=some r):o8 Tryz.prog 89 [lD 8 l b9.c] (fun x=>x= .agg [DI r.1,DI r.2.1,DI r.2.2.1,DI r.2.2.2.1,DI r.2.2.2.2.1,DI r.2.2.2.2.2]):=by
 refine zn Tryz.func89 rfl ?_;obtain⟨ev57,he,hk58⟩:=e9 hm;refine c8A (a5W l) (fun(i15,v16,v17,v18,v19,v20,v21)=>⟨[(0,lD 8 l b9.c),(2, .own 0 0),(3, .own 1 0),(4,DI i15)], [(0, .blk [DI 0,DI 0,DI 0,DI 0,DI 0,DI 0] 78),(1, .blk [DI v16,DI v17,DI v18,DI v19,DI v20,DI v21] 78)],2⟩) (0,0,0,0,0,0,0) (sb 2) he ?_;rintro fu59 ⟨i15,v16,v17,v18,v19,v20,v21⟩ b hm hi60;apply vb hm<;>intro _ hm;refine ei hm fun _ hm=> ?_
 obtain⟨hg,hm⟩:=j1 hm;refine⟨hg, ?_⟩;obtain⟨e64,hx65,hm⟩:=e9 hm;refine⟨_,ldx (r:= [DI e64]) (c:=cI) (z:=1) (pre:= []) (post:= []) (b:=0) (off:=0) (fun _=>rfl) hx65 rfl rfl (by omega) rfl, ?_⟩;obtain⟨hg,hm⟩:=j1 hm;refine⟨hg, ?_⟩;obtain⟨e66,hx67,hm⟩:=e9 hm;obtain⟨y68,hy,hm⟩:=e9 hm;obtain⟨q69,hq0,hm⟩:=e9 hm;obtain⟨q70,hq1,hm⟩:=e9 hm;obtain⟨q71,hq2,hm⟩:=e9 hm;obtain⟨q72,hq3,hm⟩:=e9 hm;obtain⟨q73,hq4,hm⟩:=e9 hm;obtain⟨q74,hq5,hm⟩:=e9 hm;refine⟨[DI q69,DI q70,DI q71,DI q72,DI q73,DI q74],stx (y:=y68) (ys:= [q69,q70,q71,q72,q73,q74]) (c:=cI) (z:=1) (pre:= []) (post:= []) (b:=0) (off:=0) (fun _=>rfl) hx67 rfl rfl (by omega) (by cases hy;rfl) rfl (by cases hq0;cases hq1;cases hq2;cases hq3;cases hq4;cases hq5;exact b0x hx67), ?_⟩;clear hy hq0 hq1 hq2 hq3 hq4 hq5;cases hm;exact⟨(_,((W (i15+1)),q69,q70,q71,q72,q73,q74)),sb 2,hi60,y6 _⟩;cases hm;cases hi60;have hm:=hk58;cases hm;exact c8z (c8x _)
def a4h (l:(List b9)) (r_:b9):Option Bool:=
 Option.bind (K6 r_) fun x1=>
 if(x1==0)=true then
  if(decide ((l.length:Int)<60))=true then
   Option.bind (a6B l) fun x5=>
   Option.bind (idx [x5.1,x5.2.1,x5.2.2.1,x5.2.2.2.1,x5.2.2.2.2.1,x5.2.2.2.2.2] r_.At.Depot) fun e7=>
   some (r_.At.No==e7)
  else
   some false
 else
  some false
theorem b0m (l:(List b9)) (r_:b9) (r:Bool) (hm:a4h l r_=some r):o8 Tryz.prog 75 [lD 8 l b9.c, .agg (b9.c r_)] (fun x=>x=DB r):=by
 refine zy c8u [] [] [] Tryz.func75 rfl ?_;refine⟨rfl, ?_⟩;refine cy hm (a2A r_) fun x1 hm=> ?_
 apply vb hm<;>intro _ hm;apply vb hm<;>intro _ hm;refine cy hm (b7t l) fun x5 hm=> ?_
 obtain⟨e7,hx8,hm⟩:=e9 hm;refine⟨b0J hx8,_,ldx (c:=cI) (z:=1) (pre:= []) (post:= []) (b:=0) (off:=0) (fun _=>rfl) hx8 rfl rfl (by omega) rfl, ?_⟩;exact hm.rr;exact hm.rr;exact hm.rr
def M6 (no:Int) (x1:ByteArray):((List c8)×Int)→Option (Sum ((List c8)×Int) ((List c8)×Int)):=fun(out4,i5)=>
 if(decide (i5<(W ((W ((W ((x1.size:Int)+24))-1)).tdiv 24))))=true then
  gd ((0≤(if(W ((W (i5+1))*24))<(x1.size:Int)then(W ((W (i5+1))*24))else(x1.size:Int))∧(if(W ((W (i5+1))*24))<(x1.size:Int)then(W ((W (i5+1))*24))else(x1.size:Int))≤(x1.size:Int))∧(0≤(W (i5*24))∧(W (i5*24))≤(if(W ((W (i5+1))*24))<(x1.size:Int)then(W ((W (i5+1))*24))else(x1.size:Int))))<|
  gd ((out4.length+([(⟨no,i5,(W ((W ((W ((x1.size:Int)+24))-1)).tdiv 24)),((x1.extract (((W (i5*24))).toNat) (((if(W ((W (i5+1))*24))<(x1.size:Int)then(W ((W (i5+1))*24))else(x1.size:Int))).toNat)).size:Int),(x1.extract (((W (i5*24))).toNat) (((if(W ((W (i5+1))*24))<(x1.size:Int)then(W ((W (i5+1))*24))else(x1.size:Int))).toNat))⟩:c8)]:List c8).length)*48≤140737488355328∧out4.length+([(⟨no,i5,(W ((W ((W ((x1.size:Int)+24))-1)).tdiv 24)),((x1.extract (((W (i5*24))).toNat) (((if(W ((W (i5+1))*24))<(x1.size:Int)then(W ((W (i5+1))*24))else(x1.size:Int))).toNat)).size:Int),(x1.extract (((W (i5*24))).toNat) (((if(W ((W (i5+1))*24))<(x1.size:Int)then(W ((W (i5+1))*24))else(x1.size:Int))).toNat))⟩:c8)]:List c8).length≤9223372036854775807)<|
  some (.inl ((out4++([(⟨no,i5,(W ((W ((W ((x1.size:Int)+24))-1)).tdiv 24)),((x1.extract (((W (i5*24))).toNat) (((if(W ((W (i5+1))*24))<(x1.size:Int)then(W ((W (i5+1))*24))else(x1.size:Int))).toNat)).size:Int),(x1.extract (((W (i5*24))).toNat) (((if(W ((W (i5+1))*24))<(x1.size:Int)then(W ((W (i5+1))*24))else(x1.size:Int))).toNat))⟩:c8)]:List c8)),(W (i5+1))))
 else
  some (.inr (out4,i5))
def a2s (r_:b9) (no:Int):Option (List c8):=
 Option.bind (a2n r_) fun x1=>
 Option.bind (w7 (M6 no x1) ([],0)) fun(out8,i9)=>
 some out8
theorem b6M (r_:b9) (no:Int) (r:(List c8)) (hm:a2s r_ no=some r):o8 Tryz.prog 87 [.agg (b9.c r_),DI no] (fun x=>x=lD 5 r c8.c):=by
 refine zn Tryz.func87 rfl ?_;refine cy hm (b0L r_) fun x1 hm=> ?_
 refine⟨by decide, ?_⟩;obtain⟨ev10,he,hk11⟩:=e9 hm;refine c8A (M6 no x1) (fun(out4,i5)=>⟨[(1,DI no),(5, .v (.string x1)),(6,DI (W ((W ((W ((x1.size:Int)+24))-1)).tdiv 24))),(7, .row 1 5),(8,DI i5)], [(1,rE 5 out4 c8.c 53)],2⟩) ([],0) (sb 1) he ?_;rintro fu12 ⟨out4,i5⟩ b hm hi13;apply vb hm<;>intro _ hm;obtain⟨hg,hm⟩:=j1 hm;refine⟨hg.1,hg.2, ?_⟩;refine⟨([(⟨no,i5,(W ((W ((W ((x1.size:Int)+24))-1)).tdiv 24)),((x1.extract (((W (i5*24))).toNat) (((if(W ((W (i5+1))*24))<(x1.size:Int)then(W ((W (i5+1))*24))else(x1.size:Int))).toNat)).size:Int),(x1.extract (((W (i5*24))).toNat) (((if(W ((W (i5+1))*24))<(x1.size:Int)then(W ((W (i5+1))*24))else(x1.size:Int))).toNat))⟩:c8)]:List c8).flatMap c8.c,([(⟨no,i5,(W ((W ((W ((x1.size:Int)+24))-1)).tdiv 24)),((x1.extract (((W (i5*24))).toNat) (((if(W ((W (i5+1))*24))<(x1.size:Int)then(W ((W (i5+1))*24))else(x1.size:Int))).toNat)).size:Int),(x1.extract (((W (i5*24))).toNat) (((if(W ((W (i5+1))*24))<(x1.size:Int)then(W ((W (i5+1))*24))else(x1.size:Int))).toNat))⟩:c8)]:List c8).length,⟨rfl,rfl⟩, ?_⟩
 obtain⟨hg,hm⟩:=j1 hm;refine⟨hg,_,_,y0 (c:=c8.c) (l:=(out4:List c8)) (r:=(([(⟨no,i5,(W ((W ((W ((x1.size:Int)+24))-1)).tdiv 24)),((x1.extract (((W (i5*24))).toNat) (((if(W ((W (i5+1))*24))<(x1.size:Int)then(W ((W (i5+1))*24))else(x1.size:Int))).toNat)).size:Int),(x1.extract (((W (i5*24))).toNat) (((if(W ((W (i5+1))*24))<(x1.size:Int)then(W ((W (i5+1))*24))else(x1.size:Int))).toNat))⟩:c8)]:List c8):List c8)), ?_⟩
 cases hm;exact⟨(_,((out4++([(⟨no,i5,(W ((W ((W ((x1.size:Int)+24))-1)).tdiv 24)),((x1.extract (((W (i5*24))).toNat) (((if(W ((W (i5+1))*24))<(x1.size:Int)then(W ((W (i5+1))*24))else(x1.size:Int))).toNat)).size:Int),(x1.extract (((W (i5*24))).toNat) (((if(W ((W (i5+1))*24))<(x1.size:Int)then(W ((W (i5+1))*24))else(x1.size:Int))).toNat))⟩:c8)]:List c8)),(W (i5+1)))),sb 2,hi13,y6 _⟩
 cases hm;cases hi13;have hm:=hk11;cases hm;exact c8z (c8x _)
def U3 (l:(List b9)):((List c8)×Int)→Option (Sum ((List c8)×Int) ((List c8)×Int)):=fun(out6,i7)=>
 if(decide (i7<(l.length:Int)))=true then
  Option.bind (idx l i7) fun e14=>
  Option.bind (a2s e14 i7) fun x16=>
  gd ((out6.length+x16.length)*48≤140737488355328∧out6.length+x16.length≤9223372036854775807)<|
  some (.inl ((out6++x16),(W (i7+1))))
 else
  some (.inr (out6,i7))
def a1K (l:(List b9)):Option (List c8):=
 Option.bind (w7 (U3 l) ([],0)) fun(out18,i19)=>
 some out18
theorem a1I (l:(List b9)) (r:(List c8)) (hm:a1K l=some r):o8 Tryz.prog 76 [lD 8 l b9.c] (fun x=>x=lD 5 r c8.c):=by
 refine zn Tryz.func76 rfl ?_;obtain⟨ev20,he,hk21⟩:=e9 hm;refine c8A (U3 l) (fun(out6,i7)=>⟨[(0,lD 8 l b9.c),(3, .row 0 5),(4,DI i7)], [(0,rE 5 out6 c8.c 53)],1⟩) ([],0) (sb 0) he ?_;rintro fu22 ⟨out6,i7⟩ b hm hi23;apply vb hm<;>intro _ hm;refine ei hm fun e25 hm=> ?_
 refine cy hm (b6M e25 i7) fun x27 hm=> ?_
 obtain⟨hg,hm⟩:=j1 hm;refine⟨hg,_,_,y0 (c:=c8.c) (l:=(out6:List c8)) (r:=(x27:List c8)), ?_⟩;cases hm;exact⟨(_,((out6++x27),(W (i7+1)))),sb 1,hi23,y6 _⟩;cases hm;cases hi23;have hm:=hk21;cases hm;exact c8z (c8x _)
def D3 (x1:(List c8)) (out41:(List b9)) (x80:c8):(Bool×ByteArray×Int)→Option (Sum (Bool×ByteArray×Int) (Bool×ByteArray×Int)):=fun(ok88,s89,i90)=>
 if(decide (i90<x80.Parts))=true then
  if ok88=true then
   Option.bind (a0Q x1 (out41.length:Int) (i90,x80.Parts)) fun⟨x98,x99⟩=>
   gd (((s89.size+x98.Text.size:Nat):Int)≤9223372036854775807)<|
   some (.inl (x99,(s89++x98.Text),(W (i90+1))))
  else
   some (.inr (ok88,s89,i90))
 else
  some (.inr (ok88,s89,i90))
def V1 (x1:(List c8)):(List b9)→Option (Sum (List b9) (m7×(List b9))):=fun out41=>
 Option.bind (a0Q x1 (out41.length:Int) (0,0)) fun⟨x80,x81⟩=>
 Option.bind (w7 (D3 x1 out41 x80) (x81,x80.Text,1)) fun(ok101,s102,i103)=>
 Option.bind (O5 s102) fun⟨x104,x105⟩=>
 if(!ok101)=true then
  Option.bind (a1K out41) fun x108=>
  some (.inr ((⟨x108, []⟩:m7),out41))
 else
  if(x105 !=0)=true then
   Option.bind (a1K out41) fun x111=>
   some (.inr ((⟨x111, []⟩:m7),out41))
  else
   Option.bind (a4h out41 x104) fun x113=>
   if(!x113)=true then
    Option.bind (a1K out41) fun x116=>
    some (.inr ((⟨x116, []⟩:m7),out41))
   else
    gd ((out41.length+([x104]:List b9).length)*72≤140737488355328∧out41.length+([x104]:List b9).length≤9223372036854775807)<|
    some (.inl (out41++([x104]:List b9)))
def a3P (b_:m7):Option (m7×(List b9)):=
 Option.bind (a5q b_) fun x1=>
 w7 (V1 x1) []
theorem b8s (b_:m7) (r:(m7×(List b9))) (hm:a3P b_=some r):o8 Tryz.prog 16 [.agg (m7.c b_)] (fun x=>x= .tup [.agg (m7.c r.1),lD 8 r.2 b9.c]):=by
 refine zn Tryz.func16 rfl ?_;refine cy hm (b5H b_) fun x1 hm=> ?_
 have he:=hm;refine c8A (V1 x1) (fun out41=>⟨[(2, .own 1 0),(4,lD 5 x1 c8.c),(5, .row 2 8)], [(1, .blk [nS,nS] 24),(2,rE 8 out41 b9.c 38)],3⟩) [] (sb 2) he ?_;rintro fu157 out41 b hm hi158;refine cy hm (a8T x1 ((out41.length:Int)) (0,0)) ?_;rintro⟨x159,x160⟩ hm;obtain⟨ev197,he,hk198⟩:=e9 hm;refine c8A (D3 x1 out41 x159) (fun(ok167,s168,i169)=>⟨[(2, .own 1 0),(4,lD 5 x1 c8.c),(5, .row 2 8),(6, .own 3 0),(7,DB ok167),(8, .v (.string s168)),(9,DI i169)], [(1, .blk [nS,nS] 24),(2,rE 8 out41 b9.c 38),(3, .blk (c8.c x159) 53)],4⟩) (x160,x159.Text,1) (sb 4) he ?_;rintro fu199 ⟨ok167,s168,i169⟩ b hm hi200;apply vb hm<;>intro _ hm;apply vb hm<;>intro _ hm;refine cy hm (a8T x1 ((out41.length:Int)) (i169,x159.Parts)) ?_;rintro⟨x203,x204⟩ hm;obtain⟨hg,hm⟩:=j1 hm;refine⟨hg, ?_⟩;cases hm;exact⟨(_,(x204,(s168++x203.Text),(W (i169+1)))),sb 4,hi200,y6 _⟩;cases hm;cases hi200;have hm:=hk198;refine cy hm (a7Q s168) ?_;rintro⟨x206,x207⟩ hm;apply vb hm<;>intro _ hm;refine co hm (a1I out41) fun x210 hm=> ?_
 cases hm;cases hi158;exact c8z (le1);apply vb hm<;>intro _ hm;refine co hm (a1I out41) fun x213 hm=> ?_
 cases hm;cases hi158;exact c8z (le1);refine co hm (b0m out41 x206) fun x215 hm=> ?_
 apply vb hm<;>intro _ hm;refine co hm (a1I out41) fun x218 hm=> ?_
 cases hm;cases hi158;exact c8z (le1);refine⟨([x206]:List b9).flatMap b9.c,([x206]:List b9).length,⟨rfl,rfl⟩, ?_⟩;obtain⟨hg,hm⟩:=j1 hm;refine⟨hg,_,_,y0 (c:=b9.c) (l:=(out41:List b9)) (r:=(([x206]:List b9):List b9)), ?_⟩;cases hm;exact⟨(_,(out41++([x206]:List b9))),sb 3,hi158,y6 _⟩;cases hm;cases hi200;have hm:=hk198;refine cy hm (a7Q s168) ?_;rintro⟨x220,x221⟩ hm;apply vb hm<;>intro _ hm;refine co hm (a1I out41) fun x224 hm=> ?_
 cases hm;cases hi158;exact c8z (le1);apply vb hm<;>intro _ hm;refine co hm (a1I out41) fun x227 hm=> ?_
 cases hm;cases hi158;exact c8z (le1);refine co hm (b0m out41 x220) fun x229 hm=> ?_
 apply vb hm<;>intro _ hm;refine co hm (a1I out41) fun x232 hm=> ?_
 cases hm;cases hi158;exact c8z (le1);refine⟨([x220]:List b9).flatMap b9.c,([x220]:List b9).length,⟨rfl,rfl⟩, ?_⟩;obtain⟨hg,hm⟩:=j1 hm;refine⟨hg,_,_,y0 (c:=b9.c) (l:=(out41:List b9)) (r:=(([x220]:List b9):List b9)), ?_⟩;cases hm;exact⟨(_,(out41++([x220]:List b9))),sb 3,hi158,y6 _⟩
def I5 (a:(List c8)) (b_:(List c8)):(Bool×Int)→Option (Sum (Bool×Int) (Bool×Int)):=fun(same7,i8)=>
 if(decide (i8<(a.length:Int)))=true then
  if same7=true then
   Option.bind (idx a i8) fun e17=>
   Option.bind (idx b_ i8) fun e19=>
   some (.inl (((e17.No==e19.No)&&((e17.Part==e19.Part)&&((e17.Parts==e19.Parts)&&((e17.Size==e19.Size)&&(e17.Text.toList==e19.Text.toList))))),(W (i8+1))))
  else
   some (.inr (same7,i8))
 else
  some (.inr (same7,i8))
def O9 (a:(List c8)) (b_:(List c8)):Option Bool:=
 Option.bind (w7 (I5 a b_) (((a.length:Int)==(b_.length:Int)),0)) fun(same21,i22)=>
 some same21
theorem a4m (a:(List c8)) (b_:(List c8)) (r:Bool) (hm:O9 a b_=some r):o8 Tryz.prog 35 [lD 5 a c8.c,lD 5 b_ c8.c] (fun x=>x=DB r):=by
 refine zy c7U [] [] [] Tryz.func35 rfl ?_;obtain⟨ev23,he,hk24⟩:=e9 hm;refine c8A (I5 a b_) (fun(same7,i8)=>⟨[(0,lD 5 a c8.c),(1,lD 5 b_ c8.c),(5,DB same7),(6,DI i8)], [],0⟩) (((a.length:Int)==(b_.length:Int)),0) (sb 0) he ?_;rintro fu25 ⟨same7,i8⟩ b hm hi26;apply vb hm<;>intro _ hm;apply vb hm<;>intro _ hm;refine⟨rfl, ?_⟩;refine ei hm fun e29 hm=> ?_
 refine ei hm fun e31 hm=> ?_
 cases hm;exact⟨(_,(((e29.No==e31.No)&&((e29.Part==e31.Part)&&((e29.Parts==e31.Parts)&&((e29.Size==e31.Size)&&(e29.Text.toList==e31.Text.toList))))),(W (i8+1)))),sb 0,hi26,y6 _⟩;cases hm;cases hi26;have hm:=hk24;exact hm.rr;cases hm;cases hi26;have hm:=hk24;exact hm.rr
def P6 (a:m7) (b_:m7):Option Bool:=
 Option.bind (O9 a.Thread b_.Thread) fun x1=>
 Option.bind (O9 a.Loose b_.Loose) fun x3=>
 if x1=true then
  some x3
 else
  some false
theorem a2M (a:m7) (b_:m7) (r:Bool) (hm:P6 a b_=some r):o8 Tryz.prog 17 [.agg (m7.c a), .agg (m7.c b_)] (fun x=>x=DB r):=by
 refine zn Tryz.func17 rfl ?_;refine cy hm (a4m a.Thread b_.Thread) fun x1 hm=> ?_
 refine cy hm (a4m a.Loose b_.Loose) fun x3 hm=> ?_
 apply vb hm<;>intro _ hm;exact hm.rr;exact hm.rr
def F6 (a:(List b9)) (b_:(List b9)):(Bool×Int)→Option (Sum (Bool×Int) (Bool×Int)):=fun(same7,i8)=>
 if(decide (i8<(a.length:Int)))=true then
  if same7=true then
   Option.bind (idx a i8) fun e17=>
   Option.bind (idx b_ i8) fun e19=>
   some (.inl (((e17.At.Depot==e19.At.Depot)&&((e17.At.No==e19.At.No)&&((e17.Kind==e19.Kind)&&((e17.Day==e19.Day)&&((e17.Known==e19.Known)&&((e17.Of.Depot==e19.Of.Depot)&&((e17.Of.No==e19.Of.No)&&(e17.Text.toList==e19.Text.toList)))))))),(W (i8+1))))
  else
   some (.inr (same7,i8))
 else
  some (.inr (same7,i8))
def P9 (a:(List b9)) (b_:(List b9)):Option Bool:=
 Option.bind (w7 (F6 a b_) (((a.length:Int)==(b_.length:Int)),0)) fun(same21,i22)=>
 some same21
theorem a7G (a:(List b9)) (b_:(List b9)) (r:Bool) (hm:P9 a b_=some r):o8 Tryz.prog 18 [lD 8 a b9.c,lD 8 b_ b9.c] (fun x=>x=DB r):=by
 refine zy c8d [] [] [] Tryz.func18 rfl ?_;obtain⟨ev23,he,hk24⟩:=e9 hm;refine c8A (F6 a b_) (fun(same7,i8)=>⟨[(0,lD 8 a b9.c),(1,lD 8 b_ b9.c),(5,DB same7),(6,DI i8)], [],0⟩) (((a.length:Int)==(b_.length:Int)),0) (sb 0) he ?_;rintro fu25 ⟨same7,i8⟩ b hm hi26;apply vb hm<;>intro _ hm;apply vb hm<;>intro _ hm;refine⟨rfl, ?_⟩;refine ei hm fun e29 hm=> ?_
 refine ei hm fun e31 hm=> ?_
 cases hm;exact⟨(_,(((e29.At.Depot==e31.At.Depot)&&((e29.At.No==e31.At.No)&&((e29.Kind==e31.Kind)&&((e29.Day==e31.Day)&&((e29.Known==e31.Known)&&((e29.Of.Depot==e31.Of.Depot)&&((e29.Of.No==e31.Of.No)&&(e29.Text.toList==e31.Text.toList)))))))),(W (i8+1)))),sb 0,hi26,y6 _⟩;cases hm;cases hi26;have hm:=hk24;exact hm.rr;cases hm;cases hi26;have hm:=hk24;exact hm.rr
def a3Z (b_:m7):Option m7:=
 Option.bind (a5q b_) fun x1=>
 some (⟨x1, []⟩:m7)
theorem b7d (b_:m7) (r:m7) (hm:a3Z b_=some r):o8 Tryz.prog 20 [.agg (m7.c b_)] (fun x=>x= .agg (m7.c r)):=by
 refine zn Tryz.func20 rfl ?_;refine cy hm (b5H b_) fun x1 hm=> ?_
 cases hm;exact c8z (le2)
def a3y (n:Int) (m:Int):Option Int:=
 gd (m≠0)<|
 gd (m≠0)<|
 some ((W ((n.tmod m)+m)).tmod m)
theorem b2K (n:Int) (m:Int) (r:Int) (hm:a3y n m=some r):o8 Tryz.prog 27 [DI n,DI m] (fun x=>x=DI r):=by
 refine zn Tryz.func27 rfl ?_;obtain⟨hg,hm⟩:=j1 hm;refine⟨hg, ?_⟩;obtain⟨hg,hm⟩:=j1 hm;refine⟨hg, ?_⟩;exact hm.rr
def a1W (picks:(List Int)) (i:Int):Option Int:=
 if((picks.length:Int)==0)=true then
  some 0
 else
  gd ((picks.length:Int)≠0)<|
  Option.bind (idx picks (i.tmod (picks.length:Int))) fun e2=>
  some e2
theorem b0k (picks:(List Int)) (i:Int) (r:Int) (hm:a1W picks i=some r):o8 Tryz.prog 82 [lD 1 picks cI,DI i] (fun x=>x=DI r):=by
 refine zn Tryz.func82 rfl ?_;apply vb hm<;>intro _ hm;exact hm.rr;obtain⟨hg,hm⟩:=j1 hm;refine⟨hg, ?_⟩;refine ei hm fun _ hm=> ?_
 exact hm.rr
def P5 (b_:m7) (picks:(List Int)):(Int×(List c8)×(List c8)×(List c8)×(List c8)×(List c8)×(List c8))→Option (Sum (Int×(List c8)×(List c8)×(List c8)×(List c8)×(List c8)×(List c8)) (Int×(List c8)×(List c8)×(List c8)×(List c8)×(List c8)×(List c8))):=fun(i18,v19,v20,v21,v22,v23,v24)=>
 if(decide (i18<(b_.Loose.length:Int)))=true then
  Option.bind (idx b_.Loose i18) fun e43=>
  Option.bind (a1W picks (W (2*i18))) fun x45=>
  Option.bind (a3y x45 4) fun x47=>
  if(x47==0)=true then
   some (.inl ((W (i18+1)),v19,v20,v21,v22,v23,v24))
  else
   if(x47==1)=true then
    if(decide ((e43.Text.size:Int)>0))=true then
     Option.bind (a1W picks (W ((W (2*i18))+1))) fun x52=>
     Option.bind (a3y x52 (e43.Text.size:Int)) fun x54=>
     gd ((0≤x54∧x54≤(e43.Text.size:Int)))<|
     if(x47==3)=true then
      gd ((([(⟨e43.No,e43.Part,e43.Parts,e43.Size,(e43.Text.extract 0 ((x54).toNat))⟩:c8)]:List c8).length+v24.length)*48≤140737488355328∧([(⟨e43.No,e43.Part,e43.Parts,e43.Size,(e43.Text.extract 0 ((x54).toNat))⟩:c8)]:List c8).length+v24.length≤9223372036854775807)<|
      some (.inl ((W (i18+1)),v19,v20,v21,v22,v23,(([(⟨e43.No,e43.Part,e43.Parts,e43.Size,(e43.Text.extract 0 ((x54).toNat))⟩:c8)]:List c8)++v24)))
     else
      gd ((v24.length+([(⟨e43.No,e43.Part,e43.Parts,e43.Size,(e43.Text.extract 0 ((x54).toNat))⟩:c8)]:List c8).length)*48≤140737488355328∧v24.length+([(⟨e43.No,e43.Part,e43.Parts,e43.Size,(e43.Text.extract 0 ((x54).toNat))⟩:c8)]:List c8).length≤9223372036854775807)<|
      some (.inl ((W (i18+1)),v19,v20,v21,v22,v23,(v24++([(⟨e43.No,e43.Part,e43.Parts,e43.Size,(e43.Text.extract 0 ((x54).toNat))⟩:c8)]:List c8))))
    else
     if(x47==3)=true then
      gd ((([e43]:List c8).length+v24.length)*48≤140737488355328∧([e43]:List c8).length+v24.length≤9223372036854775807)<|
      some (.inl ((W (i18+1)),v19,v20,v21,v22,v23,(([e43]:List c8)++v24)))
     else
      gd ((v24.length+([e43]:List c8).length)*48≤140737488355328∧v24.length+([e43]:List c8).length≤9223372036854775807)<|
      some (.inl ((W (i18+1)),v19,v20,v21,v22,v23,(v24++([e43]:List c8))))
   else
    if(x47==3)=true then
     gd ((([e43]:List c8).length+v24.length)*48≤140737488355328∧([e43]:List c8).length+v24.length≤9223372036854775807)<|
     some (.inl ((W (i18+1)),v19,v20,v21,v22,v23,(([e43]:List c8)++v24)))
    else
     gd ((v24.length+([e43]:List c8).length)*48≤140737488355328∧v24.length+([e43]:List c8).length≤9223372036854775807)<|
     some (.inl ((W (i18+1)),v19,v20,v21,v22,v23,(v24++([e43]:List c8))))
 else
  some (.inr (i18,v19,v20,v21,v22,v23,v24))
def a3L (b_:m7) (picks:(List Int)):Option m7:=
 gd ((([]:List c8).length+b_.Thread.length)*48≤140737488355328∧([]:List c8).length+b_.Thread.length≤9223372036854775807)<|
 Option.bind (w7 (P5 b_ picks) (0, [], [], [], [], [], [])) fun(i59,v60,v61,v62,v63,v64,v65)=>
 some (⟨(([]:List c8)++b_.Thread),v65⟩:m7)
theorem b8o (b_:m7) (picks:(List Int)) (r:m7) (hm:a3L b_ picks=some r):o8 Tryz.prog 22 [.agg (m7.c b_),lD 1 picks cI] (fun x=>x= .agg (m7.c r)):=by
 refine zy c7R [] [] [] Tryz.func22 rfl ?_;refine⟨([]:List c8).flatMap c8.c,([]:List c8).length,⟨rfl,rfl⟩, ?_⟩;obtain⟨hg,hm⟩:=j1 hm;refine⟨hg,_,_,y0 (c:=c8.c) (l:=(([]:List c8):List c8)) (r:=(b_.Thread:List c8)), ?_⟩;obtain⟨ev66,he,hk67⟩:=e9 hm;refine c8A (P5 b_ picks) (fun(i18,v19,v20,v21,v22,v23,v24)=>⟨[(1,lD 1 picks cI),(2, .own 0 0),(4, .own 1 0),(5, .own 3 0),(6,DI i18)], [(0, .blk [lD 5 b_.Thread c8.c,lD 5 b_.Loose c8.c] 24),(1, .blk [nS,nS] 24),(2,rE 5 (([]:List c8)++b_.Thread) c8.c 53),(3, .blk [.row 2 5, .row 9 5] 24),(4,rE 5 v19 c8.c 53),(5,rE 5 v20 c8.c 53),(6,rE 5 v21 c8.c 53),(7,rE 5 v22 c8.c 53),(8,rE 5 v23 c8.c 53),(9,rE 5 v24 c8.c 53)],10⟩) (0, [], [], [], [], [], []) (sb 4) he ?_;rintro fu68 ⟨i18,v19,v20,v21,v22,v23,v24⟩ b hm hi69;apply vb hm<;>intro _ hm;refine ei hm fun e71 hm=> ?_
 refine cy hm (b0k picks (W (2*i18))) fun x73 hm=> ?_
 refine cy hm (b2K x73 4) fun x75 hm=> ?_
 apply vb hm<;>intro _ hm;cases hm;exact⟨(_,((W (i18+1)),v19,v20,v21,v22,v23,v24)),sb 10,hi69,y6 _⟩;apply vb hm<;>intro _ hm;apply vb hm<;>intro _ hm;refine⟨rfl, ?_⟩;refine cy hm (b0k picks (W ((W (2*i18))+1))) fun x80 hm=> ?_
 refine cy hm (b2K x80 ((e71.Text.size:Int))) fun x82 hm=> ?_
 obtain⟨hg,hm⟩:=j1 hm;refine⟨hg, ?_⟩;apply vb hm<;>intro _ hm;refine⟨([(⟨e71.No,e71.Part,e71.Parts,e71.Size,(e71.Text.extract 0 ((x82).toNat))⟩:c8)]:List c8).flatMap c8.c,([(⟨e71.No,e71.Part,e71.Parts,e71.Size,(e71.Text.extract 0 ((x82).toNat))⟩:c8)]:List c8).length,⟨rfl,rfl⟩, ?_⟩;obtain⟨hg,hm⟩:=j1 hm;refine⟨hg,_,_,y0 (c:=c8.c) (l:=(([(⟨e71.No,e71.Part,e71.Parts,e71.Size,(e71.Text.extract 0 ((x82).toNat))⟩:c8)]:List c8):List c8)) (r:=(v24:List c8)), ?_⟩;cases hm;exact⟨(_,((W (i18+1)),v19,v20,v21,v22,v23,(([(⟨e71.No,e71.Part,e71.Parts,e71.Size,(e71.Text.extract 0 ((x82).toNat))⟩:c8)]:List c8)++v24))),E1.rn 9 11 12 [] rfl rfl 12 rfl (tA rfl) ⟨hR rfl,hR rfl,hW rfl,hR rfl,hW rfl,hW rfl,hW rfl,hW rfl,hW rfl,hW rfl,trivial⟩ 10 rfl (tA rfl) ⟨hR rfl,hR rfl,hW rfl,hR rfl,hW rfl,hW rfl,hW rfl,hW rfl,hW rfl,hW rfl,trivial⟩,hi69,y6 _⟩;refine⟨([(⟨e71.No,e71.Part,e71.Parts,e71.Size,(e71.Text.extract 0 ((x82).toNat))⟩:c8)]:List c8).flatMap c8.c,([(⟨e71.No,e71.Part,e71.Parts,e71.Size,(e71.Text.extract 0 ((x82).toNat))⟩:c8)]:List c8).length,⟨rfl,rfl⟩, ?_⟩;obtain⟨hg,hm⟩:=j1 hm;refine⟨hg,_,_,y0 (c:=c8.c) (l:=(v24:List c8)) (r:=(([(⟨e71.No,e71.Part,e71.Parts,e71.Size,(e71.Text.extract 0 ((x82).toNat))⟩:c8)]:List c8):List c8)), ?_⟩;cases hm;exact⟨(_,((W (i18+1)),v19,v20,v21,v22,v23,(v24++([(⟨e71.No,e71.Part,e71.Parts,e71.Size,(e71.Text.extract 0 ((x82).toNat))⟩:c8)]:List c8)))),sb 10,hi69,y6 _⟩;apply vb hm<;>intro _ hm;refine⟨([e71]:List c8).flatMap c8.c,([e71]:List c8).length,⟨rfl,rfl⟩, ?_⟩;obtain⟨hg,hm⟩:=j1 hm;refine⟨hg,_,_,y0 (c:=c8.c) (l:=(([e71]:List c8):List c8)) (r:=(v24:List c8)), ?_⟩;cases hm;exact⟨(_,((W (i18+1)),v19,v20,v21,v22,v23,(([e71]:List c8)++v24))),E1.rn 9 11 12 [] rfl rfl 12 rfl (tA rfl) ⟨hR rfl,hR rfl,hW rfl,hR rfl,hW rfl,hW rfl,hW rfl,hW rfl,hW rfl,hW rfl,trivial⟩ 10 rfl (tA rfl) ⟨hR rfl,hR rfl,hW rfl,hR rfl,hW rfl,hW rfl,hW rfl,hW rfl,hW rfl,hW rfl,trivial⟩,hi69,y6 _⟩;refine⟨([e71]:List c8).flatMap c8.c,([e71]:List c8).length,⟨rfl,rfl⟩, ?_⟩;obtain⟨hg,hm⟩:=j1 hm;refine⟨hg,_,_,y0 (c:=c8.c) (l:=(v24:List c8)) (r:=(([e71]:List c8):List c8)), ?_⟩;cases hm;exact⟨(_,((W (i18+1)),v19,v20,v21,v22,v23,(v24++([e71]:List c8)))),sb 10,hi69,y6 _⟩;apply vb hm<;>intro _ hm;refine⟨([e71]:List c8).flatMap c8.c,([e71]:List c8).length,⟨rfl,rfl⟩, ?_⟩;obtain⟨hg,hm⟩:=j1 hm;refine⟨hg,_,_,y0 (c:=c8.c) (l:=(([e71]:List c8):List c8)) (r:=(v24:List c8)), ?_⟩;cases hm;exact⟨(_,((W (i18+1)),v19,v20,v21,v22,v23,(([e71]:List c8)++v24))),E1.rn 9 11 12 [] rfl rfl 12 rfl (tA rfl) ⟨hR rfl,hR rfl,hW rfl,hR rfl,hW rfl,hW rfl,hW rfl,hW rfl,hW rfl,hW rfl,trivial⟩ 10 rfl (tA rfl) ⟨hR rfl,hR rfl,hW rfl,hR rfl,hW rfl,hW rfl,hW rfl,hW rfl,hW rfl,hW rfl,trivial⟩,hi69,y6 _⟩;refine⟨([e71]:List c8).flatMap c8.c,([e71]:List c8).length,⟨rfl,rfl⟩, ?_⟩;obtain⟨hg,hm⟩:=j1 hm;refine⟨hg,_,_,y0 (c:=c8.c) (l:=(v24:List c8)) (r:=(([e71]:List c8):List c8)), ?_⟩;cases hm;exact⟨(_,((W (i18+1)),v19,v20,v21,v22,v23,(v24++([e71]:List c8)))),sb 10,hi69,y6 _⟩;cases hm;cases hi69;have hm:=hk67;cases hm;exact c8z (c8x _)
def a0F (b_:m7) (picks:(List Int)):Option Bool:=
 Option.bind (a3T) fun x1=>
 Option.bind (A4 b_) fun⟨x3,x4⟩=>
 Option.bind (a3P b_) fun⟨x6,x7⟩=>
 Option.bind (P6 x3 x6) fun x9=>
 Option.bind (P9 x4 x7) fun x11=>
 Option.bind (O1 b_) fun x13=>
 Option.bind (a3Z b_) fun x15=>
 Option.bind (P6 x13 x15) fun x17=>
 Option.bind (A3 b_ picks) fun x19=>
 Option.bind (a3L b_ picks) fun x21=>
 Option.bind (P6 x19 x21) fun x23=>
 if x1=true then
  if x9=true then
   if x11=true then
    if x17=true then
     some x23
    else
     some false
   else
    some false
  else
   some false
 else
  some false
theorem a8s (b_:m7) (picks:(List Int)) (r:Bool) (hm:a0F b_ picks=some r):o8 Tryz.prog 3 [.agg (m7.c b_),lD 1 picks cI] (fun x=>x=DB r):=by
 refine zy pl3 [] [] [] Tryz.func3 rfl ?_;refine cy hm (b8w) fun x1 hm=> ?_
 refine cy hm (S6 b_) ?_;rintro⟨x3,x4⟩ hm;refine cy hm (b8s b_) ?_;rintro⟨x6,x7⟩ hm;refine cy hm (a2M x3 x6) fun x9 hm=> ?_
 refine cy hm (a7G x4 x7) fun x11 hm=> ?_
 refine⟨rfl, ?_⟩;refine cy hm (a7s b_) fun x13 hm=> ?_
 refine cy hm (b7d b_) fun x15 hm=> ?_
 refine cy hm (a2M x13 x15) fun x17 hm=> ?_
 refine⟨rfl, ?_⟩;refine cy hm (S4 b_ picks) fun x19 hm=> ?_
 refine cy hm (b8o b_ picks) fun x21 hm=> ?_
 refine cy hm (a2M x19 x21) fun x23 hm=> ?_
 apply vb hm<;>intro _ hm;apply vb hm<;>intro _ hm;apply vb hm<;>intro _ hm;apply vb hm<;>intro _ hm;exact hm.rr;exact hm.rr;exact hm.rr;exact hm.rr;exact hm.rr
end Go.Proofs.YtggdlgclohnbaaaGreatDoor
