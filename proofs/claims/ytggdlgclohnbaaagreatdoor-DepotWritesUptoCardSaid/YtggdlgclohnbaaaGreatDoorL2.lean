/- Functions of the program as pure Lean functions, and that calls do what these say. Printed by a program out of the given form. -/
import Derived.Test.YtggdlgclohnbaaaGreatDoorI1
set_option linter.unusedVariables false
set_option linter.unusedSimpArgs false
namespace Go.Proofs.YtggdlgclohnbaaaGreatDoor
open Go Go.RowKit Go.Sx
set_option maxRecDepth 100000
set_option maxHeartbeats 20000000
def j5 (slices:(List (List c8))):(Int×Int)→Option (Sum (Int×Int) (Int×Int)):=fun(size5,v6)=>
 if(decide (v6<(slices.length:Int)))=true then
  Option.bind (idx slices v6) fun e12=>
  if(decide ((W (size5+(e12.length:Int)))<0))=true then
   none
  else
   some (.inl ((W (size5+(e12.length:Int))),(W (v6+1))))
 else
  some (.inr (size5,v6))
def j4 (slices:(List (List c8))):(Int×(List c8))→Option (Sum (Int×(List c8)) (Int×(List c8))):=fun(v22,v23)=>
 if(decide (v22<(slices.length:Int)))=true then
  Option.bind (idx slices v22) fun e28=>
  gd ((v23.length+e28.length)*48≤140737488355328∧v23.length+e28.length≤9223372036854775807)<|
  some (.inl ((W (v22+1)),(v23++e28)))
 else
  some (.inr (v22,v23))
def D4 (slices:(List (List c8))):Option (List c8):=
 Option.bind (w6 (j5 slices) (0,0)) fun(size15,v16)=>
 gd (0≤size15∧size15*48≤140737488355328)<|
 Option.bind (w6 (j4 slices) (0,([]:List c8))) fun(v30,v31)=>
 some v31
theorem Z0 (slices:(List (List c8))) (r:(List c8)) (hm:D4 slices=some r):q8 Tryz.prog 131 [lD 1 slices cf2] (fun x=>x=lD 5 r c8.c):=by
 refine zy [] [80,112,155,175] [159] [] Tryz.func131 rfl ?_;obtain⟨ev39,he,hk40⟩:=j0 hm;refine c9o (j5 slices) (fun(size5,v6)=>⟨[(0,lD 1 slices cf2),(3,DI size5),(9,lD 1 slices cf2),(10,DI (slices.length:Int)),(11,DI v6)], [],0⟩) (0,0) (sb 0) he ?_;rintro fu41 ⟨size5,v6⟩ b hm hi42;apply vb hm<;>intro _ hm;refine ei hm fun e44 hm=> ?_
 apply vb hm<;>intro _ hm;cases hm;cases hm;exact⟨(_,((W (size5+(e44.length:Int))),(W (v6+1)))),sb 0,hi42,D7 _⟩;cases hm;cases hi42;have hm:=hk40;obtain⟨hg,hm⟩:=j2 hm;refine .inl (a5s.mk ⟨_,_,_,_,a0u size5 hg, ?_⟩);obtain⟨ev62,he,hk63⟩:=j0 hm;refine c9o (j4 slices) (fun(v52,v53)=>⟨[(6, .row 0 5),(25,lD 1 slices cf2),(26,DI (slices.length:Int)),(27,DI v52)], [(0,rE 5 v53 c8.c 53)],1⟩) (0,([]:List c8)) (sb 1) he ?_;rintro fu64 ⟨v52,v53⟩ b hm hi65;apply vb hm<;>intro _ hm;refine ei hm fun e67 hm=> ?_
 obtain⟨hg,hm⟩:=j2 hm;refine⟨hg,_,_,o8 (c:=c8.c) (l:=(v53:List c8)) (r:=(e67:List c8)), ?_⟩;cases hm;exact⟨(_,((W (v52+1)),(v53++e67))),sb 1,hi65,D7 _⟩;cases hm;cases hi65;have hm:=hk63;cases hm;exact c9n (c9l _)
def X4 (b_:l7):Option (List c8):=
 Option.bind (D4 ([b_.Thread,b_.Loose]:List (List c8))) fun x1=>
 some x1
theorem a5n (b_:l7) (r:(List c8)) (hm:X4 b_=some r):q8 Tryz.prog 77 [.agg (l7.c b_)] (fun x=>x=lD 5 r c8.c):=by
 refine zn Tryz.func77 rfl ?_;refine⟨([b_.Thread,b_.Loose]:List (List c8)).flatMap cf2,([b_.Thread,b_.Loose]:List (List c8)).length,⟨rfl,rfl⟩, ?_⟩;refine co hm (Z0 (([b_.Thread,b_.Loose]:List (List c8)))) fun x1 hm=> ?_
 cases hm;exact c9n (c9l _)
def V8 (c:c8):Option Bool:=
 Option.bind (z6 c.No 0 59) fun x1=>
 if x1=true then
  Option.bind (z6 c.Parts 1 10) fun x4=>
  if x4=true then
   Option.bind (z6 c.Part 0 (W (c.Parts-1))) fun x7=>
   if x7=true then
    Option.bind (z6 c.Size 1 24) fun x10=>
    if x10=true then
     some ((c.Text.size:Int)==c.Size)
    else
     some false
   else
    some false
  else
   some false
 else
  some false
theorem a9N (c:c8) (r:Bool) (hm:V8 c=some r):q8 Tryz.prog 100 [.agg (c8.c c)] (fun x=>x=DB r):=by
 refine zn Tryz.func100 rfl ?_;refine cy hm (D8 c.No 0 59) fun x1 hm=> ?_
 apply vb hm<;>intro _ hm;refine cy hm (D8 c.Parts 1 10) fun x4 hm=> ?_
 apply vb hm<;>intro _ hm;refine cy hm (D8 c.Part 0 (W (c.Parts-1))) fun x7 hm=> ?_
 apply vb hm<;>intro _ hm;refine cy hm (D8 c.Size 1 24) fun x10 hm=> ?_
 apply vb hm<;>intro _ hm;exact hm.rr;exact hm.rr;exact hm.rr;exact hm.rr;exact hm.rr
def a2Y (b_:l7):Option l7:=
 some b_
theorem b2I (b_:l7) (r:l7) (hm:a2Y b_=some r):q8 Tryz.prog 69 [.agg (l7.c b_)] (fun x=>x= .fn 128 [] [.ptr [lD 5 r.Thread c8.c,lD 5 r.Loose c8.c] 0]):=by
 refine zn Tryz.func69 rfl ?_;cases hm;exact c9n (c9l _)
def G6 (s:ByteArray):Option ByteArray:=gd (s.size≤281474976710656) (some s)
theorem a1A (s:ByteArray) (r:ByteArray) (hm:G6 s=some r):q8 Tryz.prog 134 [.v (.string s)] (fun x=>x= .v (.string r)):=by
 obtain⟨hg,hm⟩:=j2 hm;cases hm;exact b7j b8O s hg
def N1 (l:(List b9)):(Int×Int×Int×Int×Int×Int×Int)→Option (Sum (Int×Int×Int×Int×Int×Int×Int) (Int×Int×Int×Int×Int×Int×Int)):=fun(v15,v16,v17,v18,v19,v20,v21)=>
 if(decide (v15<(l.length:Int)))=true then
  Option.bind (idx l v15) fun e37=>
  gd (0≤e37.At.Depot∧e37.At.Depot<6)<|
  Option.bind (idx [v16,v17,v18,v19,v20,v21] e37.At.Depot) fun e39=>
  gd (0≤e37.At.Depot∧e37.At.Depot<6)<|
  Option.bind (idx [v16,v17,v18,v19,v20,v21] e37.At.Depot) fun e41=>
  Option.bind (some (W (e39+1))) fun y43=>
  Option.bind (some (if(e37.At.Depot==0)=true then y43 else v16)) fun q44=>
  Option.bind (some (if(e37.At.Depot==1)=true then y43 else v17)) fun q45=>
  Option.bind (some (if(e37.At.Depot==2)=true then y43 else v18)) fun q46=>
  Option.bind (some (if(e37.At.Depot==3)=true then y43 else v19)) fun q47=>
  Option.bind (some (if(e37.At.Depot==4)=true then y43 else v20)) fun q48=>
  Option.bind (some (if(e37.At.Depot==5)=true then y43 else v21)) fun q49=>
  some (.inl ((W (v15+1)),q44,q45,q46,q47,q48,q49))
 else
  some (.inr (v15,v16,v17,v18,v19,v20,v21))
def a1c (l:(List b9)):Option (Int×Int×Int×Int×Int×Int):=
 Option.bind (w6 (N1 l) (0,0,0,0,0,0,0)) fun(v50,v51,v52,v53,v54,v55,v56)=>
 some (v51,v52,v53,v54,v55,v56)
theorem a9y (l:(List b9)) (r:(Int×Int×Int×Int×Int×Int)) (hm:a1c l=some r):q8 Tryz.prog 109 [lD 8 l b9.c] (fun x=>x= .agg [DI r.1,DI r.2.1,DI r.2.2.1,DI r.2.2.2.1,DI r.2.2.2.2.1,DI r.2.2.2.2.2]):=by
 refine zn Tryz.func109 rfl ?_;obtain⟨ev57,he,hk58⟩:=j0 hm;refine c9o (N1 l) (fun(v15,v16,v17,v18,v19,v20,v21)=>⟨[(2, .own 0 0),(3, .own 1 0),(6,lD 8 l b9.c),(7,DI (l.length:Int)),(8,DI v15)], [(0, .blk [DI 0,DI 0,DI 0,DI 0,DI 0,DI 0] 78),(1, .blk [DI v16,DI v17,DI v18,DI v19,DI v20,DI v21] 78)],2⟩) (0,0,0,0,0,0,0) (sb 2) he ?_;rintro fu59 ⟨v15,v16,v17,v18,v19,v20,v21⟩ b hm hi60;apply vb hm<;>intro _ hm;refine ei hm fun _ hm=> ?_
 obtain⟨hg,hm⟩:=j2 hm;refine⟨hg, ?_⟩;obtain⟨e64,hx65,hm⟩:=j0 hm;refine⟨_,ldx (r:= [DI e64]) (c:=cI) (z:=1) (pre:= []) (post:= []) (b:=0) (off:=0) (fun _=>rfl) hx65 rfl rfl (by omega) rfl, ?_⟩;obtain⟨hg,hm⟩:=j2 hm;refine⟨hg, ?_⟩;obtain⟨e66,hx67,hm⟩:=j0 hm;obtain⟨y68,hy,hm⟩:=j0 hm;obtain⟨q69,hq0,hm⟩:=j0 hm;obtain⟨q70,hq1,hm⟩:=j0 hm;obtain⟨q71,hq2,hm⟩:=j0 hm;obtain⟨q72,hq3,hm⟩:=j0 hm;obtain⟨q73,hq4,hm⟩:=j0 hm;obtain⟨q74,hq5,hm⟩:=j0 hm;refine⟨[DI q69,DI q70,DI q71,DI q72,DI q73,DI q74],stx (y:=y68) (ys:= [q69,q70,q71,q72,q73,q74]) (c:=cI) (z:=1) (pre:= []) (post:= []) (b:=0) (off:=0) (fun _=>rfl) hx67 rfl rfl (by omega) (by cases hy;rfl) rfl (by cases hq0;cases hq1;cases hq2;cases hq3;cases hq4;cases hq5;exact b5R hx67), ?_⟩;clear hy hq0 hq1 hq2 hq3 hq4 hq5;cases hm;exact⟨(_,((W (v15+1)),q69,q70,q71,q72,q73,q74)),sb 2,hi60,D7 _⟩;cases hm;cases hi60;have hm:=hk58;cases hm;exact c9n (c9l _)
def Z4 (l:(List b9)) (r_:b9):Option Bool:=
 if(decide ((l.length:Int)<60))=true then
  Option.bind (a1c l) fun x2=>
  Option.bind (idx [x2.1,x2.2.1,x2.2.2.1,x2.2.2.2.1,x2.2.2.2.2.1,x2.2.2.2.2.2] r_.At.Depot) fun e4=>
  some (e4==r_.At.No)
 else
  some false
theorem a7r (l:(List b9)) (r_:b9) (r:Bool) (hm:Z4 l r_=some r):q8 Tryz.prog 71 [lD 8 l b9.c, .agg (b9.c r_)] (fun x=>x=DB r):=by
 refine zy c9e [] [] [] Tryz.func71 rfl ?_;refine⟨rfl, ?_⟩;apply vb hm<;>intro _ hm;refine cy hm (a9y l) fun x2 hm=> ?_
 obtain⟨e4,hx5,hm⟩:=j0 hm;refine⟨a5r hx5,_,ldx (c:=cI) (z:=1) (pre:= []) (post:= []) (b:=0) (off:=0) (fun _=>rfl) hx5 rfl rfl (by omega) rfl, ?_⟩;exact hm.rr;exact hm.rr
def L8 (s:(List Int)) (n:Int):Option ((List Int)×Int):=
 if(decide (n<1))=true then
  none
 else
  some (s,n)
theorem a2V (s:(List Int)) (n:Int) (r:((List Int)×Int)) (hm:L8 s n=some r):q8 Tryz.prog 144 [lD 1 s a6s,DI n] (fun x=>x= .fn 164 [] [.ptr [lD 1 r.1 a6s] 0, .ptr [DI r.2] 0]):=by
 refine zn Tryz.func144 rfl ?_;apply vb hm<;>intro _ hm;cases hm;cases hm;exact c9n (c9l _)
def w4 (x:(List Int)):List D:= [lD 1 x a6s]
def s9 (c_0:(List Int)) (c_1:Int):Int→Option (List (List Int)×Sum Int Int):=fun i5=>
 if(decide (i5<(c_0.length:Int)))=true then
  gd ((0≤i5∧i5≤(c_0.length:Int)))<|
  Option.bind (some (sub c_0 (i5).toNat c_0.length)) fun sl11=>
  gd ((0≤(W (i5+(if(sl11.length:Int)<c_1 then(sl11.length:Int)else c_1)))∧(W (i5+(if(sl11.length:Int)<c_1 then(sl11.length:Int)else c_1)))≤(c_0.length:Int))∧(0≤(W (i5+(if(sl11.length:Int)<c_1 then(sl11.length:Int)else c_1)))∧(W (i5+(if(sl11.length:Int)<c_1 then(sl11.length:Int)else c_1)))≤(W (i5+(if(sl11.length:Int)<c_1 then(sl11.length:Int)else c_1))))∧(0≤i5∧i5≤(W (i5+(if(sl11.length:Int)<c_1 then(sl11.length:Int)else c_1)))))<|
  Option.bind (some (sub c_0 (i5).toNat ((W (i5+(if(sl11.length:Int)<c_1 then(sl11.length:Int)else c_1)))).toNat)) fun sl12=>
  emit sl12<|
  some ([], .inl (W (i5+c_1)))
 else
  some ([], .inr i5)
def D2 (c_0:(List Int)) (c_1:Int):Option (List (List Int)×Unit):=
 b2U (b1b (s9 c_0 c_1) 0) fun i14=>
 some ([],())
theorem a2c (c_0:(List Int)) (c_1:Int) (xs:List (List Int)) (hm:D2 c_0 c_1=some (xs,())):a5w Tryz.prog 164 [.ptr [lD 1 c_0 a6s] 0, .ptr [DI c_1] 0] (xs.map w4):=by
 refine b6l (X:=⟨Tryz.prog,tt,Tryz.f164.ntmps,c8p, [], [], [], [], []⟩) pok _ _ [] Tryz.func164 rfl rfl (F7 rfl) rfl ?_;intro l;obtain⟨r,hr⟩:∃r:List (List Int)×Unit,r=(xs,()):=⟨_,rfl⟩;rw [←hr]at hm;have hp:Hp3 w4 [] r.1 [] (xs.map w4):=⟨by rw [hr];simp⟩;clear hr;obtain⟨ev15,rr19,he,hk16,hb1,hb2⟩:=b2i hm;replace hp:=hp.in1 hb1;clear hb1 hb2;refine a8T.of (fun(lpx:Nat×Int)=>match lpx with|(fu17,i5)=>(⟨[(0, .v (.func (.yield l) #[] #[])),(1, .ptr [lD 1 c_0 a6s] 0),(2, .ptr [DI c_1] 0),(4,DI i5)], [],0⟩:Sy)) (fun lpx q=>∃e,a2T (s9 c_0 c_1) lpx.1 lpx.2=some e∧Hp3 w4 q e.1 _ _∧e.2=ev15.2) (fun lpx=>lpx.1) (a1K,0) ⟨_,he,hp,rfl⟩ (sb 0) ?_
 clear hp he;rintro⟨fu17,i5⟩ q ⟨el21,hi18,hp,hx22⟩;obtain⟨fu17,b,tl,rfl,hm,hb1,hi18⟩:=b1g hi18;replace hp:=hp.in1 hb1;clear hb1;have hq:b.2=b.2:=rfl;apply vb hm<;>intro _ hm;refine⟨rfl, ?_⟩;obtain⟨hg,hm⟩:=j2 hm;obtain⟨sl25,hy,hm⟩:=j0 hm;refine⟨hg,_,(V1 (c:=a6s) (z:=1) (fun _=>rfl) _ _ _).trans (l8 _ (D6 hy)), ?_⟩;have hl:sl25.length=c_0.length-(i5).toNat:=by rw [←D6 hy];exact a0P (by omega)
 rw [←hl];obtain⟨hg,hm⟩:=j2 hm;obtain⟨sl26,hy,hm⟩:=j0 hm;refine⟨hg.1,hg.2.1,hg.2.2,_,(V1 (c:=a6s) (z:=1) (fun _=>rfl) _ _ _).trans (l8 _ (D6 hy)), ?_⟩;have hl:sl26.length=((W (i5+(if(sl25.length:Int)<c_1 then(sl25.length:Int)else c_1)))).toNat-(i5).toNat:=by rw [←D6 hy];exact a0P (by omega)
 rw [←hl];obtain⟨rb27,hm,hb1,hb2⟩:=b2Q hm;refine a2X.of (x':=w4 sl26) rfl rfl (c9n (c9l _)) (hp.pre hb1) ?_ ?_;replace hp:=hp.emit hb1;replace hq:=hq.trans hb2;cases hm;rw [hq]at hi18;obtain⟨e2,hm,rfl,ht⟩:=hi18;exact⟨(fu17,(W (i5+c_1))),_,sb 0,rfl,⟨_,hm,hp.out rfl,ht.symm.trans hx22⟩,D7 _⟩;exact .inl rfl;cases hm;rw [hq]at hi18;obtain⟨rfl,ht⟩:=hi18;replace hp:=(hp.out (l':= []) rfl).out rfl;have hm:=hk16
 try rw [←hx22,ht]at hm
 clear hq;cases hm;exact .inr (l8 some (hp.done rfl))
def U3 (no:Int):(List c8)→(List Int)→Option (Sum (List c8) Unit):=fun v8 y7=>
 gd ((v8.length+([(⟨no,(v8.length:Int),0,(y7.length:Int),(a1x y7)⟩:c8)]:List c8).length)*48≤140737488355328∧v8.length+([(⟨no,(v8.length:Int),0,(y7.length:Int),(a1x y7)⟩:c8)]:List c8).length≤9223372036854775807)<|
 some (.inl (v8++([(⟨no,(v8.length:Int),0,(y7.length:Int),(a1x y7)⟩:c8)]:List c8)))
def I0 (v10:(List c8)):(Int×(List c8))→Option (Sum (Int×(List c8)) (Int×(List c8))):=fun(v16,v17)=>
 if(decide (v16<(v10.length:Int)))=true then
  Option.bind (idx v17 v16) fun e24=>
  Option.bind (idx v17 v16) fun e26=>
  some (.inl ((W (v16+1)),(v17.set v16.toNat (⟨e26.No,e26.Part,(v17.length:Int),e26.Size,e26.Text⟩:c8))))
 else
  some (.inr (v16,v17))
def Q1 (r_:b9) (no:Int):Option (List c8):=
 Option.bind (F1 r_) fun x1=>
 gd (x1.size≤9223372036854775807)<|
 Option.bind (some (D5 x1)) fun by3=>
 Option.bind (L8 by3 24) fun⟨x4,x5⟩=>
 Option.bind (D2 x4 x5) fun l9=>
 Option.bind (J5 (U3 no) l9.1 []) fun e=>
 match e with
 | .inl v10=>
  Option.bind (w6 (I0 v10) (0,v10)) fun(v28,v29)=>
  some v29
 | .inr _=>none
theorem a3d (r_:b9) (no:Int) (r:(List c8)) (hm:Q1 r_ no=some r):q8 Tryz.prog 96 [.agg (b9.c r_),DI no] (fun x=>x=lD 5 r c8.c):=by
 refine b9t (X:=⟨Tryz.prog,tt,Tryz.f96.ntmps, [], [], [], [], [], []⟩) pok _ Tryz.func96 rfl rfl (F7 rfl) ?_;intro ds;intro ds;intro ds;refine cy hm (a5m r_) fun x1 hm=> ?_
 obtain⟨hg,hm⟩:=j2 hm;obtain⟨by3,hy,hm⟩:=j0 hm;refine⟨⟨5, .string,by kernel_rfl,by kernel_rfl,by kernel_rfl⟩,hg,_,_,b0L (fun _=>rfl) hy, ?_⟩;clear hy;refine cy hm (a2V by3 24) ?_;rintro⟨x4,x5⟩ hm;obtain⟨l9,hl40,hm⟩:=j0 hm;obtain⟨ev39,he,hm⟩:=j0 hm;refine a3f.ofZ (E:=Unit) w4 l9.1 (U3 no) (fun(lpx:(List c8))=>match lpx with|v8=>(⟨[(0, .agg (b9.c r_)),(1,DI no),(2, .own 0 0),(3, .own 1 0),(4,nS),(5, .own 2 0)], [(0, .blk (b9.c r_) 38),(1, .blk [DI no] 3),(2, .blk [.row 3 5] 22),(3,rE 5 v8 c8.c 53)],4⟩:Sy)) (fun(_:Unit)=>(⟨[], [],0⟩:Sy)) (fun _=> .ret) [] ev39 [0,1,2,3,4,5] (a2c x4 x5 l9.1 hl40) he (b6J pok Tryz.func164 rfl) rfl rfl (fun _=>rfl) rfl rfl rfl (by rintro v8;rfl) (by intro _;rfl) (sb 3) ?_ ?_ (fun _=> .inl rfl) ?_
 rintro v10 rfl;intro ds;intro ds;obtain⟨ev30,he,hk31⟩:=j0 hm;refine c9o (I0 v10) (fun(v16,v17)=>⟨[(5, .own 2 0),(25,DI (v10.length:Int)),(26,DI v16)], [(2, .blk [.row 3 5] 22),(3,rE 5 v17 c8.c 53)],4⟩) (0,v10) (sb 4) he ?_;rintro fu32 ⟨v16,v17⟩ b hm hi33;apply vb hm<;>intro _ hm;refine eb hm fun _ hm=> ?_
 obtain⟨e37,hx38,hm⟩:=j0 hm;refine⟨_,c2q (fun _=>rfl) hx38,_,c4S (y:=(⟨e37.No,e37.Part,(v17.length:Int),e37.Size,e37.Text⟩:c8)) (fun _=>rfl) hx38, ?_⟩;cases hm;exact⟨(_,((W (v16+1)),(v17.set v16.toNat (⟨e37.No,e37.Part,(v17.length:Int),e37.Size,e37.Text⟩:c8)))),sb 4,hi33,D7 _⟩;cases hm;cases hi33;have hm:=hk31;intro ds;intro ds;cases hm;exact c9n (c9l _);rintro _ rfl;cases hm;clear he hm;rintro v8 y7 b hm;refine⟨⟨rfl,5,by kernel_rfl,by kernel_rfl,by kernel_rfl⟩,y7,b5r (fun _=>rfl) _, ?_⟩;refine⟨([(⟨no,(v8.length:Int),0,(y7.length:Int),(a1x y7)⟩:c8)]:List c8).flatMap c8.c,([(⟨no,(v8.length:Int),0,(y7.length:Int),(a1x y7)⟩:c8)]:List c8).length,⟨rfl,rfl⟩, ?_⟩;obtain⟨hg,hm⟩:=j2 hm;refine⟨hg,_,_,o8 (c:=c8.c) (l:=(v8:List c8)) (r:=(([(⟨no,(v8.length:Int),0,(y7.length:Int),(a1x y7)⟩:c8)]:List c8):List c8)), ?_⟩;cases hm;exact⟨(v8++([(⟨no,(v8.length:Int),0,(y7.length:Int),(a1x y7)⟩:c8)]:List c8)),rfl,sb 4⟩
def P9 (l:(List b9)):((List c8)×Int)→Option (Sum ((List c8)×Int) ((List c8)×Int)):=fun(out6,v7)=>
 if(decide (v7<(l.length:Int)))=true then
  Option.bind (idx l v7) fun e14=>
  Option.bind (Q1 e14 v7) fun x16=>
  gd ((out6.length+x16.length)*48≤140737488355328∧out6.length+x16.length≤9223372036854775807)<|
  some (.inl ((out6++x16),(W (v7+1))))
 else
  some (.inr (out6,v7))
def a2i (l:(List b9)):Option (List c8):=
 Option.bind (w6 (P9 l) ([],0)) fun(out18,v19)=>
 some out18
theorem a3N (l:(List b9)) (r:(List c8)) (hm:a2i l=some r):q8 Tryz.prog 72 [lD 8 l b9.c] (fun x=>x=lD 5 r c8.c):=by
 refine zn Tryz.func72 rfl ?_;obtain⟨ev20,he,hk21⟩:=j0 hm;refine c9o (P9 l) (fun(out6,v7)=>⟨[(3, .row 0 5),(6,lD 8 l b9.c),(7,DI (l.length:Int)),(8,DI v7)], [(0,rE 5 out6 c8.c 53)],1⟩) ([],0) (sb 0) he ?_;rintro fu22 ⟨out6,v7⟩ b hm hi23;apply vb hm<;>intro _ hm;refine ei hm fun e25 hm=> ?_
 refine cy hm (a3d e25 v7) fun x27 hm=> ?_
 obtain⟨hg,hm⟩:=j2 hm;refine⟨hg,_,_,o8 (c:=c8.c) (l:=(out6:List c8)) (r:=(x27:List c8)), ?_⟩;cases hm;exact⟨(_,((out6++x27),(W (v7+1)))),sb 1,hi23,D7 _⟩;cases hm;cases hi23;have hm:=hk21;cases hm;exact c9n (c9l _)
abbrev a6I:MTy:=⟨114,119,9, [.int .i64, .int .i64, .int .i64],true, .string (⟨#[]⟩:ByteArray)⟩
theorem a4f:a7R Tryz.prog tt a6I:=⟨by kernel_rfl,rfl,by kernel_rfl,by kernel_rfl,rfl⟩
abbrev S8 (k:A1):List Value:= [.int .i64 k.no, .int .i64 k.part, .int .i64 k.parts]
abbrev a1L (x:ByteArray):Value:= .string x
theorem a0e (a b:A1):N9 (S8 a) (y5 (B9 true (S8 b)))=decide (a=b):=by
 cases a;cases b;simp [N9,eqV,y5,B9,and_assoc];rfl
abbrev a3O (l:List (A1×ByteArray)):E:= .mp (mpE true S8 a1L l) a6I
abbrev a6M:MTy:=⟨115,3,3, [.int .i64],false, .int .i64 0⟩
theorem R3:a7R Tryz.prog tt a6M:=⟨by kernel_rfl,rfl,by kernel_rfl,by kernel_rfl,rfl⟩
abbrev E6 (k:Int):List Value:= [.int .i64 k]
abbrev K7 (x:Int):Value:= .int .i64 x
theorem C7 (a b:Int):N9 (E6 a) (y5 (B9 false (E6 b)))=decide (a=b):=by
 simp [N9,eqV,y5,B9];rfl
abbrev a3H (l:List (Int×Int)):E:= .mp (mpE false E6 K7 l) a6M
def I1 (x:c8):List D:= [.agg (c8.c x)]
def E2 (x1:(List c8)):Int→Option (List c8×Sum Int Int):=fun v10=>
 if(decide (v10<(x1.length:Int)))=true then
  Option.bind (idx x1 v10) fun e19=>
  Option.bind (V8 e19) fun x21=>
  if x21=true then
   emit e19<|
   some ([], .inl (W (v10+1)))
  else
   some ([], .inl (W (v10+1)))
 else
  some ([], .inr v10)
def S9 (c_0:l7):Option (List c8×Unit):=
 Option.bind (X4 c_0) fun x1=>
 b2U (b1b (E2 x1) 0) fun v25=>
 some ([],())
theorem a9V (c_0:l7) (xs:List c8) (hm:S9 c_0=some (xs,())):a5w Tryz.prog 128 [.ptr [lD 5 c_0.Thread c8.c,lD 5 c_0.Loose c8.c] 0] (xs.map I1):=by
 refine b6l (X:=⟨Tryz.prog,tt,Tryz.f128.ntmps, [], [], [], [], [], []⟩) pok _ _ [] Tryz.func128 rfl rfl (F7 rfl) rfl ?_;intro l;obtain⟨r,hr⟩:∃r:List c8×Unit,r=(xs,()):=⟨_,rfl⟩;rw [←hr]at hm;have hp:Hp3 I1 [] r.1 [] (xs.map I1):=⟨by rw [hr];simp⟩;clear hr;refine cy hm (a5n c_0) fun x1 hm=> ?_
 obtain⟨ev26,rr30,he,hk27,hb1,hb2⟩:=b2i hm;replace hp:=hp.in1 hb1;clear hb1 hb2;refine a8T.of (fun(lpx:Nat×Int)=>match lpx with|(fu28,v10)=>(⟨[(0, .v (.func (.yield l) #[] #[])),(1, .ptr [lD 5 c_0.Thread c8.c,lD 5 c_0.Loose c8.c] 0),(6,lD 5 x1 c8.c),(7,DI (x1.length:Int)),(8,DI v10)], [],0⟩:Sy)) (fun lpx q=>∃e,a2T (E2 x1) lpx.1 lpx.2=some e∧Hp3 I1 q e.1 _ _∧e.2=ev26.2) (fun lpx=>lpx.1) (a1K,0) ⟨_,he,hp,rfl⟩ (sb 0) ?_
 clear hp he;rintro⟨fu28,v10⟩ q ⟨el32,hi29,hp,hx33⟩;obtain⟨fu28,b,tl,rfl,hm,hb1,hi29⟩:=b1g hi29;replace hp:=hp.in1 hb1;clear hb1;have hq:b.2=b.2:=rfl;apply vb hm<;>intro _ hm;refine ei hm fun e36 hm=> ?_
 refine cy hm (a9N e36) fun x38 hm=> ?_
 apply vb hm<;>intro _ hm;obtain⟨rb41,hm,hb1,hb2⟩:=b2Q hm;refine a2X.of (x':=I1 e36) rfl rfl (c9n (c9l _)) (hp.pre hb1) ?_ ?_;replace hp:=hp.emit hb1;replace hq:=hq.trans hb2;cases hm;rw [hq]at hi29;obtain⟨e2,hm,rfl,ht⟩:=hi29;exact⟨(fu28,(W (v10+1))),_,sb 0,rfl,⟨_,hm,hp.out rfl,ht.symm.trans hx33⟩,D7 _⟩;exact .inl rfl;cases hm;rw [hq]at hi29;obtain⟨e2,hm,rfl,ht⟩:=hi29;exact⟨(fu28,(W (v10+1))),_,sb 0,rfl,⟨_,hm,hp.out rfl,ht.symm.trans hx33⟩,D7 _⟩;cases hm;rw [hq]at hi29;obtain⟨rfl,ht⟩:=hi29;replace hp:=(hp.out (l':= []) rfl).out rfl;have hm:=hk27
 try rw [←hx33,ht]at hm
 clear hq;cases hm;exact .inr (l8 some (hp.done rfl))
def K6:((List (A1×ByteArray))×(List (Int×Int)))→c8→Option (Sum ((List (A1×ByteArray))×(List (Int×Int))) Unit):=fun(v9,v10) y3=>
 if(!((z8 v9 (⟨y3.No,y3.Part,y3.Parts⟩:A1)).isSome))=true then
  if(!((z8 v10 y3.No).isSome))=true then
   if(y3.Part==0)=true then
    some (.inl ((a4H v9 (⟨y3.No,y3.Part,y3.Parts⟩:A1) y3.Text),(a4H v10 y3.No y3.Parts)))
   else
    some (.inl ((a4H v9 (⟨y3.No,y3.Part,y3.Parts⟩:A1) y3.Text),v10))
  else
   some (.inl ((a4H v9 (⟨y3.No,y3.Part,y3.Parts⟩:A1) y3.Text),v10))
 else
  if(!((z8 v10 y3.No).isSome))=true then
   if(y3.Part==0)=true then
    some (.inl (v9,(a4H v10 y3.No y3.Parts)))
   else
    some (.inl (v9,v10))
  else
   some (.inl (v9,v10))
def B1 (v22:(List (A1×ByteArray))) (v23:(List (Int×Int))) (k45:Int):(ByteArray×Bool×Int)→Option (Sum (ByteArray×Bool×Int) (ByteArray×Bool×Int)):=fun(text68,fine69,v70)=>
 if(decide (v70<((z8 v23 k45).getD 0)))=true then
  gd (((text68.size+((z8 v22 (⟨k45,v70,((z8 v23 k45).getD 0)⟩:A1)).getD (⟨#[]⟩:ByteArray)).size:Nat):Int)≤9223372036854775807)<|
  if fine69=true then
   some (.inl ((text68++((z8 v22 (⟨k45,v70,((z8 v23 k45).getD 0)⟩:A1)).getD (⟨#[]⟩:ByteArray))),(z8 v22 (⟨k45,v70,((z8 v23 k45).getD 0)⟩:A1)).isSome,(W (v70+1))))
  else
   some (.inl ((text68++((z8 v22 (⟨k45,v70,((z8 v23 k45).getD 0)⟩:A1)).getD (⟨#[]⟩:ByteArray))),false,(W (v70+1))))
 else
  some (.inr (text68,fine69,v70))
def K5 (v22:(List (A1×ByteArray))) (v23:(List (Int×Int))):((List b9)×Int)→Option (Sum ((List b9)×Int) ((List b9)×Int)):=fun(out44,k45)=>
 Option.bind (w6 (B1 v22 v23 k45) ((⟨#[]⟩:ByteArray),(decide (((z8 v23 k45).getD 0)>0)),0)) fun(text75,fine76,v77)=>
 if(!fine76)=true then
  some (.inr (out44,k45))
 else
  Option.bind (F3 text75) fun⟨x79,x80⟩=>
  if(!x80)=true then
   some (.inr (out44,k45))
  else
   Option.bind (Z4 out44 x79) fun x83=>
   if(!x83)=true then
    some (.inr (out44,k45))
   else
    gd ((out44.length+([x79]:List b9).length)*72≤140737488355328∧out44.length+([x79]:List b9).length≤9223372036854775807)<|
    some (.inl ((out44++([x79]:List b9)),(W (k45+1))))
def B3 (b_:l7):Option (l7×(List b9)):=
 Option.bind (a2Y b_) fun x1=>
 Option.bind (S9 x1) fun l21=>
 Option.bind (J5 K6 l21.1 (([]:List (A1×ByteArray)),([]:List (Int×Int)))) fun e=>
 match e with
 | .inl (v22,v23)=>
  Option.bind (w6 (K5 v22 v23) ([],0)) fun(out100,k101)=>
  Option.bind (a2i out100) fun x102=>
  some ((⟨x102, []⟩:l7),out100)
 | .inr _=>none
theorem a0c (b_:l7) (r:(l7×(List b9))) (hm:B3 b_=some r):q8 Tryz.prog 15 [.agg (l7.c b_)] (fun x=>x= .tup [.agg (l7.c r.1),lD 8 r.2 b9.c]):=by
 refine b9t (X:=⟨Tryz.prog,tt,Tryz.f15.ntmps,c8w, [], [], [], [], []⟩) pok _ Tryz.func15 rfl rfl (F7 rfl) ?_;intro ds;intro ds;refine⟨a6I,⟨rfl,a4f⟩, ?_⟩;intro ds;refine⟨a6M,⟨rfl,R3⟩, ?_⟩;intro ds;refine cy hm (b2I b_) fun x1 hm=> ?_
 obtain⟨l21,hl155,hm⟩:=j0 hm;obtain⟨ev154,he,hm⟩:=j0 hm;refine a3f.ofZ (E:=Unit) I1 l21.1 K6 (fun(lpx:((List (A1×ByteArray))×(List (Int×Int))))=>match lpx with|(v9,v10)=>(⟨[(0, .agg [lD 5 b_.Thread c8.c,lD 5 b_.Loose c8.c]),(1, .own 0 0),(2, .own 1 0),(3,nS),(4, .own 3 0),(5, .own 5 0)], [(0, .blk [lD 5 b_.Thread c8.c,lD 5 b_.Loose c8.c] 24),(1, .blk [nS,nS] 24),(2,a3O v9),(3, .blk [.row 2 0] 114),(4,a3H v10),(5, .blk [.row 4 0] 115)],6⟩:Sy)) (fun(_:Unit)=>(⟨[], [],0⟩:Sy)) (fun _=> .ret) (([]:List (A1×ByteArray)),([]:List (Int×Int))) ev154 [0,1,2,3,4,5] (a9V x1 l21.1 hl155) he (b6J pok Tryz.func128 rfl) rfl rfl (fun _=>rfl) rfl rfl rfl (by rintro⟨v9,v10⟩;rfl) (by intro _;rfl) (F6.of 6 rfl (tA rfl) ⟨hR rfl,hR rfl,⟨_,rfl,rfl⟩,hR rfl,⟨_,rfl,rfl⟩,hR rfl,trivial⟩) ?_ ?_ (fun _=> .inl rfl) ?_
 rintro⟨v22,v23⟩ rfl;intro ds;intro ds;intro ds;obtain⟨ev104,he,hk105⟩:=j0 hm;refine c9o (K5 v22 v23) (fun(out44,k45)=>⟨[(2, .own 1 0),(4, .own 3 0),(5, .own 5 0),(12, .row 6 8),(13,DI k45)], [(1, .blk [nS,nS] 24),(2,a3O v22),(3, .blk [.row 2 0] 114),(4,a3H v23),(5, .blk [.row 4 0] 115),(6,rE 8 out44 b9.c 38)],7⟩) ([],0) (F6.of 6 rfl (tA rfl) ⟨hR rfl,⟨_,rfl,rfl⟩,hR rfl,⟨_,rfl,rfl⟩,hR rfl,⟨rfl,rfl⟩,trivial⟩) he ?_;rintro fu106 ⟨out44,k45⟩ b hm hi107;refine⟨rfl, ?_⟩;refine⟨⟨R3,rfl⟩,E6 k45,_,_,⟨rfl,⟨rfl,trivial⟩,a2f (ev:=K7) (z':=0) C7 rfl,a2j C7,rfl⟩, ?_⟩;refine⟨⟨R3,rfl⟩,E6 k45,_,_,⟨rfl,⟨rfl,trivial⟩,a2f (ev:=K7) (z':=0) C7 rfl,a2j C7,rfl⟩, ?_⟩;obtain⟨ev134,he,hk135⟩:=j0 hm;refine c9o (B1 v22 v23 k45) (fun(text110,fine111,v112)=>⟨[(2, .own 1 0),(4, .own 3 0),(5, .own 5 0),(12, .row 6 8),(13,DI k45),(14, .v (.string text110)),(15,DB fine111),(72,DI ((z8 v23 k45).getD 0)),(73,DI v112)], [(1, .blk [nS,nS] 24),(2,a3O v22),(3, .blk [.row 2 0] 114),(4,a3H v23),(5, .blk [.row 4 0] 115),(6,rE 8 out44 b9.c 38)],7⟩) ((⟨#[]⟩:ByteArray),(decide (((z8 v23 k45).getD 0)>0)),0) (F6.of 7 rfl (tA rfl) ⟨hR rfl,⟨_,rfl,rfl⟩,hR rfl,⟨_,rfl,rfl⟩,hR rfl,hW rfl,trivial⟩) he ?_;rintro fu136 ⟨text110,fine111,v112⟩ b hm hi137;apply vb hm<;>intro _ hm;refine⟨⟨R3,rfl⟩,E6 k45,_,_,⟨rfl,⟨rfl,trivial⟩,a2f (ev:=K7) (z':=0) C7 rfl,a2j C7,rfl⟩, ?_⟩;refine⟨⟨a4f,rfl⟩,S8 (⟨k45,v112,((z8 v23 k45).getD 0)⟩:A1),_,_,⟨rfl,⟨rfl,rfl,rfl,trivial⟩,a2f (ev:=a1L) (z':=(⟨#[]⟩:ByteArray)) a0e rfl,a2j a0e,rfl⟩, ?_⟩;obtain⟨hg,hm⟩:=j2 hm;refine⟨hg, ?_⟩;apply vb hm<;>intro _ hm;cases hm;exact⟨(_,((text110++((z8 v22 (⟨k45,v112,((z8 v23 k45).getD 0)⟩:A1)).getD (⟨#[]⟩:ByteArray))),(z8 v22 (⟨k45,v112,((z8 v23 k45).getD 0)⟩:A1)).isSome,(W (v112+1)))),F6.of 7 rfl (tA rfl) ⟨hR rfl,⟨_,rfl,rfl⟩,hR rfl,⟨_,rfl,rfl⟩,hR rfl,hW rfl,trivial⟩,hi137,D7 _⟩;cases hm;exact⟨(_,((text110++((z8 v22 (⟨k45,v112,((z8 v23 k45).getD 0)⟩:A1)).getD (⟨#[]⟩:ByteArray))),false,(W (v112+1)))),F6.of 7 rfl (tA rfl) ⟨hR rfl,⟨_,rfl,rfl⟩,hR rfl,⟨_,rfl,rfl⟩,hR rfl,hW rfl,trivial⟩,hi137,D7 _⟩;cases hm;cases hi137;have hm:=hk135;apply vb hm<;>intro _ hm;cases hm;cases hi107;have hm:=hk105;intro ds;refine co hm (a3N out44) fun x141 hm=> ?_
 intro ds;cases hm;exact c9n (le1);refine cy hm (b1F text110) ?_;rintro⟨x143,x144⟩ hm;apply vb hm<;>intro _ hm;cases hm;cases hi107;have hm:=hk105;intro ds;refine co hm (a3N out44) fun x147 hm=> ?_
 intro ds;cases hm;exact c9n (le1);refine co hm (a7r out44 x143) fun x149 hm=> ?_
 apply vb hm<;>intro _ hm;cases hm;cases hi107;have hm:=hk105;intro ds;refine co hm (a3N out44) fun x152 hm=> ?_
 intro ds;cases hm;exact c9n (le1);refine⟨([x143]:List b9).flatMap b9.c,([x143]:List b9).length,⟨rfl,rfl⟩, ?_⟩;obtain⟨hg,hm⟩:=j2 hm;refine⟨hg,_,_,o8 (c:=b9.c) (l:=(out44:List b9)) (r:=(([x143]:List b9):List b9)), ?_⟩;cases hm;exact⟨(_,((out44++([x143]:List b9)),(W (k45+1)))),F6.of 7 rfl (tA rfl) ⟨hR rfl,⟨_,rfl,rfl⟩,hR rfl,⟨_,rfl,rfl⟩,hR rfl,hW rfl,trivial⟩,hi107,D7 _⟩;rintro _ rfl;cases hm;clear he hm;rintro⟨v9,v10⟩ y3 b hm;refine⟨⟨a4f,rfl⟩,S8 (⟨y3.No,y3.Part,y3.Parts⟩:A1),_,_,⟨rfl,⟨rfl,rfl,rfl,trivial⟩,a2f (ev:=a1L) (z':=(⟨#[]⟩:ByteArray)) a0e rfl,a2j a0e,rfl⟩, ?_⟩;apply vb hm<;>intro _ hm;refine⟨⟨a4f,rfl,rfl⟩,S8 (⟨y3.No,y3.Part,y3.Parts⟩:A1),_,⟨rfl,⟨rfl,rfl,rfl,trivial⟩,b5a (ev:=a1L) (v:=y3.Text) a0e⟩, ?_⟩;refine⟨⟨R3,rfl⟩,E6 y3.No,_,_,⟨rfl,⟨rfl,trivial⟩,a2f (ev:=K7) (z':=0) C7 rfl,a2j C7,rfl⟩, ?_⟩;apply vb hm<;>intro _ hm;apply vb hm<;>intro _ hm;refine⟨⟨R3,rfl,rfl⟩,E6 y3.No,_,⟨rfl,⟨rfl,trivial⟩,b5a (ev:=K7) (v:=y3.Parts) C7⟩, ?_⟩;cases hm;exact⟨((a4H v9 (⟨y3.No,y3.Part,y3.Parts⟩:A1) y3.Text),(a4H v10 y3.No y3.Parts)),rfl,F6.of 6 rfl (tA rfl) ⟨hR rfl,hR rfl,⟨_,rfl,rfl⟩,hR rfl,⟨_,rfl,rfl⟩,hR rfl,trivial⟩⟩;cases hm;exact⟨((a4H v9 (⟨y3.No,y3.Part,y3.Parts⟩:A1) y3.Text),v10),rfl,F6.of 6 rfl (tA rfl) ⟨hR rfl,hR rfl,⟨_,rfl,rfl⟩,hR rfl,⟨_,rfl,rfl⟩,hR rfl,trivial⟩⟩;cases hm;exact⟨((a4H v9 (⟨y3.No,y3.Part,y3.Parts⟩:A1) y3.Text),v10),rfl,F6.of 6 rfl (tA rfl) ⟨hR rfl,hR rfl,⟨_,rfl,rfl⟩,hR rfl,⟨_,rfl,rfl⟩,hR rfl,trivial⟩⟩;refine⟨⟨R3,rfl⟩,E6 y3.No,_,_,⟨rfl,⟨rfl,trivial⟩,a2f (ev:=K7) (z':=0) C7 rfl,a2j C7,rfl⟩, ?_⟩;apply vb hm<;>intro _ hm;apply vb hm<;>intro _ hm;refine⟨⟨R3,rfl,rfl⟩,E6 y3.No,_,⟨rfl,⟨rfl,trivial⟩,b5a (ev:=K7) (v:=y3.Parts) C7⟩, ?_⟩;cases hm;exact⟨(v9,(a4H v10 y3.No y3.Parts)),rfl,F6.of 6 rfl (tA rfl) ⟨hR rfl,hR rfl,⟨_,rfl,rfl⟩,hR rfl,⟨_,rfl,rfl⟩,hR rfl,trivial⟩⟩;cases hm;exact⟨(v9,v10),rfl,F6.of 6 rfl (tA rfl) ⟨hR rfl,hR rfl,⟨_,rfl,rfl⟩,hR rfl,⟨_,rfl,rfl⟩,hR rfl,trivial⟩⟩;cases hm;exact⟨(v9,v10),rfl,F6.of 6 rfl (tA rfl) ⟨hR rfl,hR rfl,⟨_,rfl,rfl⟩,hR rfl,⟨_,rfl,rfl⟩,hR rfl,trivial⟩⟩
def a1O (b_:l7):Option l7:=
 Option.bind (X4 b_) fun x1=>
 some (⟨x1, []⟩:l7)
theorem b4U (b_:l7) (r:l7) (hm:a1O b_=some r):q8 Tryz.prog 19 [.agg (l7.c b_)] (fun x=>x= .agg (l7.c r)):=by
 refine zn Tryz.func19 rfl ?_;refine cy hm (a5n b_) fun x1 hm=> ?_
 cases hm;exact c9n (le2)
def m9 (s:List c8):Option (List c8):=gd (s.length*48≤140737488355328∧s.length≤9223372036854775807) (some s)
theorem L5 (s:List c8) (r:List c8) (hm:m9 s=some r):q8 Tryz.prog 78 [.lst 5 s.length (s.flatMap c8.c)] (fun x=>x= .lst 5 r.length (r.flatMap c8.c)):=by
 obtain⟨hg,hm⟩:=j2 hm;cases hm;refine zn Tryz.func78 rfl ?_;intro b hb;refine VIf.mk (fun h=> ?_) (fun h=> ?_)
 · have h0:=hb h;have h1:s= []:=a2r h0;subst h1;exact c9n c9m
 · refine⟨[],0,⟨rfl,rfl⟩, ?_⟩;exact⟨by omega,s.flatMap c8.c,s.length,⟨rfl,R6 _⟩,c9n (c9l _)⟩
theorem E1 (s:List c8) (r:List c8) (hm:m9 s=some r):b3j Tryz.prog 78 [.lst 5 s.length (s.flatMap c8.c)] 5 r.length (r.flatMap c8.c) 53:=by
 obtain⟨hg,hm⟩:=j2 hm;cases hm;refine b9Q (X:=⟨Tryz.prog,tt,Tryz.f78.ntmps, [], [], [], [], [], []⟩) pok _ Tryz.func78 rfl rfl (F7 rfl) ?_;intro b hb;refine VIf.mk (fun h=> ?_) (fun h=> ?_)
 · have h0:=hb h;have h1:s= []:=a2r h0;subst h1;exact⟨rfl,rfl⟩
 · refine⟨[],0,⟨rfl,rfl⟩, ?_⟩;exact⟨by omega,s.flatMap c8.c,s.length,⟨rfl,R6 _⟩,⟨rfl,rfl⟩⟩
def Z3 (picks:(List Int)) (i:Int) (n:Int):Option Int:=
 if((picks.length:Int)==0)=true then
  some 0
 else
  gd ((picks.length:Int)≠0)<|
  Option.bind (idx picks (i.tmod (picks.length:Int))) fun e2=>
  gd (n≠0)<|
  gd (n≠0)<|
  some ((W ((e2.tmod n)+n)).tmod n)
theorem a7e (picks:(List Int)) (i:Int) (n:Int) (r:Int) (hm:Z3 picks i n=some r):q8 Tryz.prog 79 [lD 1 picks cI,DI i,DI n] (fun x=>x=DI r):=by
 refine zn Tryz.func79 rfl ?_;apply vb hm<;>intro _ hm;exact hm.rr;obtain⟨hg,hm⟩:=j2 hm;refine⟨hg, ?_⟩;refine ei hm fun _ hm=> ?_
 obtain⟨hg,hm⟩:=j2 hm;refine⟨hg, ?_⟩;obtain⟨hg,hm⟩:=j2 hm;refine⟨hg, ?_⟩;exact hm.rr
def D3 (s:(List c8)) (i:Int) (v:(List c8)):Option (List c8):=
 gd (0≤i∧i.toNat≤s.length)<|
 if((v.length:Int)==0)=true then
  some s
 else
  if(i==(s.length:Int))=true then
   gd ((s.length+v.length)*48≤140737488355328∧s.length+v.length≤9223372036854775807)<|
   some (s++v)
  else
   gd (0≤i∧i.toNat<s.length∧0<v.length∧(s.length+v.length)*48≤140737488355328∧s.length+v.length≤9223372036854775807) (some (s.take i.toNat++v++s.drop i.toNat))
theorem Y9 (s:(List c8)) (i:Int) (v:(List c8)) (r:(List c8)) (hm:D3 s i v=some r):b8Z Tryz.prog 80 5 s.length (s.flatMap c8.c) 53 [DI i,lD 5 v c8.c] 5 r.length (r.flatMap c8.c):=by
 obtain⟨hg0,hm⟩:=j2 hm;refine c0a (X:=⟨Tryz.prog,tt,Tryz.f80.ntmps, [], [], [], [], [], []⟩) (t:=22) (tI:=3) (tB:=4) (ov:=132) (ty:=53) (args:= [lD 5 v c8.c]) pok Tryz.func80 rfl rfl .mk .mk (F7 rfl) hg0 rfl rfl rfl rfl rfl rfl (by kernel_rfl) ⟨⟨_,4,Tryz.func132,by kernel_rfl,by kernel_rfl,by kernel_rfl,by kernel_rfl⟩⟩ (by decide) ?_;apply vb hm<;>intro _ hm;cases hm;exact⟨rfl,rfl⟩;apply vb hm<;>intro _ hm;obtain⟨hg,hm⟩:=j2 hm;refine⟨hg,_,_,o8 (c:=c8.c) (l:=(s:List c8)) (r:=(v:List c8)), ?_⟩;cases hm;exact⟨rfl,rfl⟩;obtain⟨hg,hm⟩:=j2 hm;cases hm;exact c6R (fun _=>rfl) hg
def a1v (s:ByteArray):Option ByteArray:=
 Option.bind (G6 s) fun x1=>
 some x1
theorem a9U (s:ByteArray) (r:ByteArray) (hm:a1v s=some r):q8 Tryz.prog 81 [.v (.string s)] (fun x=>x= .v (.string r)):=by
 refine zn Tryz.func81 rfl ?_;refine cy hm (a1A s) fun x1 hm=> ?_
 cases hm;exact c9n (c9l _)
def J8 (b_:l7) (picks:(List Int)):(Int×(List c8)×(List c8)×(List c8)×(List c8))→Option (Sum (Int×(List c8)×(List c8)×(List c8)×(List c8)) (Int×(List c8)×(List c8)×(List c8)×(List c8))):=fun(v18,v19,v20,v21,v22)=>
 if(decide (v18<(b_.Loose.length:Int)))=true then
  Option.bind (idx b_.Loose v18) fun e39=>
  Option.bind (Z3 picks (W (2*v18)) 4) fun x41=>
  if(x41==0)=true then
   some (.inl ((W (v18+1)),v19,v20,v21,v22))
  else
   if(x41==3)=true then
    Option.bind (D3 v22 0 ([e39]:List c8)) fun x45=>
    some (.inl ((W (v18+1)),v19,v20,v21,x45))
   else
    if(x41==1)=true then
     if(decide ((e39.Text.size:Int)>0))=true then
      Option.bind (Z3 picks (W ((W (2*v18))+1)) (e39.Text.size:Int)) fun x49=>
      gd ((0≤x49∧x49≤(e39.Text.size:Int)))<|
      Option.bind (a1v (e39.Text.extract 0 ((x49).toNat))) fun x51=>
      gd ((v22.length+([(⟨e39.No,e39.Part,e39.Parts,e39.Size,x51⟩:c8)]:List c8).length)*48≤140737488355328∧v22.length+([(⟨e39.No,e39.Part,e39.Parts,e39.Size,x51⟩:c8)]:List c8).length≤9223372036854775807)<|
      some (.inl ((W (v18+1)),v19,v20,v21,(v22++([(⟨e39.No,e39.Part,e39.Parts,e39.Size,x51⟩:c8)]:List c8))))
     else
      gd ((v22.length+([e39]:List c8).length)*48≤140737488355328∧v22.length+([e39]:List c8).length≤9223372036854775807)<|
      some (.inl ((W (v18+1)),v19,v20,v21,(v22++([e39]:List c8))))
    else
     gd ((v22.length+([e39]:List c8).length)*48≤140737488355328∧v22.length+([e39]:List c8).length≤9223372036854775807)<|
     some (.inl ((W (v18+1)),v19,v20,v21,(v22++([e39]:List c8))))
 else
  some (.inr (v18,v19,v20,v21,v22))
def B4 (b_:l7) (picks:(List Int)):Option l7:=
 Option.bind (m9 b_.Thread) fun x1=>
 Option.bind (w6 (J8 b_ picks) (0, [], [], [], [])) fun(v53,v54,v55,v56,v57)=>
 some (⟨x1,v57⟩:l7)
theorem Z9 (b_:l7) (picks:(List Int)) (r:l7) (hm:B4 b_ picks=some r):q8 Tryz.prog 21 [.agg (l7.c b_),lD 1 picks cI] (fun x=>x= .agg (l7.c r)):=by
 refine zy c9j [80,112,155,175] [78] [] Tryz.func21 rfl ?_;obtain⟨x1,hx2,hm⟩:=j0 hm;refine .inl (a5s.mk ⟨_,_,_,_,E1 b_.Thread _ hx2, ?_⟩);obtain⟨ev58,he,hk59⟩:=j0 hm;refine c9o (J8 b_ picks) (fun(v18,v19,v20,v21,v22)=>⟨[(1,lD 1 picks cI),(4, .own 1 0),(5, .own 3 0),(14,lD 5 b_.Loose c8.c),(15,DI (b_.Loose.length:Int)),(16,DI v18)], [(1, .blk [nS,nS] 24),(2,rE 5 x1 c8.c 53),(3, .blk [.row 2 5, .row 7 5] 24),(4,rE 5 v19 c8.c 53),(5,rE 5 v20 c8.c 53),(6,rE 5 v21 c8.c 53),(7,rE 5 v22 c8.c 53)],8⟩) (0, [], [], [], []) (sb 4) he ?_;rintro fu60 ⟨v18,v19,v20,v21,v22⟩ b hm hi61;apply vb hm<;>intro _ hm;refine ei hm fun e63 hm=> ?_
 refine cy hm (a7e picks (W (2*v18)) 4) fun x65 hm=> ?_
 apply vb hm<;>intro _ hm;cases hm;exact⟨(_,((W (v18+1)),v19,v20,v21,v22)),sb 8,hi61,D7 _⟩;apply vb hm<;>intro _ hm;refine⟨([e63]:List c8).flatMap c8.c,([e63]:List c8).length,⟨rfl,rfl⟩, ?_⟩;obtain⟨x69,hx70,hm⟩:=j0 hm;refine .inl (c1X.mk ⟨_,_,_,_,_,_,_,rfl,Y9 v22 0 (([e63]:List c8)) _ hx70, ?_⟩);cases hm;exact⟨(_,((W (v18+1)),v19,v20,v21,x69)),sb 8,hi61,D7 _⟩;apply vb hm<;>intro _ hm;apply vb hm<;>intro _ hm;refine⟨rfl, ?_⟩;refine cy hm (a7e picks (W ((W (2*v18))+1)) ((e63.Text.size:Int))) fun x73 hm=> ?_
 obtain⟨hg,hm⟩:=j2 hm;refine⟨hg, ?_⟩;refine cy hm (a9U (e63.Text.extract 0 ((x73).toNat))) fun x75 hm=> ?_
 refine⟨([(⟨e63.No,e63.Part,e63.Parts,e63.Size,x75⟩:c8)]:List c8).flatMap c8.c,([(⟨e63.No,e63.Part,e63.Parts,e63.Size,x75⟩:c8)]:List c8).length,⟨rfl,rfl⟩, ?_⟩;obtain⟨hg,hm⟩:=j2 hm;refine⟨hg,_,_,o8 (c:=c8.c) (l:=(v22:List c8)) (r:=(([(⟨e63.No,e63.Part,e63.Parts,e63.Size,x75⟩:c8)]:List c8):List c8)), ?_⟩;cases hm;exact⟨(_,((W (v18+1)),v19,v20,v21,(v22++([(⟨e63.No,e63.Part,e63.Parts,e63.Size,x75⟩:c8)]:List c8)))),sb 8,hi61,D7 _⟩;refine⟨([e63]:List c8).flatMap c8.c,([e63]:List c8).length,⟨rfl,rfl⟩, ?_⟩;obtain⟨hg,hm⟩:=j2 hm;refine⟨hg,_,_,o8 (c:=c8.c) (l:=(v22:List c8)) (r:=(([e63]:List c8):List c8)), ?_⟩;cases hm;exact⟨(_,((W (v18+1)),v19,v20,v21,(v22++([e63]:List c8)))),sb 8,hi61,D7 _⟩;refine⟨([e63]:List c8).flatMap c8.c,([e63]:List c8).length,⟨rfl,rfl⟩, ?_⟩;obtain⟨hg,hm⟩:=j2 hm;refine⟨hg,_,_,o8 (c:=c8.c) (l:=(v22:List c8)) (r:=(([e63]:List c8):List c8)), ?_⟩;cases hm;exact⟨(_,((W (v18+1)),v19,v20,v21,(v22++([e63]:List c8)))),sb 8,hi61,D7 _⟩;cases hm;cases hi61;have hm:=hk59;cases hm;exact c9n (c9l _)
def J1 (l:(List b9)):Int→Option (Sum Int (Sum Int Bool)):=fun v11=>
 if(decide (v11<(l.length:Int)))=true then
  Option.bind (idx l v11) fun e23=>
  Option.bind (o9 e23) fun x25=>
  if(!x25)=true then
   some (.inr (.inr false))
  else
   gd ((0≤v11∧v11≤(l.length:Int)))<|
   Option.bind (some (sub l 0 (v11).toNat)) fun sl28=>
   Option.bind (Z4 sl28 e23) fun x29=>
   if(!x29)=true then
    some (.inr (.inr false))
   else
    some (.inl (W (v11+1)))
 else
  some (.inr (.inl v11))
def O8 (l:(List b9)):Option Bool:=
 Option.bind (w6 (J1 l) 0) fun e=>
 match e with
 | .inl v32=>
  some true
 | .inr rr33=>
  some rr33
theorem a6Z (l:(List b9)) (r:Bool) (hm:O8 l=some r):q8 Tryz.prog 107 [lD 8 l b9.c] (fun x=>x=DB r):=by
 refine zy c6F [] [] [] Tryz.func107 rfl ?_;obtain⟨ev34,he,hk35⟩:=j0 hm;refine c9o (J1 l) (fun v11=>⟨[(0,lD 8 l b9.c),(5,lD 8 l b9.c),(6,DI (l.length:Int)),(7,DI v11)], [],0⟩) 0 (sb 0) he ?_;rintro fu36 v11 b hm hi37;apply vb hm<;>intro _ hm;refine ei hm fun e39 hm=> ?_
 refine⟨rfl, ?_⟩;refine cy hm (z7 e39) fun x41 hm=> ?_
 apply vb hm<;>intro _ hm;cases hm;cases hi37;have hm:=hk35;exact hm.rr;obtain⟨hg,hm⟩:=j2 hm;obtain⟨sl44,hy,hm⟩:=j0 hm;refine⟨hg,_,(V1 (c:=b9.c) (z:=8) (fun _=>rfl) _ _ _).trans (l8 _ (D6 hy)), ?_⟩;have hl:sl44.length=(v11).toNat-0:=by rw [←D6 hy];exact a0P (by omega)
 rw [←hl];refine cy hm (a7r sl44 e39) fun x45 hm=> ?_
 apply vb hm<;>intro _ hm;cases hm;cases hi37;have hm:=hk35;exact hm.rr;cases hm;exact⟨(_,(W (v11+1))),sb 0,hi37,D7 _⟩;cases hm;cases hi37;have hm:=hk35;exact hm.rr
def w9 (s1:(List c8)) (s2:(List c8)):Int→Option (Sum Int (Sum Int Bool)):=fun v8=>
 if(decide (v8<(s1.length:Int)))=true then
  Option.bind (idx s1 v8) fun e16=>
  Option.bind (idx s2 v8) fun e18=>
  if(!((e16.No==e18.No)&&((e16.Part==e18.Part)&&((e16.Parts==e18.Parts)&&((e16.Size==e18.Size)&&(e16.Text.toList==e18.Text.toList))))))=true then
   some (.inr (.inr false))
  else
   some (.inl (W (v8+1)))
 else
  some (.inr (.inl v8))
def A3 (s1:(List c8)) (s2:(List c8)):Option Bool:=
 if((s1.length:Int) !=(s2.length:Int))=true then
  some false
 else
  Option.bind (w6 (w9 s1 s2) 0) fun e=>
  match e with
  | .inl v21=>
   some true
  | .inr rr22=>
   some rr22
theorem a0p (s1:(List c8)) (s2:(List c8)) (r:Bool) (hm:A3 s1 s2=some r):q8 Tryz.prog 135 [lD 5 s1 c8.c,lD 5 s2 c8.c] (fun x=>x=DB r):=by
 refine zy c7S [] [] [] Tryz.func135 rfl ?_;apply vb hm<;>intro _ hm;exact hm.rr;obtain⟨ev23,he,hk24⟩:=j0 hm;refine c9o (w9 s1 s2) (fun v8=>⟨[(0,lD 5 s1 c8.c),(1,lD 5 s2 c8.c),(12,DI (s1.length:Int)),(13,DI v8)], [],0⟩) 0 (sb 0) he ?_;rintro fu25 v8 b hm hi26;apply vb hm<;>intro _ hm;refine⟨rfl, ?_⟩;refine ei hm fun _ hm=> ?_
 refine ei hm fun _ hm=> ?_
 apply vb hm<;>intro _ hm;cases hm;cases hi26;have hm:=hk24;exact hm.rr;cases hm;exact⟨(_,(W (v8+1))),sb 0,hi26,D7 _⟩;cases hm;cases hi26;have hm:=hk24;exact hm.rr
def O9 (b_:l7) (written:(List b9)):Option Bool:=
 Option.bind (O8 written) fun x1=>
 if x1=true then
  Option.bind (X4 b_) fun x4=>
  Option.bind (a2i written) fun x6=>
  Option.bind (A3 x4 x6) fun x8=>
  some x8
 else
  some false
theorem a7w (b_:l7) (written:(List b9)) (r:Bool) (hm:O9 b_ written=some r):q8 Tryz.prog 83 [.agg (l7.c b_),lD 8 written b9.c] (fun x=>x=DB r):=by
 refine zn Tryz.func83 rfl ?_;refine cy hm (a6Z written) fun x1 hm=> ?_
 apply vb hm<;>intro _ hm;refine cy hm (a5n b_) fun x4 hm=> ?_
 refine cy hm (a3N written) fun x6 hm=> ?_
 refine cy hm (a0p x4 x6) fun x8 hm=> ?_
 exact hm.rr;exact hm.rr
def A2 (b_:D1):(Int×Int×Int)→Option (Sum (Int×Int×Int) (Sum (Int×Int×Int) Bool)):=fun(v25,v26,v27)=>
 if(decide (v25<(b_.Records.length:Int)))=true then
  Option.bind (idx b_.Records v25) fun e53=>
  if(e53.At.Depot==v26)=true then
   if(e53.At.No==(W (v27+1)))=true then
    Option.bind (o9 e53) fun x57=>
    if(!x57)=true then
     some (.inr (.inr false))
    else
     some (.inl ((W (v25+1)),e53.At.Depot,e53.At.No))
   else
    if(decide (e53.At.Depot>v26))=true then
     Option.bind (o9 e53) fun x61=>
     if(!x61)=true then
      some (.inr (.inr false))
     else
      if(!(e53.At.No==0))=true then
       some (.inr (.inr false))
      else
       some (.inl ((W (v25+1)),e53.At.Depot,e53.At.No))
    else
     Option.bind (o9 e53) fun x65=>
     if(!x65)=true then
      some (.inr (.inr false))
     else
      some (.inr (.inr false))
  else
   if(decide (e53.At.Depot>v26))=true then
    Option.bind (o9 e53) fun x69=>
    if(!x69)=true then
     some (.inr (.inr false))
    else
     if(!(e53.At.No==0))=true then
      some (.inr (.inr false))
     else
      some (.inl ((W (v25+1)),e53.At.Depot,e53.At.No))
   else
    Option.bind (o9 e53) fun x73=>
    if(!x73)=true then
     some (.inr (.inr false))
    else
     some (.inr (.inr false))
 else
  some (.inr (.inl (v25,v26,v27)))
def N6 (b_:D1):Option Bool:=
 Option.bind (w6 (A2 b_) (0,(-1),0)) fun e=>
 match e with
 | .inl (v76,v77,v78)=>
  some (decide ((b_.Records.length:Int)≤60))
 | .inr rr79=>
  some rr79
theorem b1P (b_:D1) (r:Bool) (hm:N6 b_=some r):q8 Tryz.prog 101 [.agg (D1.c b_)] (fun x=>x=DB r):=by
 refine zn Tryz.func101 rfl ?_;obtain⟨ev80,he,hk81⟩:=j0 hm;refine c9o (A2 b_) (fun(v25,v26,v27)=>⟨[(1, .own 0 0),(3, .own 1 0),(9,lD 8 b_.Records b9.c),(10,DI (b_.Records.length:Int)),(11,DI v25)], [(0, .blk [lD 8 b_.Records b9.c] 70),(1, .blk [DI v26,DI v27] 36)],2⟩) (0,(-1),0) (sb 2) he ?_;rintro fu82 ⟨v25,v26,v27⟩ b hm hi83;apply vb hm<;>intro _ hm;refine ei hm fun e85 hm=> ?_
 apply vb hm<;>intro _ hm;apply vb hm<;>intro _ hm;refine cy hm (z7 e85) fun x89 hm=> ?_
 apply vb hm<;>intro _ hm;cases hm;cases hi83;have hm:=hk81;exact hm.rr;cases hm;exact⟨(_,((W (v25+1)),e85.At.Depot,e85.At.No)),sb 2,hi83,D7 _⟩;apply vb hm<;>intro _ hm;refine cy hm (z7 e85) fun x93 hm=> ?_
 apply vb hm<;>intro _ hm;cases hm;cases hi83;have hm:=hk81;exact hm.rr;apply vb hm<;>intro _ hm;cases hm;cases hi83;have hm:=hk81;exact hm.rr;cases hm;exact⟨(_,((W (v25+1)),e85.At.Depot,e85.At.No)),sb 2,hi83,D7 _⟩;refine cy hm (z7 e85) fun x97 hm=> ?_
 apply vb hm<;>intro _ hm;cases hm;cases hi83;have hm:=hk81;exact hm.rr;cases hm;cases hi83;have hm:=hk81;exact hm.rr;apply vb hm<;>intro _ hm;refine cy hm (z7 e85) fun x101 hm=> ?_
 apply vb hm<;>intro _ hm;cases hm;cases hi83;have hm:=hk81;exact hm.rr;apply vb hm<;>intro _ hm;cases hm;cases hi83;have hm:=hk81;exact hm.rr;cases hm;exact⟨(_,((W (v25+1)),e85.At.Depot,e85.At.No)),sb 2,hi83,D7 _⟩;refine cy hm (z7 e85) fun x105 hm=> ?_
 apply vb hm<;>intro _ hm;cases hm;cases hi83;have hm:=hk81;exact hm.rr;cases hm;cases hi83;have hm:=hk81;exact hm.rr;cases hm;cases hi83;have hm:=hk81;exact hm.rr
def k9 (s:List b9):Option (List b9):=gd (s.length*72≤140737488355328∧s.length≤9223372036854775807) (some s)
theorem a6f (s:List b9) (r:List b9) (hm:k9 s=some r):q8 Tryz.prog 102 [.lst 8 s.length (s.flatMap b9.c)] (fun x=>x= .lst 8 r.length (r.flatMap b9.c)):=by
 obtain⟨hg,hm⟩:=j2 hm;cases hm;refine zn Tryz.func102 rfl ?_;intro b hb;refine VIf.mk (fun h=> ?_) (fun h=> ?_)
 · have h0:=hb h;have h1:s= []:=a2r h0;subst h1;exact c9n c9m
 · refine⟨[],0,⟨rfl,rfl⟩, ?_⟩;exact⟨by omega,s.flatMap b9.c,s.length,⟨rfl,R6 _⟩,c9n (c9l _)⟩
theorem q9 (s:List b9) (r:List b9) (hm:k9 s=some r):b3j Tryz.prog 102 [.lst 8 s.length (s.flatMap b9.c)] 8 r.length (r.flatMap b9.c) 38:=by
 obtain⟨hg,hm⟩:=j2 hm;cases hm;refine b9Q (X:=⟨Tryz.prog,tt,Tryz.f102.ntmps, [], [], [], [], [], []⟩) pok _ Tryz.func102 rfl rfl (F7 rfl) ?_;intro b hb;refine VIf.mk (fun h=> ?_) (fun h=> ?_)
 · have h0:=hb h;have h1:s= []:=a2r h0;subst h1;exact⟨rfl,rfl⟩
 · refine⟨[],0,⟨rfl,rfl⟩, ?_⟩;exact⟨by omega,s.flatMap b9.c,s.length,⟨rfl,R6 _⟩,⟨rfl,rfl⟩⟩
def P5 (vals:(List Int)):Int→Option (Sum Int (Sum Int Int)):=fun v5=>
 if(decide (v5<(vals.length:Int)))=true then
  Option.bind (idx vals v5) fun e11=>
  if(e11 !=0)=true then
   some (.inr (.inr e11))
  else
   some (.inl (W (v5+1)))
 else
  some (.inr (.inl v5))
def a1R (vals:(List Int)):Option Int:=
 Option.bind (w6 (P5 vals) 0) fun e=>
 match e with
 | .inl v14=>
  some 0
 | .inr rr15=>
  some rr15
theorem b4I (vals:(List Int)) (r:Int) (hm:a1R vals=some r):q8 Tryz.prog 165 [lD 1 vals cI] (fun x=>x=DI r):=by
 refine zn Tryz.func165 rfl ?_;obtain⟨ev16,he,hk17⟩:=j0 hm;refine c9o (P5 vals) (fun v5=>⟨[(3,DI 0),(6,lD 1 vals cI),(7,DI (vals.length:Int)),(8,DI v5)], [],0⟩) 0 (sb 0) he ?_;rintro fu18 v5 b hm hi19;apply vb hm<;>intro _ hm;refine ei hm fun _ hm=> ?_
 apply vb hm<;>intro _ hm;cases hm;cases hi19;have hm:=hk17;exact hm.rr;cases hm;exact⟨(_,(W (v5+1))),sb 0,hi19,D7 _⟩;cases hm;cases hi19;have hm:=hk17;exact hm.rr
def V9 (x:Int):Option Bool:=
 some (x !=x)
theorem a4C (x:Int) (r:Bool) (hm:V9 x=some r):q8 Tryz.prog 178 [DI x] (fun x=>x=DB r):=by
 refine zn Tryz.func178 rfl ?_;exact hm.rr
def K9 (x:Int) (y:Int):Option Int:=
 Option.bind (V9 x) fun x1=>
 Option.bind (V9 y) fun x3=>
 if x1=true then
  if x3=true then
   some 0
  else
   some (-1)
 else
  if x3=true then
   some 1
  else
   if(decide (x<y))=true then
    some (-1)
   else
    if(decide (x>y))=true then
     some 1
    else
     some 0
theorem a2E (x:Int) (y:Int) (r:Int) (hm:K9 x y=some r):q8 Tryz.prog 166 [DI x,DI y] (fun x=>x=DI r):=by
 refine zn Tryz.func166 rfl ?_;refine cy hm (a4C x) fun x1 hm=> ?_
 refine cy hm (a4C y) fun x3 hm=> ?_
 apply vb hm<;>intro _ hm;apply vb hm<;>intro _ hm;exact hm.rr;exact hm.rr;apply vb hm<;>intro _ hm;exact hm.rr;apply vb hm<;>intro _ hm;exact hm.rr;apply vb hm<;>intro _ hm;exact hm.rr;exact hm.rr
def a1D (a:o6) (b_:o6):Option Int:=
 Option.bind (K9 a.Depot b_.Depot) fun x1=>
 Option.bind (K9 a.No b_.No) fun x3=>
 Option.bind (a1R ([x1,x3]:List Int)) fun x5=>
 some x5
theorem a9M (a:o6) (b_:o6) (r:Int) (hm:a1D a b_=some r):q8 Tryz.prog 147 [.agg (o6.c a), .agg (o6.c b_)] (fun x=>x=DI r):=by
 refine zy c7q [] [] [] Tryz.func147 rfl ?_;refine⟨rfl, ?_⟩;refine cy hm (a2E a.Depot b_.Depot) fun x1 hm=> ?_
 refine cy hm (a2E a.No b_.No) fun x3 hm=> ?_
 refine⟨([x1,x3]:List Int).flatMap cI,([x1,x3]:List Int).length,⟨rfl,rfl⟩, ?_⟩;refine co hm (b4I (([x1,x3]:List Int))) fun x5 hm=> ?_
 exact hm.rr
def S4 (r_:b9) (at_:o6):Option Int:=
 Option.bind (a1D r_.At at_) fun x1=>
 some x1
theorem a5g (r_:b9) (at_:o6) (r:Int) (hm:S4 r_ at_=some r):q8 Tryz.prog 146 [.agg (b9.c r_), .agg (o6.c at_)] (fun x=>x=DI r):=by
 refine zn Tryz.func146 rfl ?_;refine cy hm (a9M r_.At at_) fun x1 hm=> ?_
 exact hm.rr
def j6 (x:(List b9)) (target:o6):(Int×Int)→Option (Sum (Int×Int) (Int×Int)):=fun(i7,j8)=>
 if(decide (i7<j8))=true then
  Option.bind (idx x (W ((IntKind.u64.wrap (W (i7+j8))).fdiv (2^(min (1:Int).toNat IntKind.u64.bits))))) fun e16=>
  Option.bind (S4 e16 target) fun x18=>
  if(decide (x18<0))=true then
   some (.inl ((W ((W ((IntKind.u64.wrap (W (i7+j8))).fdiv (2^(min (1:Int).toNat IntKind.u64.bits))))+1)),j8))
  else
   some (.inl (i7,(W ((IntKind.u64.wrap (W (i7+j8))).fdiv (2^(min (1:Int).toNat IntKind.u64.bits))))))
 else
  some (.inr (i7,j8))
def m7 (x:(List b9)) (target:o6):Option (Int×Bool):=
 Option.bind (w6 (j6 x target) (0,(x.length:Int))) fun(i21,j22)=>
 if(decide (i21<(x.length:Int)))=true then
  Option.bind (idx x i21) fun e24=>
  Option.bind (S4 e24 target) fun x26=>
  some (i21,(x26==0))
 else
  some (i21,false)
theorem B7 (x:(List b9)) (target:o6) (r:(Int×Bool)) (hm:m7 x target=some r):q8 Tryz.prog 145 [lD 8 x b9.c, .agg (o6.c target), .fn 146 [] []] (fun x=>x= .tup [DI r.1,DB r.2]):=by
 refine zy c8f [] [] [] Tryz.func145 rfl ?_;obtain⟨ev28,he,hk29⟩:=j0 hm;refine c9o (j6 x target) (fun(i7,j8)=>⟨[(0,lD 8 x b9.c),(2, .fn 146 [] []),(4, .own 0 0),(8,DI (x.length:Int)),(9,DI i7),(10,DI j8)], [(0, .blk [DI target.Depot,DI target.No] 36)],1⟩) (0,(x.length:Int)) (sb 1) he ?_;rintro fu30 ⟨i7,j8⟩ b hm hi31;apply vb hm<;>intro _ hm;refine⟨by decide, ?_⟩;refine⟨rfl, ?_⟩;refine ei hm fun e33 hm=> ?_
 refine cy hm (a5g e33 target) fun x35 hm=> ?_
 apply vb hm<;>intro _ hm;cases hm;exact⟨(_,((W ((W ((IntKind.u64.wrap (W (i7+j8))).fdiv (2^(min (1:Int).toNat IntKind.u64.bits))))+1)),j8)),sb 1,hi31,D7 _⟩;cases hm;exact⟨(_,(i7,(W ((IntKind.u64.wrap (W (i7+j8))).fdiv (2^(min (1:Int).toNat IntKind.u64.bits)))))),sb 1,hi31,D7 _⟩;cases hm;cases hi31;have hm:=hk29;refine⟨rfl, ?_⟩;apply vb hm<;>intro _ hm;refine ei hm fun e39 hm=> ?_
 refine cy hm (a5g e39 target) fun x41 hm=> ?_
 cases hm;exact c9n (c9l _);cases hm;exact c9n (c9l _)
def U7 (b_:D1) (at_:o6):Option (Int×Bool):=
 Option.bind (m7 b_.Records at_) fun⟨x1,x2⟩=>
 some (x1,x2)
theorem b5g (b_:D1) (at_:o6) (r:(Int×Bool)) (hm:U7 b_ at_=some r):q8 Tryz.prog 103 [.agg (D1.c b_), .agg (o6.c at_)] (fun x=>x= .tup [DI r.1,DB r.2]):=by
 refine zn Tryz.func103 rfl ?_;refine cy hm (B7 b_.Records at_) ?_;rintro⟨x1,x2⟩ hm;cases hm;exact c9n (c9l _)
def Q8 (b_:D1) (r_:b9):Option (D1×Int):=
 Option.bind (N6 b_) fun x1=>
 if(!x1)=true then
  some ((⟨[]⟩:D1),81)
 else
  Option.bind (o9 r_) fun x4=>
  if(!x4)=true then
   some ((⟨[]⟩:D1),80)
  else
   Option.bind (U7 b_ r_.At) fun⟨x7,x8⟩=>
   if x8=true then
    Option.bind (idx b_.Records x7) fun e11=>
    if((e11.At.Depot==r_.At.Depot)&&((e11.At.No==r_.At.No)&&((e11.Kind==r_.Kind)&&((e11.Day==r_.Day)&&((e11.Known==r_.Known)&&((e11.Of.Depot==r_.Of.Depot)&&((e11.Of.No==r_.Of.No)&&(e11.Text.toList==r_.Text.toList))))))))=true then
     Option.bind (E0 b_.Records) fun x14=>
     some (x14,0)
    else
     some ((⟨[]⟩:D1),82)
   else
    Option.bind (a1c b_.Records) fun x16=>
    Option.bind (idx [x16.1,x16.2.1,x16.2.2.1,x16.2.2.2.1,x16.2.2.2.2.1,x16.2.2.2.2.2] r_.At.Depot) fun e18=>
    if(decide (e18<r_.At.No))=true then
     some ((⟨[]⟩:D1),83)
    else
     if((b_.Records.length:Int)==60)=true then
      some ((⟨[]⟩:D1),2)
     else
      Option.bind (k9 b_.Records) fun x22=>
      gd ((x22.length+([r_]:List b9).length)*72≤140737488355328∧x22.length+([r_]:List b9).length≤9223372036854775807)<|
      Option.bind (E0 (x22++([r_]:List b9))) fun x24=>
      some (x24,0)
theorem b6Z (b_:D1) (r_:b9) (r:(D1×Int)) (hm:Q8 b_ r_=some r):q8 Tryz.prog 46 [.agg (D1.c b_), .agg (b9.c r_)] (fun x=>x= .tup [.agg (D1.c r.1),DI r.2]):=by
 refine zy c8E [80,112,155,175] [102] [] Tryz.func46 rfl ?_;refine cy hm (b1P b_) fun x1 hm=> ?_
 apply vb hm<;>intro _ hm;cases hm;exact c9n (le3);refine cy hm (z7 r_) fun x4 hm=> ?_
 apply vb hm<;>intro _ hm;cases hm;exact c9n (le3);refine cy hm (b5g b_ r_.At) ?_;rintro⟨x7,x8⟩ hm;refine⟨rfl, ?_⟩;apply vb hm<;>intro h10 hm;refine ei hm fun _ hm=> ?_
 apply vb hm<;>intro _ hm;refine cy hm (a0m b_.Records) fun x14 hm=> ?_
 cases hm;exact c9n (c9l _);refine VIf.t h10 ?_;cases hm;exact c9n (le3);refine VIf.f h10 ?_;refine⟨rfl, ?_⟩;refine cy hm (a9y b_.Records) fun x16 hm=> ?_
 obtain⟨e18,hx19,hm⟩:=j0 hm;refine⟨a5r hx19,_,ldx (c:=cI) (z:=1) (pre:= []) (post:= []) (b:=0) (off:=0) (fun _=>rfl) hx19 rfl rfl (by omega) rfl, ?_⟩;apply vb hm<;>intro _ hm;cases hm;exact c9n (le3);apply vb hm<;>intro _ hm;cases hm;exact c9n (le3);refine⟨rfl, ?_⟩;refine⟨?_, ?_⟩;obtain⟨x22,hx23,hm⟩:=j0 hm;refine .inl (a5s.mk ⟨_,_,_,_,q9 b_.Records _ hx23, ?_⟩);refine⟨([r_]:List b9).flatMap b9.c,([r_]:List b9).length,⟨rfl,rfl⟩, ?_⟩;obtain⟨hg,hm⟩:=j2 hm;refine⟨hg,_,_,o8 (c:=b9.c) (l:=(x22:List b9)) (r:=(([r_]:List b9):List b9)), ?_⟩;refine co hm (a0m ((x22++([r_]:List b9)))) fun x24 hm=> ?_
 cases hm;exact c9n (c9l _);refine⟨([r_]:List b9).flatMap b9.c,([r_]:List b9).length,⟨rfl,rfl⟩, ?_⟩;obtain⟨x26,hx27,hm⟩:=j0 hm;refine .inl (a5s.mk ⟨_,_,_,_,q9 b_.Records _ hx27, ?_⟩);obtain⟨hg,hm⟩:=j2 hm;refine⟨hg,_,_,o8 (c:=b9.c) (l:=(x26:List b9)) (r:=(([r_]:List b9):List b9)), ?_⟩;refine co hm (a0m ((x26++([r_]:List b9)))) fun x28 hm=> ?_
 cases hm;exact c9n (c9l _)
def n8 (s:(List b9)) (v:b9):Int→Option (Sum Int (Sum Int Int)):=fun v5=>
 if(decide (v5<(s.length:Int)))=true then
  Option.bind (idx s v5) fun e11=>
  if((v.At.Depot==e11.At.Depot)&&((v.At.No==e11.At.No)&&((v.Kind==e11.Kind)&&((v.Day==e11.Day)&&((v.Known==e11.Known)&&((v.Of.Depot==e11.Of.Depot)&&((v.Of.No==e11.Of.No)&&(v.Text.toList==e11.Text.toList))))))))=true then
   some (.inr (.inr v5))
  else
   some (.inl (W (v5+1)))
 else
  some (.inr (.inl v5))
def B6 (s:(List b9)) (v:b9):Option Int:=
 Option.bind (w6 (n8 s v) 0) fun e=>
 match e with
 | .inl v14=>
  some (-1)
 | .inr rr15=>
  some rr15
theorem V0 (s:(List b9)) (v:b9) (r:Int) (hm:B6 s v=some r):q8 Tryz.prog 161 [lD 8 s b9.c, .agg (b9.c v)] (fun x=>x=DI r):=by
 refine zy c7p [] [] [] Tryz.func161 rfl ?_;obtain⟨ev16,he,hk17⟩:=j0 hm;refine c9o (n8 s v) (fun v5=>⟨[(0,lD 8 s b9.c),(3, .own 0 0),(7,DI (s.length:Int)),(8,DI v5)], [(0, .blk (b9.c v) 38)],1⟩) 0 (sb 1) he ?_;rintro fu18 v5 b hm hi19;apply vb hm<;>intro _ hm;refine⟨rfl, ?_⟩;refine ei hm fun _ hm=> ?_
 apply vb hm<;>intro _ hm;cases hm;cases hi19;have hm:=hk17;exact hm.rr;cases hm;exact⟨(_,(W (v5+1))),sb 1,hi19,D7 _⟩;cases hm;cases hi19;have hm:=hk17;exact hm.rr
def p0 (s:(List b9)) (v:b9):Option Bool:=
 Option.bind (B6 s v) fun x1=>
 some (decide (x1≥0))
theorem Q7 (s:(List b9)) (v:b9) (r:Bool) (hm:p0 s v=some r):q8 Tryz.prog 136 [lD 8 s b9.c, .agg (b9.c v)] (fun x=>x=DB r):=by
 refine zn Tryz.func136 rfl ?_;refine cy hm (V0 s v) fun x1 hm=> ?_
 exact hm.rr
def N5 (b_:l7):Option l7:=
 Option.bind (m9 b_.Thread) fun x1=>
 Option.bind (m9 b_.Loose) fun x3=>
 some (⟨x1,x3⟩:l7)
theorem c3E (b_:l7) (r:l7) (hm:N5 b_=some r):q8 Tryz.prog 137 [.agg (l7.c b_)] (fun x=>x= .agg (l7.c r)):=by
 refine zy c5g [] [] [] Tryz.func137 rfl ?_;refine⟨rfl, ?_⟩;obtain⟨x1,hx2,hm⟩:=j0 hm;refine a6l.det (L5 b_.Thread _ hx2) ?_;obtain⟨x3,hx4,hm⟩:=j0 hm;refine a6l.det (L5 b_.Loose _ hx4) ?_;cases hm;exact c9n (c9l _)
theorem a4s (b_:l7) (r:l7) (hm:N5 b_=some r):b6O Tryz.prog 137 [.agg (l7.c b_)] [(5,r.Thread.length,r.Thread.flatMap c8.c,53),(5,r.Loose.length,r.Loose.flatMap c8.c,53)] [.row 0 5, .row 1 5]:=by
 refine b9T (X:=⟨Tryz.prog,tt,Tryz.f137.ntmps,c5g, [80,112,155,175], [78], [], [], []⟩) pok _ Tryz.func137 rfl rfl (F7 rfl) rfl ?_;refine⟨rfl, ?_⟩;obtain⟨x1,hx2,hm⟩:=j0 hm;refine .inl (a5s.mk ⟨_,_,_,_,E1 b_.Thread _ hx2, ?_⟩);obtain⟨x3,hx4,hm⟩:=j0 hm;refine .inl (a5s.mk ⟨_,_,_,_,E1 b_.Loose _ hx4, ?_⟩);cases hm;exact⟨rfl,⟨⟨rfl,rfl,rfl,rfl⟩,⟨⟨rfl,rfl,rfl,rfl⟩,rfl⟩⟩⟩
def V2 (b_:l7) (written:(List b9)) (r_:b9):Option (l7×(List b9)×Int):=
 Option.bind (p0 written r_) fun x1=>
 if x1=true then
  Option.bind (N5 b_) fun x4=>
  Option.bind (k9 written) fun x6=>
  some (x4,x6,0)
 else
  Option.bind (E0 written) fun x8=>
  Option.bind (Q8 x8 r_) fun⟨x10,x11⟩=>
  if(x11 !=0)=true then
   some ((⟨[], []⟩:l7), [],x11)
  else
   Option.bind (N5 b_) fun x14=>
   Option.bind (Q1 r_ (written.length:Int)) fun x16=>
   gd ((x14.Loose.length+x16.length)*48≤140737488355328∧x14.Loose.length+x16.length≤9223372036854775807)<|
   Option.bind (k9 written) fun x18=>
   gd ((x18.length+([r_]:List b9).length)*72≤140737488355328∧x18.length+([r_]:List b9).length≤9223372036854775807)<|
   some ((⟨x14.Thread,(x14.Loose++x16)⟩:l7),(x18++([r_]:List b9)),0)
theorem b2B (b_:l7) (written:(List b9)) (r_:b9) (r:(l7×(List b9)×Int)) (hm:V2 b_ written r_=some r):q8 Tryz.prog 84 [.agg (l7.c b_),lD 8 written b9.c, .agg (b9.c r_)] (fun x=>x= .tup [.agg (l7.c r.1),lD 8 r.2.1 b9.c,DI r.2.2]):=by
 refine zy c8T [80,112,155,175] [102,137] [] Tryz.func84 rfl ?_;refine cy hm (Q7 written r_) fun x1 hm=> ?_
 apply vb hm<;>intro _ hm;obtain⟨x4,hx5,hm⟩:=j0 hm;refine .inr (b5H.mk ⟨_,_,a4s b_ _ hx5, ?_⟩);obtain⟨x6,hx7,hm⟩:=j0 hm;refine .inl (a5s.mk ⟨_,_,_,_,q9 written _ hx7, ?_⟩);cases hm;exact c9n (c9l _);refine⟨rfl, ?_⟩;refine cy hm (a0m written) fun x8 hm=> ?_
 refine cy hm (b6Z x8 r_) ?_;rintro⟨x10,x11⟩ hm;apply vb hm<;>intro _ hm;cases hm;exact c9n (le4);obtain⟨x14,hx15,hm⟩:=j0 hm;refine .inr (b5H.mk ⟨_,_,a4s b_ _ hx15, ?_⟩);refine⟨rfl, ?_⟩;refine cy hm (a3d r_ ((written.length:Int))) fun x16 hm=> ?_
 obtain⟨hg,hm⟩:=j2 hm;refine⟨hg,_,_,o8 (c:=c8.c) (l:=(x14.Loose:List c8)) (r:=(x16:List c8)), ?_⟩;refine⟨rfl, ?_⟩;refine⟨?_, ?_⟩;obtain⟨x18,hx19,hm⟩:=j0 hm;refine .inl (a5s.mk ⟨_,_,_,_,q9 written _ hx19, ?_⟩);refine⟨([r_]:List b9).flatMap b9.c,([r_]:List b9).length,⟨rfl,rfl⟩, ?_⟩;obtain⟨hg,hm⟩:=j2 hm;refine⟨hg,_,_,o8 (c:=b9.c) (l:=(x18:List b9)) (r:=(([r_]:List b9):List b9)), ?_⟩;cases hm;exact c9n (c9l _);refine⟨([r_]:List b9).flatMap b9.c,([r_]:List b9).length,⟨rfl,rfl⟩, ?_⟩;obtain⟨x20,hx21,hm⟩:=j0 hm;refine .inl (a5s.mk ⟨_,_,_,_,q9 written _ hx21, ?_⟩);obtain⟨hg,hm⟩:=j2 hm;refine⟨hg,_,_,o8 (c:=b9.c) (l:=(x20:List b9)) (r:=(([r_]:List b9):List b9)), ?_⟩;cases hm;exact c9n (c9l _)
def L7 (b_:l7) (written:(List b9)) (r_:b9):Option (l7×(List b9)×Int):=
 Option.bind (O9 b_ written) fun x1=>
 if(!x1)=true then
  some ((⟨[], []⟩:l7), [],84)
 else
  Option.bind (V2 b_ written r_) fun⟨x4,x5,x6⟩=>
  some (x4,x5,x6)
theorem a6u (b_:l7) (written:(List b9)) (r_:b9) (r:(l7×(List b9)×Int)) (hm:L7 b_ written r_=some r):q8 Tryz.prog 23 [.agg (l7.c b_),lD 8 written b9.c, .agg (b9.c r_)] (fun x=>x= .tup [.agg (l7.c r.1),lD 8 r.2.1 b9.c,DI r.2.2]):=by
 refine zn Tryz.func23 rfl ?_;refine cy hm (a7w b_ written) fun x1 hm=> ?_
 apply vb hm<;>intro _ hm;cases hm;exact c9n (le4);refine cy hm (b2B b_ written r_) ?_;rintro⟨x4,x5,x6⟩ hm;cases hm;exact c9n (c9l _)
def a0n (r_:b9):Option (ByteArray×Int):=
 Option.bind (o9 r_) fun x1=>
 if(!x1)=true then
  some ((⟨#[]⟩:ByteArray),80)
 else
  Option.bind (F1 r_) fun x4=>
  some (x4,0)
theorem b2c (r_:b9) (r:(ByteArray×Int)) (hm:a0n r_=some r):q8 Tryz.prog 29 [.agg (b9.c r_)] (fun x=>x= .tup [.v (.string r.1),DI r.2]):=by
 refine zn Tryz.func29 rfl ?_;refine cy hm (z7 r_) fun x1 hm=> ?_
 apply vb hm<;>intro _ hm;cases hm;exact c9n (c9l _);refine cy hm (a5m r_) fun x4 hm=> ?_
 cases hm;exact c9n (c9l _)
def a0W (r_:b9) (no:Int):Option ((List c8)×Int):=
 Option.bind (o9 r_) fun x1=>
 if(!x1)=true then
  some ([],80)
 else
  Option.bind (z6 no 0 59) fun x4=>
  if(!x4)=true then
   some ([],1)
  else
   Option.bind (Q1 r_ no) fun x7=>
   some (x7,0)
theorem b2A (r_:b9) (no:Int) (r:((List c8)×Int)) (hm:a0W r_ no=some r):q8 Tryz.prog 33 [.agg (b9.c r_),DI no] (fun x=>x= .tup [lD 5 r.1 c8.c,DI r.2]):=by
 refine zn Tryz.func33 rfl ?_;refine cy hm (z7 r_) fun x1 hm=> ?_
 apply vb hm<;>intro _ hm;cases hm;exact c9n (le5);refine cy hm (D8 no 0 59) fun x4 hm=> ?_
 apply vb hm<;>intro _ hm;cases hm;exact c9n (le5);refine cy hm (a3d r_ no) fun x7 hm=> ?_
 cases hm;exact c9n (c9l _)
def a3S:Option Bool:=
 Option.bind (a0n (⟨(⟨2,0⟩:o6),5,10,12,(⟨0,0⟩:o6),(⟨#[97,32,108,97,109,112,32,111,110,32,116,104,101,32,113,117,97,121]⟩:ByteArray)⟩:b9)) fun⟨x1,x2⟩=>
 Option.bind (a0W (⟨(⟨2,0⟩:o6),5,10,12,(⟨0,0⟩:o6),(⟨#[97,32,108,97,109,112,32,111,110,32,116,104,101,32,113,117,97,121]⟩:ByteArray)⟩:b9) 3) fun⟨x4,x5⟩=>
 Option.bind (L7 (⟨[], []⟩:l7) [] (⟨(⟨2,0⟩:o6),5,10,12,(⟨0,0⟩:o6),(⟨#[97,32,108,97,109,112,32,111,110,32,116,104,101,32,113,117,97,121]⟩:ByteArray)⟩:b9)) fun⟨x7,x8,x9⟩=>
 Option.bind (B4 x7 ([2,0]:List Int)) fun x11=>
 Option.bind (B3 x11) fun⟨x13,x14⟩=>
 Option.bind (B4 x7 ([3,0]:List Int)) fun x16=>
 Option.bind (B3 x16) fun⟨x18,x19⟩=>
 Option.bind (B4 x7 ([2,0,0,0]:List Int)) fun x21=>
 Option.bind (B3 x21) fun⟨x23,x24⟩=>
 Option.bind (B4 x7 ([2,0,1,9]:List Int)) fun x26=>
 Option.bind (B3 x26) fun⟨x28,x29⟩=>
 Option.bind (a1O x7) fun x31=>
 Option.bind (B4 x31 ([0,0]:List Int)) fun x33=>
 Option.bind (B3 x33) fun⟨x35,x36⟩=>
 if(x2==0)=true then
  if(x5==0)=true then
   if(x9==0)=true then
    if((x8.length:Int)==1)=true then
     if((x4.length:Int)==2)=true then
      if((x7.Thread.length:Int)==0)=true then
       if((x7.Loose.length:Int)==2)=true then
        Option.bind (idx x4 0) fun e45=>
        if((e45.No==3)&&((e45.Part==0)&&((e45.Parts==2)&&((e45.Size==24)&&(e45.Text.toList==(⟨#[50,32,48,32,53,32,49,48,32,49,50,32,48,32,48,32,97,32,108,97,109,112,32,111]⟩:ByteArray).toList)))))=true then
         Option.bind (idx x4 1) fun e48=>
         if((e48.No==3)&&((e48.Part==1)&&((e48.Parts==2)&&((e48.Size==10)&&(e48.Text.toList==(⟨#[110,32,116,104,101,32,113,117,97,121]⟩:ByteArray).toList)))))=true then
          if(x1.toList==(⟨#[50,32,48,32,53,32,49,48,32,49,50,32,48,32,48,32,97,32,108,97,109,112,32,111,110,32,116,104,101,32,113,117,97,121]⟩:ByteArray).toList)=true then
           if((x14.length:Int)==1)=true then
            if((x19.length:Int)==1)=true then
             if((x24.length:Int)==0)=true then
              if((x29.length:Int)==0)=true then
               if((x36.length:Int)==1)=true then
                if((x35.Thread.length:Int)==2)=true then
                 some ((x35.Loose.length:Int)==0)
                else
                 some false
               else
                some false
              else
               some false
             else
              some false
            else
             some false
           else
            some false
          else
           some false
         else
          some false
        else
         some false
       else
        some false
      else
       some false
     else
      some false
    else
     some false
   else
    some false
  else
   some false
 else
  some false
theorem b7r (r:Bool) (hm:a3S=some r):q8 Tryz.prog 14 [] (fun x=>x=DB r):=by
 refine zn Tryz.func14 rfl ?_;refine cy hm (b2c ((⟨(⟨2,0⟩:o6),5,10,12,(⟨0,0⟩:o6),(⟨#[97,32,108,97,109,112,32,111,110,32,116,104,101,32,113,117,97,121]⟩:ByteArray)⟩:b9))) ?_;rintro⟨x1,x2⟩ hm;refine cy hm (b2A ((⟨(⟨2,0⟩:o6),5,10,12,(⟨0,0⟩:o6),(⟨#[97,32,108,97,109,112,32,111,110,32,116,104,101,32,113,117,97,121]⟩:ByteArray)⟩:b9)) 3) ?_;rintro⟨x4,x5⟩ hm;obtain⟨⟨x7,x8,x9⟩,hx10,hm⟩:=j0 hm;refine a6l.det ((a6u ((⟨[], []⟩:l7)) [] ((⟨(⟨2,0⟩:o6),5,10,12,(⟨0,0⟩:o6),(⟨#[97,32,108,97,109,112,32,111,110,32,116,104,101,32,113,117,97,121]⟩:ByteArray)⟩:b9)) _ hx10).le ⟨⟨_,rfl,⟨c9m,c9m,trivial⟩⟩,c9m,c9l _,trivial⟩) ?_;refine⟨([2,0]:List Int).flatMap cI,([2,0]:List Int).length,⟨rfl,rfl⟩, ?_⟩;refine co hm (Z9 x7 (([2,0]:List Int))) fun x11 hm=> ?_
 refine cy hm (a0c x11) ?_;rintro⟨x13,x14⟩ hm;refine⟨([3,0]:List Int).flatMap cI,([3,0]:List Int).length,⟨rfl,rfl⟩, ?_⟩;refine co hm (Z9 x7 (([3,0]:List Int))) fun x16 hm=> ?_
 refine cy hm (a0c x16) ?_;rintro⟨x18,x19⟩ hm;refine⟨([2,0,0,0]:List Int).flatMap cI,([2,0,0,0]:List Int).length,⟨rfl,rfl⟩, ?_⟩;refine co hm (Z9 x7 (([2,0,0,0]:List Int))) fun x21 hm=> ?_
 refine cy hm (a0c x21) ?_;rintro⟨x23,x24⟩ hm;refine⟨([2,0,1,9]:List Int).flatMap cI,([2,0,1,9]:List Int).length,⟨rfl,rfl⟩, ?_⟩;refine co hm (Z9 x7 (([2,0,1,9]:List Int))) fun x26 hm=> ?_
 refine cy hm (a0c x26) ?_;rintro⟨x28,x29⟩ hm;refine cy hm (b4U x7) fun x31 hm=> ?_
 refine⟨([0,0]:List Int).flatMap cI,([0,0]:List Int).length,⟨rfl,rfl⟩, ?_⟩;refine co hm (Z9 x31 (([0,0]:List Int))) fun x33 hm=> ?_
 refine cy hm (a0c x33) ?_;rintro⟨x35,x36⟩ hm;apply vb hm<;>intro _ hm;apply vb hm<;>intro _ hm;apply vb hm<;>intro _ hm;apply vb hm<;>intro _ hm;apply vb hm<;>intro _ hm;apply vb hm<;>intro _ hm;apply vb hm<;>intro _ hm;refine ei hm fun _ hm=> ?_
 apply vb hm<;>intro _ hm;refine ei hm fun _ hm=> ?_
 apply vb hm<;>intro _ hm;apply vb hm<;>intro _ hm;apply vb hm<;>intro _ hm;apply vb hm<;>intro _ hm;apply vb hm<;>intro _ hm;apply vb hm<;>intro _ hm;apply vb hm<;>intro _ hm;apply vb hm<;>intro _ hm;exact hm.rr;exact hm.rr;exact hm.rr;exact hm.rr;exact hm.rr;exact hm.rr;exact hm.rr;exact hm.rr;exact hm.rr;exact hm.rr;exact hm.rr;exact hm.rr;exact hm.rr;exact hm.rr;exact hm.rr;exact hm.rr;exact hm.rr
def a1d (n:Int) (low:Int) (high:Int):Option Bool:=
 if(decide (n≥low))=true then
  some (decide (n≤high))
 else
  some false
theorem a5u (n:Int) (low:Int) (high:Int) (r:Bool) (hm:a1d n low high=some r):q8 Tryz.prog 97 [DI n,DI low,DI high] (fun x=>x=DB r):=by
 refine zn Tryz.func97 rfl ?_;apply vb hm<;>intro _ hm;exact hm.rr;exact hm.rr
def a0g (x:o6):Option Bool:=
 Option.bind (a1d x.Depot 0 5) fun x1=>
 if x1=true then
  Option.bind (a1d x.No 0 9999) fun x4=>
  some x4
 else
  some false
theorem a7M (x:o6) (r:Bool) (hm:a0g x=some r):q8 Tryz.prog 98 [.agg (o6.c x)] (fun x=>x=DB r):=by
 refine zn Tryz.func98 rfl ?_;refine cy hm (a5u x.Depot 0 5) fun x1 hm=> ?_
 apply vb hm<;>intro _ hm;refine cy hm (a5u x.No 0 9999) fun x4 hm=> ?_
 exact hm.rr;exact hm.rr
def P3 (s:ByteArray):Int→Option (Sum Int (Sum Int Bool)):=fun i7=>
 if(decide (i7<(s.size:Int)))=true then
  Option.bind (idx s.data.toList i7) fun ch14=>
  if(decide ((ch14.toNat:Int)<32))=true then
   some (.inr (.inr false))
  else
   Option.bind (idx s.data.toList i7) fun ch16=>
   if(decide ((ch16.toNat:Int)>126))=true then
    some (.inr (.inr false))
   else
    some (.inl (W (i7+1)))
 else
  some (.inr (.inl i7))
def a1N (s:ByteArray):Option Bool:=
 if(decide ((s.size:Int)>160))=true then
  some false
 else
  Option.bind (w6 (P3 s) 0) fun e=>
  match e with
  | .inl i18=>
   some true
  | .inr rr19=>
   some rr19
theorem b4E (s:ByteArray) (r:Bool) (hm:a1N s=some r):q8 Tryz.prog 99 [.v (.string s)] (fun x=>x=DB r):=by
 refine zn Tryz.func99 rfl ?_;apply vb hm<;>intro _ hm;exact hm.rr;obtain⟨ev20,he,hk21⟩:=j0 hm;refine c9o (P3 s) (fun i7=>⟨[(0, .v (.string s)),(3,DI i7)], [],0⟩) 0 (sb 0) he ?_;rintro fu22 i7 b hm hi23;apply vb hm<;>intro _ hm;obtain⟨ch25,hx,hm⟩:=j0 hm;refine⟨ch25,a2l hx, ?_⟩;apply vb hm<;>intro _ hm;cases hm;cases hi23;have hm:=hk21;exact hm.rr;obtain⟨ch27,hx,hm⟩:=j0 hm;refine⟨ch27,a2l hx, ?_⟩;apply vb hm<;>intro _ hm;cases hm;cases hi23;have hm:=hk21;exact hm.rr;cases hm;exact⟨(_,(W (i7+1))),sb 0,hi23,D7 _⟩;cases hm;cases hi23;have hm:=hk21;exact hm.rr
def G3 (r_:b9):Option Int:=
 Option.bind (a0g r_.At) fun x1=>
 if(!x1)=true then
  some 80
 else
  Option.bind (a1d r_.Kind 0 60) fun x4=>
  if(!x4)=true then
   some 80
  else
   Option.bind (a1d r_.Day 0 100000) fun x7=>
   if(!x7)=true then
    some 80
   else
    Option.bind (a1d r_.Known 0 100000) fun x10=>
    if(!x10)=true then
     some 80
    else
     Option.bind (a1N r_.Text) fun x13=>
     if(!x13)=true then
      some 80
     else
      if(r_.Kind==0)=true then
       if(r_.Day !=0)=true then
        some 80
       else
        if(!(r_.Text.toList==(⟨#[]⟩:ByteArray).toList))=true then
         some 80
        else
         Option.bind (a0g r_.Of) fun x19=>
         if(!x19)=true then
          some 80
         else
          if(r_.Of.Depot !=r_.At.Depot)=true then
           some 80
          else
           if(decide (r_.Of.No≥r_.At.No))=true then
            some 80
           else
            some 0
      else
       if(!((r_.Of.Depot==0)&&(r_.Of.No==0)))=true then
        some 80
       else
        some 0
theorem a0d (r_:b9) (r:Int) (hm:G3 r_=some r):q8 Tryz.prog 37 [.agg (b9.c r_)] (fun x=>x=DI r):=by
 refine zn Tryz.func37 rfl ?_;refine cy hm (a7M r_.At) fun x1 hm=> ?_
 apply vb hm<;>intro _ hm;exact hm.rr;refine cy hm (a5u r_.Kind 0 60) fun x4 hm=> ?_
 apply vb hm<;>intro _ hm;exact hm.rr;refine cy hm (a5u r_.Day 0 100000) fun x7 hm=> ?_
 apply vb hm<;>intro _ hm;exact hm.rr;refine cy hm (a5u r_.Known 0 100000) fun x10 hm=> ?_
 apply vb hm<;>intro _ hm;exact hm.rr;refine cy hm (b4E r_.Text) fun x13 hm=> ?_
 apply vb hm<;>intro _ hm;exact hm.rr;apply vb hm<;>intro _ hm;apply vb hm<;>intro _ hm;exact hm.rr;apply vb hm<;>intro _ hm;exact hm.rr;refine cy hm (a7M r_.Of) fun x19 hm=> ?_
 apply vb hm<;>intro _ hm;exact hm.rr;apply vb hm<;>intro _ hm;exact hm.rr;apply vb hm<;>intro _ hm;exact hm.rr;exact hm.rr;apply vb hm<;>intro _ hm;exact hm.rr;exact hm.rr
def a0V:(Int×ByteArray)→Option (Sum (Int×ByteArray) (Int×ByteArray)):=fun(n2,s3)=>
 if(decide (n2≥10))=true then
  gd ((((a1x ([(IntKind.u8.wrap (W (48+((W (n2.tdiv 10)).tmod 10))))]:List Int)).size+s3.size:Nat):Int)≤9223372036854775807)<|
  some (.inl ((W (n2.tdiv 10)),((a1x ([(IntKind.u8.wrap (W (48+((W (n2.tdiv 10)).tmod 10))))]:List Int))++s3)))
 else
  some (.inr (n2,s3))
def M4 (n:Int):Option ByteArray:=
 Option.bind (w6 a0V (n,(a1x ([(IntKind.u8.wrap (W (48+(n.tmod 10))))]:List Int)))) fun(n6,s7)=>
 some s7
theorem W7 (n:Int) (r:ByteArray) (hm:M4 n=some r):q8 Tryz.prog 143 [DI n] (fun x=>x= .v (.string r)):=by
 refine zn Tryz.func143 rfl ?_;refine⟨by decide, ?_⟩;refine⟨([(IntKind.u8.wrap (W (48+(n.tmod 10))))]:List Int).flatMap a6s,([(IntKind.u8.wrap (W (48+(n.tmod 10))))]:List Int).length,⟨rfl,rfl⟩, ?_⟩;refine⟨⟨rfl,5,by kernel_rfl,by kernel_rfl,by kernel_rfl⟩,([(IntKind.u8.wrap (W (48+(n.tmod 10))))]:List Int),b5r (fun _=>rfl) _, ?_⟩;obtain⟨ev8,he,hk9⟩:=j0 hm;refine c9o a0V (fun(n2,s3)=>⟨[(0,DI n2),(3, .v (.string s3))], [],1⟩) (n,(a1x ([(IntKind.u8.wrap (W (48+(n.tmod 10))))]:List Int))) (sb 1) he ?_;rintro fu10 ⟨n2,s3⟩ b hm hi11;apply vb hm<;>intro _ hm;refine⟨by decide, ?_⟩;refine⟨by decide, ?_⟩;refine⟨([(IntKind.u8.wrap (W (48+((W (n2.tdiv 10)).tmod 10))))]:List Int).flatMap a6s,([(IntKind.u8.wrap (W (48+((W (n2.tdiv 10)).tmod 10))))]:List Int).length,⟨rfl,rfl⟩, ?_⟩;refine⟨⟨rfl,5,by kernel_rfl,by kernel_rfl,by kernel_rfl⟩,([(IntKind.u8.wrap (W (48+((W (n2.tdiv 10)).tmod 10))))]:List Int),b5r (fun _=>rfl) _, ?_⟩;obtain⟨hg,hm⟩:=j2 hm;refine⟨hg, ?_⟩;cases hm;exact⟨(_,((W (n2.tdiv 10)),((a1x ([(IntKind.u8.wrap (W (48+((W (n2.tdiv 10)).tmod 10))))]:List Int))++s3))),sb 1,hi11,D7 _⟩;cases hm;cases hi11;have hm:=hk9;cases hm;exact c9n (c9l _)
def a3T (r_:b9):Option ByteArray:=
 Option.bind (M4 r_.At.Depot) fun x1=>
 gd (((x1.size+(⟨#[32]⟩:ByteArray).size:Nat):Int)≤9223372036854775807)<|
 Option.bind (M4 r_.At.No) fun x3=>
 gd ((((x1++(⟨#[32]⟩:ByteArray)).size+x3.size:Nat):Int)≤9223372036854775807)<|
 gd (((((x1++(⟨#[32]⟩:ByteArray))++x3).size+(⟨#[32]⟩:ByteArray).size:Nat):Int)≤9223372036854775807)<|
 Option.bind (M4 r_.Kind) fun x5=>
 gd ((((((x1++(⟨#[32]⟩:ByteArray))++x3)++(⟨#[32]⟩:ByteArray)).size+x5.size:Nat):Int)≤9223372036854775807)<|
 gd (((((((x1++(⟨#[32]⟩:ByteArray))++x3)++(⟨#[32]⟩:ByteArray))++x5).size+(⟨#[32]⟩:ByteArray).size:Nat):Int)≤9223372036854775807)<|
 Option.bind (M4 r_.Day) fun x7=>
 gd ((((((((x1++(⟨#[32]⟩:ByteArray))++x3)++(⟨#[32]⟩:ByteArray))++x5)++(⟨#[32]⟩:ByteArray)).size+x7.size:Nat):Int)≤9223372036854775807)<|
 gd (((((((((x1++(⟨#[32]⟩:ByteArray))++x3)++(⟨#[32]⟩:ByteArray))++x5)++(⟨#[32]⟩:ByteArray))++x7).size+(⟨#[32]⟩:ByteArray).size:Nat):Int)≤9223372036854775807)<|
 Option.bind (M4 r_.Known) fun x9=>
 gd ((((((((((x1++(⟨#[32]⟩:ByteArray))++x3)++(⟨#[32]⟩:ByteArray))++x5)++(⟨#[32]⟩:ByteArray))++x7)++(⟨#[32]⟩:ByteArray)).size+x9.size:Nat):Int)≤9223372036854775807)<|
 gd (((((((((((x1++(⟨#[32]⟩:ByteArray))++x3)++(⟨#[32]⟩:ByteArray))++x5)++(⟨#[32]⟩:ByteArray))++x7)++(⟨#[32]⟩:ByteArray))++x9).size+(⟨#[32]⟩:ByteArray).size:Nat):Int)≤9223372036854775807)<|
 Option.bind (M4 r_.Of.Depot) fun x11=>
 gd ((((((((((((x1++(⟨#[32]⟩:ByteArray))++x3)++(⟨#[32]⟩:ByteArray))++x5)++(⟨#[32]⟩:ByteArray))++x7)++(⟨#[32]⟩:ByteArray))++x9)++(⟨#[32]⟩:ByteArray)).size+x11.size:Nat):Int)≤9223372036854775807)<|
 gd (((((((((((((x1++(⟨#[32]⟩:ByteArray))++x3)++(⟨#[32]⟩:ByteArray))++x5)++(⟨#[32]⟩:ByteArray))++x7)++(⟨#[32]⟩:ByteArray))++x9)++(⟨#[32]⟩:ByteArray))++x11).size+(⟨#[32]⟩:ByteArray).size:Nat):Int)≤9223372036854775807)<|
 Option.bind (M4 r_.Of.No) fun x13=>
 gd ((((((((((((((x1++(⟨#[32]⟩:ByteArray))++x3)++(⟨#[32]⟩:ByteArray))++x5)++(⟨#[32]⟩:ByteArray))++x7)++(⟨#[32]⟩:ByteArray))++x9)++(⟨#[32]⟩:ByteArray))++x11)++(⟨#[32]⟩:ByteArray)).size+x13.size:Nat):Int)≤9223372036854775807)<|
 gd (((((((((((((((x1++(⟨#[32]⟩:ByteArray))++x3)++(⟨#[32]⟩:ByteArray))++x5)++(⟨#[32]⟩:ByteArray))++x7)++(⟨#[32]⟩:ByteArray))++x9)++(⟨#[32]⟩:ByteArray))++x11)++(⟨#[32]⟩:ByteArray))++x13).size+(⟨#[32]⟩:ByteArray).size:Nat):Int)≤9223372036854775807)<|
 gd ((((((((((((((((x1++(⟨#[32]⟩:ByteArray))++x3)++(⟨#[32]⟩:ByteArray))++x5)++(⟨#[32]⟩:ByteArray))++x7)++(⟨#[32]⟩:ByteArray))++x9)++(⟨#[32]⟩:ByteArray))++x11)++(⟨#[32]⟩:ByteArray))++x13)++(⟨#[32]⟩:ByteArray)).size+r_.Text.size:Nat):Int)≤9223372036854775807)<|
 some ((((((((((((((x1++(⟨#[32]⟩:ByteArray))++x3)++(⟨#[32]⟩:ByteArray))++x5)++(⟨#[32]⟩:ByteArray))++x7)++(⟨#[32]⟩:ByteArray))++x9)++(⟨#[32]⟩:ByteArray))++x11)++(⟨#[32]⟩:ByteArray))++x13)++(⟨#[32]⟩:ByteArray))++r_.Text)
theorem b7q (r_:b9) (r:ByteArray) (hm:a3T r_=some r):q8 Tryz.prog 93 [.agg (b9.c r_)] (fun x=>x= .v (.string r)):=by
 refine zy c8K [] [] [] Tryz.func93 rfl ?_;refine⟨rfl, ?_⟩;refine cy hm (W7 r_.At.Depot) fun x1 hm=> ?_
 obtain⟨hg,hm⟩:=j2 hm;refine⟨hg, ?_⟩;refine cy hm (W7 r_.At.No) fun x3 hm=> ?_
 obtain⟨hg,hm⟩:=j2 hm;refine⟨hg, ?_⟩;obtain⟨hg,hm⟩:=j2 hm;refine⟨hg, ?_⟩;refine cy hm (W7 r_.Kind) fun x5 hm=> ?_
 obtain⟨hg,hm⟩:=j2 hm;refine⟨hg, ?_⟩;obtain⟨hg,hm⟩:=j2 hm;refine⟨hg, ?_⟩;refine cy hm (W7 r_.Day) fun x7 hm=> ?_
 obtain⟨hg,hm⟩:=j2 hm;refine⟨hg, ?_⟩;obtain⟨hg,hm⟩:=j2 hm;refine⟨hg, ?_⟩;refine cy hm (W7 r_.Known) fun x9 hm=> ?_
 obtain⟨hg,hm⟩:=j2 hm;refine⟨hg, ?_⟩;obtain⟨hg,hm⟩:=j2 hm;refine⟨hg, ?_⟩;refine⟨rfl, ?_⟩;refine cy hm (W7 r_.Of.Depot) fun x11 hm=> ?_
 obtain⟨hg,hm⟩:=j2 hm;refine⟨hg, ?_⟩;obtain⟨hg,hm⟩:=j2 hm;refine⟨hg, ?_⟩;refine cy hm (W7 r_.Of.No) fun x13 hm=> ?_
 obtain⟨hg,hm⟩:=j2 hm;refine⟨hg, ?_⟩;obtain⟨hg,hm⟩:=j2 hm;refine⟨hg, ?_⟩;obtain⟨hg,hm⟩:=j2 hm;refine⟨hg, ?_⟩;cases hm;exact c9n (c9l _)
def a7t (b_:l7):Option (List c8):=
 gd ((([]:List c8).length+b_.Thread.length)*48≤140737488355328∧([]:List c8).length+b_.Thread.length≤9223372036854775807)<|
 gd (((([]:List c8)++b_.Thread).length+b_.Loose.length)*48≤140737488355328∧(([]:List c8)++b_.Thread).length+b_.Loose.length≤9223372036854775807)<|
 some ((([]:List c8)++b_.Thread)++b_.Loose)
theorem c1H (b_:l7) (r:(List c8)) (hm:a7t b_=some r):q8 Tryz.prog 73 [.agg (l7.c b_)] (fun x=>x=lD 5 r c8.c):=by
 refine zy c8F [] [] [] Tryz.func73 rfl ?_;refine⟨rfl, ?_⟩;refine⟨([]:List c8).flatMap c8.c,([]:List c8).length,⟨rfl,rfl⟩, ?_⟩;obtain⟨hg,hm⟩:=j2 hm;refine⟨hg,_,_,o8 (c:=c8.c) (l:=(([]:List c8):List c8)) (r:=(b_.Thread:List c8)), ?_⟩;obtain⟨hg,hm⟩:=j2 hm;refine⟨hg,_,_,o8 (c:=c8.c) (l:=((([]:List c8)++b_.Thread):List c8)) (r:=(b_.Loose:List c8)), ?_⟩;cases hm;exact c9n (c9l _)
def a6r (l:(List b9)):(Int×Int×Int×Int×Int×Int×Int)→Option (Sum (Int×Int×Int×Int×Int×Int×Int) (Int×Int×Int×Int×Int×Int×Int)):=fun(i15,v16,v17,v18,v19,v20,v21)=>
 if(decide (i15<(l.length:Int)))=true then
  Option.bind (idx l i15) fun e37=>
  gd (0≤e37.At.Depot∧e37.At.Depot<6)<|
  Option.bind (idx [v16,v17,v18,v19,v20,v21] e37.At.Depot) fun e39=>
  gd (0≤e37.At.Depot∧e37.At.Depot<6)<|
  Option.bind (idx [v16,v17,v18,v19,v20,v21] e37.At.Depot) fun e41=>
  Option.bind (some (W (e39+1))) fun y43=>
  Option.bind (some (if(e37.At.Depot==0)=true then y43 else v16)) fun q44=>
  Option.bind (some (if(e37.At.Depot==1)=true then y43 else v17)) fun q45=>
  Option.bind (some (if(e37.At.Depot==2)=true then y43 else v18)) fun q46=>
  Option.bind (some (if(e37.At.Depot==3)=true then y43 else v19)) fun q47=>
  Option.bind (some (if(e37.At.Depot==4)=true then y43 else v20)) fun q48=>
  Option.bind (some (if(e37.At.Depot==5)=true then y43 else v21)) fun q49=>
  some (.inl ((W (i15+1)),q44,q45,q46,q47,q48,q49))
 else
  some (.inr (i15,v16,v17,v18,v19,v20,v21))
def a0J (l:(List b9)):Option (Int×Int×Int×Int×Int×Int):=
 Option.bind (w6 (a6r l) (0,0,0,0,0,0,0)) fun(i50,v51,v52,v53,v54,v55,v56)=>
 some (v51,v52,v53,v54,v55,v56)
theorem a3W (l:(List b9)) (r:(Int×Int×Int×Int×Int×Int)) (hm:a0J l=some r):q8 Tryz.prog 89 [lD 8 l b9.c] (fun x=>x= .agg [DI r.1,DI r.2.1,DI r.2.2.1,DI r.2.2.2.1,DI r.2.2.2.2.1,DI r.2.2.2.2.2]):=by
 refine zn Tryz.func89 rfl ?_;obtain⟨ev57,he,hk58⟩:=j0 hm;refine c9o (a6r l) (fun(i15,v16,v17,v18,v19,v20,v21)=>⟨[(0,lD 8 l b9.c),(2, .own 0 0),(3, .own 1 0),(4,DI i15)], [(0, .blk [DI 0,DI 0,DI 0,DI 0,DI 0,DI 0] 78),(1, .blk [DI v16,DI v17,DI v18,DI v19,DI v20,DI v21] 78)],2⟩) (0,0,0,0,0,0,0) (sb 2) he ?_;rintro fu59 ⟨i15,v16,v17,v18,v19,v20,v21⟩ b hm hi60;apply vb hm<;>intro _ hm;refine ei hm fun _ hm=> ?_
 obtain⟨hg,hm⟩:=j2 hm;refine⟨hg, ?_⟩;obtain⟨e64,hx65,hm⟩:=j0 hm;refine⟨_,ldx (r:= [DI e64]) (c:=cI) (z:=1) (pre:= []) (post:= []) (b:=0) (off:=0) (fun _=>rfl) hx65 rfl rfl (by omega) rfl, ?_⟩;obtain⟨hg,hm⟩:=j2 hm;refine⟨hg, ?_⟩;obtain⟨e66,hx67,hm⟩:=j0 hm;obtain⟨y68,hy,hm⟩:=j0 hm;obtain⟨q69,hq0,hm⟩:=j0 hm;obtain⟨q70,hq1,hm⟩:=j0 hm;obtain⟨q71,hq2,hm⟩:=j0 hm;obtain⟨q72,hq3,hm⟩:=j0 hm;obtain⟨q73,hq4,hm⟩:=j0 hm;obtain⟨q74,hq5,hm⟩:=j0 hm;refine⟨[DI q69,DI q70,DI q71,DI q72,DI q73,DI q74],stx (y:=y68) (ys:= [q69,q70,q71,q72,q73,q74]) (c:=cI) (z:=1) (pre:= []) (post:= []) (b:=0) (off:=0) (fun _=>rfl) hx67 rfl rfl (by omega) (by cases hy;rfl) rfl (by cases hq0;cases hq1;cases hq2;cases hq3;cases hq4;cases hq5;exact b5R hx67), ?_⟩;clear hy hq0 hq1 hq2 hq3 hq4 hq5;cases hm;exact⟨(_,((W (i15+1)),q69,q70,q71,q72,q73,q74)),sb 2,hi60,D7 _⟩;cases hm;cases hi60;have hm:=hk58;cases hm;exact c9n (c9l _)
def a4a (l:(List b9)) (r_:b9):Option Bool:=
 Option.bind (G3 r_) fun x1=>
 if(x1==0)=true then
  if(decide ((l.length:Int)<60))=true then
   Option.bind (a0J l) fun x5=>
   Option.bind (idx [x5.1,x5.2.1,x5.2.2.1,x5.2.2.2.1,x5.2.2.2.2.1,x5.2.2.2.2.2] r_.At.Depot) fun e7=>
   some (r_.At.No==e7)
  else
   some false
 else
  some false
theorem b8m (l:(List b9)) (r_:b9) (r:Bool) (hm:a4a l r_=some r):q8 Tryz.prog 75 [lD 8 l b9.c, .agg (b9.c r_)] (fun x=>x=DB r):=by
 refine zy c8y [] [] [] Tryz.func75 rfl ?_;refine⟨rfl, ?_⟩;refine cy hm (a0d r_) fun x1 hm=> ?_
 apply vb hm<;>intro _ hm;apply vb hm<;>intro _ hm;refine cy hm (a3W l) fun x5 hm=> ?_
 obtain⟨e7,hx8,hm⟩:=j0 hm;refine⟨a5r hx8,_,ldx (c:=cI) (z:=1) (pre:= []) (post:= []) (b:=0) (off:=0) (fun _=>rfl) hx8 rfl rfl (by omega) rfl, ?_⟩;exact hm.rr;exact hm.rr;exact hm.rr
def N3 (no:Int) (x1:ByteArray):((List c8)×Int)→Option (Sum ((List c8)×Int) ((List c8)×Int)):=fun(out4,i5)=>
 if(decide (i5<(W ((W ((W ((x1.size:Int)+24))-1)).tdiv 24))))=true then
  gd ((0≤(if(W ((W (i5+1))*24))<(x1.size:Int)then(W ((W (i5+1))*24))else(x1.size:Int))∧(if(W ((W (i5+1))*24))<(x1.size:Int)then(W ((W (i5+1))*24))else(x1.size:Int))≤(x1.size:Int))∧(0≤(W (i5*24))∧(W (i5*24))≤(if(W ((W (i5+1))*24))<(x1.size:Int)then(W ((W (i5+1))*24))else(x1.size:Int))))<|
  gd ((out4.length+([(⟨no,i5,(W ((W ((W ((x1.size:Int)+24))-1)).tdiv 24)),((x1.extract (((W (i5*24))).toNat) (((if(W ((W (i5+1))*24))<(x1.size:Int)then(W ((W (i5+1))*24))else(x1.size:Int))).toNat)).size:Int),(x1.extract (((W (i5*24))).toNat) (((if(W ((W (i5+1))*24))<(x1.size:Int)then(W ((W (i5+1))*24))else(x1.size:Int))).toNat))⟩:c8)]:List c8).length)*48≤140737488355328∧out4.length+([(⟨no,i5,(W ((W ((W ((x1.size:Int)+24))-1)).tdiv 24)),((x1.extract (((W (i5*24))).toNat) (((if(W ((W (i5+1))*24))<(x1.size:Int)then(W ((W (i5+1))*24))else(x1.size:Int))).toNat)).size:Int),(x1.extract (((W (i5*24))).toNat) (((if(W ((W (i5+1))*24))<(x1.size:Int)then(W ((W (i5+1))*24))else(x1.size:Int))).toNat))⟩:c8)]:List c8).length≤9223372036854775807)<|
  some (.inl ((out4++([(⟨no,i5,(W ((W ((W ((x1.size:Int)+24))-1)).tdiv 24)),((x1.extract (((W (i5*24))).toNat) (((if(W ((W (i5+1))*24))<(x1.size:Int)then(W ((W (i5+1))*24))else(x1.size:Int))).toNat)).size:Int),(x1.extract (((W (i5*24))).toNat) (((if(W ((W (i5+1))*24))<(x1.size:Int)then(W ((W (i5+1))*24))else(x1.size:Int))).toNat))⟩:c8)]:List c8)),(W (i5+1))))
 else
  some (.inr (out4,i5))
def a1p (r_:b9) (no:Int):Option (List c8):=
 Option.bind (a3T r_) fun x1=>
 Option.bind (w6 (N3 no x1) ([],0)) fun(out8,i9)=>
 some out8
theorem a8X (r_:b9) (no:Int) (r:(List c8)) (hm:a1p r_ no=some r):q8 Tryz.prog 87 [.agg (b9.c r_),DI no] (fun x=>x=lD 5 r c8.c):=by
 refine zn Tryz.func87 rfl ?_;refine cy hm (b7q r_) fun x1 hm=> ?_
 refine⟨by decide, ?_⟩;obtain⟨ev10,he,hk11⟩:=j0 hm;refine c9o (N3 no x1) (fun(out4,i5)=>⟨[(1,DI no),(5, .v (.string x1)),(6,DI (W ((W ((W ((x1.size:Int)+24))-1)).tdiv 24))),(7, .row 1 5),(8,DI i5)], [(1,rE 5 out4 c8.c 53)],2⟩) ([],0) (sb 1) he ?_;rintro fu12 ⟨out4,i5⟩ b hm hi13;apply vb hm<;>intro _ hm;obtain⟨hg,hm⟩:=j2 hm;refine⟨hg.1,hg.2, ?_⟩;refine⟨([(⟨no,i5,(W ((W ((W ((x1.size:Int)+24))-1)).tdiv 24)),((x1.extract (((W (i5*24))).toNat) (((if(W ((W (i5+1))*24))<(x1.size:Int)then(W ((W (i5+1))*24))else(x1.size:Int))).toNat)).size:Int),(x1.extract (((W (i5*24))).toNat) (((if(W ((W (i5+1))*24))<(x1.size:Int)then(W ((W (i5+1))*24))else(x1.size:Int))).toNat))⟩:c8)]:List c8).flatMap c8.c,([(⟨no,i5,(W ((W ((W ((x1.size:Int)+24))-1)).tdiv 24)),((x1.extract (((W (i5*24))).toNat) (((if(W ((W (i5+1))*24))<(x1.size:Int)then(W ((W (i5+1))*24))else(x1.size:Int))).toNat)).size:Int),(x1.extract (((W (i5*24))).toNat) (((if(W ((W (i5+1))*24))<(x1.size:Int)then(W ((W (i5+1))*24))else(x1.size:Int))).toNat))⟩:c8)]:List c8).length,⟨rfl,rfl⟩, ?_⟩
 obtain⟨hg,hm⟩:=j2 hm;refine⟨hg,_,_,o8 (c:=c8.c) (l:=(out4:List c8)) (r:=(([(⟨no,i5,(W ((W ((W ((x1.size:Int)+24))-1)).tdiv 24)),((x1.extract (((W (i5*24))).toNat) (((if(W ((W (i5+1))*24))<(x1.size:Int)then(W ((W (i5+1))*24))else(x1.size:Int))).toNat)).size:Int),(x1.extract (((W (i5*24))).toNat) (((if(W ((W (i5+1))*24))<(x1.size:Int)then(W ((W (i5+1))*24))else(x1.size:Int))).toNat))⟩:c8)]:List c8):List c8)), ?_⟩
 cases hm;exact⟨(_,((out4++([(⟨no,i5,(W ((W ((W ((x1.size:Int)+24))-1)).tdiv 24)),((x1.extract (((W (i5*24))).toNat) (((if(W ((W (i5+1))*24))<(x1.size:Int)then(W ((W (i5+1))*24))else(x1.size:Int))).toNat)).size:Int),(x1.extract (((W (i5*24))).toNat) (((if(W ((W (i5+1))*24))<(x1.size:Int)then(W ((W (i5+1))*24))else(x1.size:Int))).toNat))⟩:c8)]:List c8)),(W (i5+1)))),sb 2,hi13,D7 _⟩
 cases hm;cases hi13;have hm:=hk11;cases hm;exact c9n (c9l _)
def U4 (l:(List b9)):((List c8)×Int)→Option (Sum ((List c8)×Int) ((List c8)×Int)):=fun(out6,i7)=>
 if(decide (i7<(l.length:Int)))=true then
  Option.bind (idx l i7) fun e14=>
  Option.bind (a1p e14 i7) fun x16=>
  gd ((out6.length+x16.length)*48≤140737488355328∧out6.length+x16.length≤9223372036854775807)<|
  some (.inl ((out6++x16),(W (i7+1))))
 else
  some (.inr (out6,i7))
def a5W (l:(List b9)):Option (List c8):=
 Option.bind (w6 (U4 l) ([],0)) fun(out18,i19)=>
 some out18
theorem c0z (l:(List b9)) (r:(List c8)) (hm:a5W l=some r):q8 Tryz.prog 76 [lD 8 l b9.c] (fun x=>x=lD 5 r c8.c):=by
 refine zn Tryz.func76 rfl ?_;obtain⟨ev20,he,hk21⟩:=j0 hm;refine c9o (U4 l) (fun(out6,i7)=>⟨[(0,lD 8 l b9.c),(3, .row 0 5),(4,DI i7)], [(0,rE 5 out6 c8.c 53)],1⟩) ([],0) (sb 0) he ?_;rintro fu22 ⟨out6,i7⟩ b hm hi23;apply vb hm<;>intro _ hm;refine ei hm fun e25 hm=> ?_
 refine cy hm (a8X e25 i7) fun x27 hm=> ?_
 obtain⟨hg,hm⟩:=j2 hm;refine⟨hg,_,_,o8 (c:=c8.c) (l:=(out6:List c8)) (r:=(x27:List c8)), ?_⟩;cases hm;exact⟨(_,((out6++x27),(W (i7+1)))),sb 1,hi23,D7 _⟩;cases hm;cases hi23;have hm:=hk21;cases hm;exact c9n (c9l _)
def I7 (a:(List c8)) (b_:(List c8)):(Bool×Int)→Option (Sum (Bool×Int) (Bool×Int)):=fun(same7,i8)=>
 if(decide (i8<(a.length:Int)))=true then
  if same7=true then
   Option.bind (idx a i8) fun e17=>
   Option.bind (idx b_ i8) fun e19=>
   some (.inl (((e17.No==e19.No)&&((e17.Part==e19.Part)&&((e17.Parts==e19.Parts)&&((e17.Size==e19.Size)&&(e17.Text.toList==e19.Text.toList))))),(W (i8+1))))
  else
   some (.inr (same7,i8))
 else
  some (.inr (same7,i8))
def K4 (a:(List c8)) (b_:(List c8)):Option Bool:=
 Option.bind (w6 (I7 a b_) (((a.length:Int)==(b_.length:Int)),0)) fun(same21,i22)=>
 some same21
theorem a1y (a:(List c8)) (b_:(List c8)) (r:Bool) (hm:K4 a b_=some r):q8 Tryz.prog 35 [lD 5 a c8.c,lD 5 b_ c8.c] (fun x=>x=DB r):=by
 refine zy c8I [] [] [] Tryz.func35 rfl ?_;obtain⟨ev23,he,hk24⟩:=j0 hm;refine c9o (I7 a b_) (fun(same7,i8)=>⟨[(0,lD 5 a c8.c),(1,lD 5 b_ c8.c),(5,DB same7),(6,DI i8)], [],0⟩) (((a.length:Int)==(b_.length:Int)),0) (sb 0) he ?_;rintro fu25 ⟨same7,i8⟩ b hm hi26;apply vb hm<;>intro _ hm;apply vb hm<;>intro _ hm;refine⟨rfl, ?_⟩;refine ei hm fun e29 hm=> ?_
 refine ei hm fun e31 hm=> ?_
 cases hm;exact⟨(_,(((e29.No==e31.No)&&((e29.Part==e31.Part)&&((e29.Parts==e31.Parts)&&((e29.Size==e31.Size)&&(e29.Text.toList==e31.Text.toList))))),(W (i8+1)))),sb 0,hi26,D7 _⟩;cases hm;cases hi26;have hm:=hk24;exact hm.rr;cases hm;cases hi26;have hm:=hk24;exact hm.rr
def a0S (a:l7) (b_:l7):Option Bool:=
 Option.bind (K4 a.Thread b_.Thread) fun x1=>
 Option.bind (K4 a.Loose b_.Loose) fun x3=>
 if x1=true then
  some x3
 else
  some false
theorem b2K (a:l7) (b_:l7) (r:Bool) (hm:a0S a b_=some r):q8 Tryz.prog 17 [.agg (l7.c a), .agg (l7.c b_)] (fun x=>x=DB r):=by
 refine zn Tryz.func17 rfl ?_;refine cy hm (a1y a.Thread b_.Thread) fun x1 hm=> ?_
 refine cy hm (a1y a.Loose b_.Loose) fun x3 hm=> ?_
 apply vb hm<;>intro _ hm;exact hm.rr;exact hm.rr
def E9 (a:(List b9)) (b_:(List b9)):(Bool×Int)→Option (Sum (Bool×Int) (Bool×Int)):=fun(same7,i8)=>
 if(decide (i8<(a.length:Int)))=true then
  if same7=true then
   Option.bind (idx a i8) fun e17=>
   Option.bind (idx b_ i8) fun e19=>
   some (.inl (((e17.At.Depot==e19.At.Depot)&&((e17.At.No==e19.At.No)&&((e17.Kind==e19.Kind)&&((e17.Day==e19.Day)&&((e17.Known==e19.Known)&&((e17.Of.Depot==e19.Of.Depot)&&((e17.Of.No==e19.Of.No)&&(e17.Text.toList==e19.Text.toList)))))))),(W (i8+1))))
  else
   some (.inr (same7,i8))
 else
  some (.inr (same7,i8))
def Q3 (a:(List b9)) (b_:(List b9)):Option Bool:=
 Option.bind (w6 (E9 a b_) (((a.length:Int)==(b_.length:Int)),0)) fun(same21,i22)=>
 some same21
theorem a8i (a:(List b9)) (b_:(List b9)) (r:Bool) (hm:Q3 a b_=some r):q8 Tryz.prog 18 [lD 8 a b9.c,lD 8 b_ b9.c] (fun x=>x=DB r):=by
 refine zy c8D [] [] [] Tryz.func18 rfl ?_;obtain⟨ev23,he,hk24⟩:=j0 hm;refine c9o (E9 a b_) (fun(same7,i8)=>⟨[(0,lD 8 a b9.c),(1,lD 8 b_ b9.c),(5,DB same7),(6,DI i8)], [],0⟩) (((a.length:Int)==(b_.length:Int)),0) (sb 0) he ?_;rintro fu25 ⟨same7,i8⟩ b hm hi26;apply vb hm<;>intro _ hm;apply vb hm<;>intro _ hm;refine⟨rfl, ?_⟩;refine ei hm fun e29 hm=> ?_
 refine ei hm fun e31 hm=> ?_
 cases hm;exact⟨(_,(((e29.At.Depot==e31.At.Depot)&&((e29.At.No==e31.At.No)&&((e29.Kind==e31.Kind)&&((e29.Day==e31.Day)&&((e29.Known==e31.Known)&&((e29.Of.Depot==e31.Of.Depot)&&((e29.Of.No==e31.Of.No)&&(e29.Text.toList==e31.Text.toList)))))))),(W (i8+1)))),sb 0,hi26,D7 _⟩;cases hm;cases hi26;have hm:=hk24;exact hm.rr;cases hm;cases hi26;have hm:=hk24;exact hm.rr
def M7 (l:(List b9)):Int→Option (Sum Int (Sum Int Bool)):=fun i8=>
 if(decide (i8<(l.length:Int)))=true then
  gd ((0≤i8∧i8≤(l.length:Int))∧(0≤i8∧i8≤i8))<|
  Option.bind (some (sub l 0 (i8).toNat)) fun sl17=>
  Option.bind (idx l i8) fun e18=>
  Option.bind (a4a sl17 e18) fun x20=>
  if(!x20)=true then
   some (.inr (.inr false))
  else
   some (.inl (W (i8+1)))
 else
  some (.inr (.inl i8))
def U0 (l:(List b9)):Option Bool:=
 Option.bind (w6 (M7 l) 0) fun e=>
 match e with
 | .inl i23=>
  some true
 | .inr rr24=>
  some rr24
theorem a8E (l:(List b9)) (r:Bool) (hm:U0 l=some r):q8 Tryz.prog 88 [lD 8 l b9.c] (fun x=>x=DB r):=by
 refine zy c8W [] [] [] Tryz.func88 rfl ?_;obtain⟨ev25,he,hk26⟩:=j0 hm;refine c9o (M7 l) (fun i8=>⟨[(0,lD 8 l b9.c),(3,DI i8)], [],0⟩) 0 (sb 0) he ?_;rintro fu27 i8 b hm hi28;apply vb hm<;>intro _ hm;refine⟨rfl, ?_⟩;obtain⟨hg,hm⟩:=j2 hm;obtain⟨sl30,hy,hm⟩:=j0 hm;refine⟨hg.1,hg.2,_,(V1 (c:=b9.c) (z:=8) (fun _=>rfl) _ _ _).trans (l8 _ (D6 hy)), ?_⟩;have hl:sl30.length=(i8).toNat-0:=by rw [←D6 hy];exact a0P (by omega)
 rw [←hl];refine ei hm fun e31 hm=> ?_
 refine cy hm (b8m sl30 e31) fun x33 hm=> ?_
 apply vb hm<;>intro _ hm;cases hm;cases hi28;have hm:=hk26;exact hm.rr;cases hm;exact⟨(_,(W (i8+1))),sb 0,hi28,D7 _⟩;cases hm;cases hi28;have hm:=hk26;exact hm.rr
def R5 (b_:l7) (written:(List b9)):Option Int:=
 Option.bind (U0 written) fun x1=>
 if(!x1)=true then
  some 84
 else
  Option.bind (a7t b_) fun x4=>
  Option.bind (a5W written) fun x6=>
  Option.bind (K4 x4 x6) fun x8=>
  if(!x8)=true then
   some 84
  else
   some 0
theorem a4L (b_:l7) (written:(List b9)) (r:Int) (hm:R5 b_ written=some r):q8 Tryz.prog 26 [.agg (l7.c b_),lD 8 written b9.c] (fun x=>x=DI r):=by
 refine zn Tryz.func26 rfl ?_;refine cy hm (a8E written) fun x1 hm=> ?_
 apply vb hm<;>intro _ hm;exact hm.rr;refine cy hm (c1H b_) fun x4 hm=> ?_
 refine cy hm (c0z written) fun x6 hm=> ?_
 refine cy hm (a1y x4 x6) fun x8 hm=> ?_
 apply vb hm<;>intro _ hm;exact hm.rr;exact hm.rr
def P8 (l:(List b9)) (at_:o6):Int→Option (Sum Int (Sum Int Int)):=fun i5=>
 if(decide (i5<(l.length:Int)))=true then
  Option.bind (idx l i5) fun e11=>
  if((e11.At.Depot==at_.Depot)&&(e11.At.No==at_.No))=true then
   some (.inr (.inr i5))
  else
   some (.inl (W (i5+1)))
 else
  some (.inr (.inl i5))
def a4h (l:(List b9)) (at_:o6):Option Int:=
 Option.bind (w6 (P8 l at_) 0) fun e=>
 match e with
 | .inl i14=>
  some (-1)
 | .inr rr15=>
  some rr15
theorem b8c (l:(List b9)) (at_:o6) (r:Int) (hm:a4h l at_=some r):q8 Tryz.prog 105 [lD 8 l b9.c, .agg (o6.c at_)] (fun x=>x=DI r):=by
 refine zy c8r [] [] [] Tryz.func105 rfl ?_;obtain⟨ev16,he,hk17⟩:=j0 hm;refine c9o (P8 l at_) (fun i5=>⟨[(0,lD 8 l b9.c),(3, .own 0 0),(5,DI i5)], [(0, .blk [DI at_.Depot,DI at_.No] 36)],1⟩) 0 (sb 1) he ?_;rintro fu18 i5 b hm hi19;apply vb hm<;>intro _ hm;refine⟨rfl, ?_⟩;refine ei hm fun _ hm=> ?_
 apply vb hm<;>intro _ hm;cases hm;cases hi19;have hm:=hk17;exact hm.rr;cases hm;exact⟨(_,(W (i5+1))),sb 1,hi19,D7 _⟩;cases hm;cases hi19;have hm:=hk17;exact hm.rr
def a1Z (l:(List b9)) (r_:b9):Option (Bool×Int):=
 Option.bind (G3 r_) fun x1=>
 if(x1 !=0)=true then
  some (false,80)
 else
  Option.bind (a4h l r_.At) fun x4=>
  if(decide (x4≥0))=true then
   Option.bind (idx l x4) fun e7=>
   if((e7.At.Depot==r_.At.Depot)&&((e7.At.No==r_.At.No)&&((e7.Kind==r_.Kind)&&((e7.Day==r_.Day)&&((e7.Known==r_.Known)&&((e7.Of.Depot==r_.Of.Depot)&&((e7.Of.No==r_.Of.No)&&(e7.Text.toList==r_.Text.toList))))))))=true then
    some (false,0)
   else
    some (false,82)
  else
   Option.bind (a0J l) fun x10=>
   Option.bind (idx [x10.1,x10.2.1,x10.2.2.1,x10.2.2.2.1,x10.2.2.2.2.1,x10.2.2.2.2.2] r_.At.Depot) fun e12=>
   if(decide (r_.At.No>e12))=true then
    some (false,83)
   else
    if((l.length:Int)==60)=true then
     some (false,2)
    else
     some (true,0)
theorem b1Q (l:(List b9)) (r_:b9) (r:(Bool×Int)) (hm:a1Z l r_=some r):q8 Tryz.prog 85 [lD 8 l b9.c, .agg (b9.c r_)] (fun x=>x= .tup [DB r.1,DI r.2]):=by
 refine zy c8S [] [] [] Tryz.func85 rfl ?_;refine cy hm (a0d r_) fun x1 hm=> ?_
 apply vb hm<;>intro _ hm;cases hm;exact c9n (c9l _);refine cy hm (b8c l r_.At) fun x4 hm=> ?_
 refine⟨rfl, ?_⟩;apply vb hm<;>intro h6 hm;refine ei hm fun _ hm=> ?_
 apply vb hm<;>intro _ hm;cases hm;exact c9n (c9l _);refine VIf.t h6 ?_;cases hm;exact c9n (c9l _);refine VIf.f h6 ?_;refine⟨rfl, ?_⟩;refine cy hm (a3W l) fun x10 hm=> ?_
 obtain⟨e12,hx13,hm⟩:=j0 hm;refine⟨a5r hx13,_,ldx (c:=cI) (z:=1) (pre:= []) (post:= []) (b:=0) (off:=0) (fun _=>rfl) hx13 rfl rfl (by omega) rfl, ?_⟩;apply vb hm<;>intro _ hm;cases hm;exact c9n (c9l _);apply vb hm<;>intro _ hm;cases hm;exact c9n (c9l _);cases hm;exact c9n (c9l _)
def a0U (b_:l7):Option l7:=
 gd ((([]:List c8).length+b_.Thread.length)*48≤140737488355328∧([]:List c8).length+b_.Thread.length≤9223372036854775807)<|
 gd ((([]:List c8).length+b_.Loose.length)*48≤140737488355328∧([]:List c8).length+b_.Loose.length≤9223372036854775807)<|
 some (⟨(([]:List c8)++b_.Thread),(([]:List c8)++b_.Loose)⟩:l7)
theorem c3P (b_:l7) (r:l7) (hm:a0U b_=some r):q8 Tryz.prog 86 [.agg (l7.c b_)] (fun x=>x= .agg (l7.c r)):=by
 refine zy c6y [] [] [] Tryz.func86 rfl ?_;refine⟨rfl, ?_⟩;refine⟨([]:List c8).flatMap c8.c,([]:List c8).length,⟨rfl,rfl⟩, ?_⟩;obtain⟨hg,hm⟩:=j2 hm;refine⟨hg,_,_,o8 (c:=c8.c) (l:=(([]:List c8):List c8)) (r:=(b_.Thread:List c8)), ?_⟩;refine⟨([]:List c8).flatMap c8.c,([]:List c8).length,⟨rfl,rfl⟩, ?_⟩;obtain⟨hg,hm⟩:=j2 hm;refine⟨hg,_,_,o8 (c:=c8.c) (l:=(([]:List c8):List c8)) (r:=(b_.Loose:List c8)), ?_⟩;cases hm;exact c9n (c9l _)
theorem b0D (b_:l7) (r:l7) (hm:a0U b_=some r):b6O Tryz.prog 86 [.agg (l7.c b_)] [(5,r.Thread.length,r.Thread.flatMap c8.c,53),(5,r.Loose.length,r.Loose.flatMap c8.c,53)] [.row 0 5, .row 1 5]:=by
 refine b9T (X:=⟨Tryz.prog,tt,Tryz.f86.ntmps,c6y, [80,112,155,175], [], [], [], []⟩) pok _ Tryz.func86 rfl rfl (F7 rfl) rfl ?_;refine⟨rfl, ?_⟩;refine⟨([]:List c8).flatMap c8.c,([]:List c8).length,⟨rfl,rfl⟩, ?_⟩;obtain⟨hg,hm⟩:=j2 hm;refine⟨hg,_,_,o8 (c:=c8.c) (l:=(([]:List c8):List c8)) (r:=(b_.Thread:List c8)), ?_⟩;refine⟨([]:List c8).flatMap c8.c,([]:List c8).length,⟨rfl,rfl⟩, ?_⟩;obtain⟨hg,hm⟩:=j2 hm;refine⟨hg,_,_,o8 (c:=c8.c) (l:=(([]:List c8):List c8)) (r:=(b_.Loose:List c8)), ?_⟩;cases hm;exact⟨rfl,⟨⟨rfl,rfl,rfl,rfl⟩,⟨⟨rfl,rfl,rfl,rfl⟩,rfl⟩⟩⟩
def a2D (b_:l7) (written:(List b9)) (r_:b9):Option (l7×(List b9)×Int):=
 Option.bind (R5 b_ written) fun x1=>
 if(x1 !=0)=true then
  some ((⟨[], []⟩:l7), [],84)
 else
  Option.bind (a1Z written r_) fun⟨x4,x5⟩=>
  if(x5 !=0)=true then
   some ((⟨[], []⟩:l7), [],x5)
  else
   Option.bind (a0U b_) fun x8=>
   gd ((([]:List b9).length+written.length)*72≤140737488355328∧([]:List b9).length+written.length≤9223372036854775807)<|
   if x4=true then
    Option.bind (a1p r_ ((([]:List b9)++written).length:Int)) fun x11=>
    gd ((x8.Loose.length+x11.length)*48≤140737488355328∧x8.Loose.length+x11.length≤9223372036854775807)<|
    gd (((([]:List b9)++written).length+([r_]:List b9).length)*72≤140737488355328∧(([]:List b9)++written).length+([r_]:List b9).length≤9223372036854775807)<|
    some ((⟨x8.Thread,(x8.Loose++x11)⟩:l7),((([]:List b9)++written)++([r_]:List b9)),0)
   else
    some (x8,(([]:List b9)++written),0)
theorem b6L (b_:l7) (written:(List b9)) (r_:b9) (r:(l7×(List b9)×Int)) (hm:a2D b_ written r_=some r):q8 Tryz.prog 24 [.agg (l7.c b_),lD 8 written b9.c, .agg (b9.c r_)] (fun x=>x= .tup [.agg (l7.c r.1),lD 8 r.2.1 b9.c,DI r.2.2]):=by
 refine zy c8z [80,112,155,175] [86] [] Tryz.func24 rfl ?_;refine cy hm (a4L b_ written) fun x1 hm=> ?_
 apply vb hm<;>intro _ hm;cases hm;exact c9n (le4);refine cy hm (b1Q written r_) ?_;rintro⟨x4,x5⟩ hm;apply vb hm<;>intro _ hm;cases hm;exact c9n (le4);obtain⟨x8,hx9,hm⟩:=j0 hm;refine .inr (b5H.mk ⟨_,_,b0D b_ _ hx9, ?_⟩);refine⟨([]:List b9).flatMap b9.c,([]:List b9).length,⟨rfl,rfl⟩, ?_⟩;obtain⟨hg,hm⟩:=j2 hm;refine⟨hg,_,_,o8 (c:=b9.c) (l:=(([]:List b9):List b9)) (r:=(written:List b9)), ?_⟩;apply vb hm<;>intro _ hm;refine⟨rfl, ?_⟩;refine cy hm (a8X r_ (((([]:List b9)++written).length:Int))) fun x11 hm=> ?_
 obtain⟨hg,hm⟩:=j2 hm;refine⟨hg,_,_,o8 (c:=c8.c) (l:=(x8.Loose:List c8)) (r:=(x11:List c8)), ?_⟩;refine⟨([r_]:List b9).flatMap b9.c,([r_]:List b9).length,⟨rfl,rfl⟩, ?_⟩;obtain⟨hg,hm⟩:=j2 hm;refine⟨hg,_,_,o8 (c:=b9.c) (l:=((([]:List b9)++written):List b9)) (r:=(([r_]:List b9):List b9)), ?_⟩;cases hm;exact c9n (c9l _);cases hm;exact c9n (c9l _)
def U1 (b_:l7) (written:(List b9)):Option Int:=
 Option.bind (O9 b_ written) fun x1=>
 if(!x1)=true then
  some 84
 else
  some 0
theorem a8z (b_:l7) (written:(List b9)) (r:Int) (hm:U1 b_ written=some r):q8 Tryz.prog 25 [.agg (l7.c b_),lD 8 written b9.c] (fun x=>x=DI r):=by
 refine zn Tryz.func25 rfl ?_;refine cy hm (a7w b_ written) fun x1 hm=> ?_
 apply vb hm<;>intro _ hm;exact hm.rr;exact hm.rr
def a0b (b_:l7) (written:(List b9)) (r_:b9):Option Bool:=
 Option.bind (a3S) fun x1=>
 Option.bind (L7 b_ written r_) fun⟨x3,x4,x5⟩=>
 Option.bind (a2D b_ written r_) fun⟨x7,x8,x9⟩=>
 Option.bind (a0S x3 x7) fun x11=>
 Option.bind (Q3 x4 x8) fun x13=>
 if x1=true then
  Option.bind (U1 b_ written) fun x16=>
  Option.bind (R5 b_ written) fun x18=>
  if(x16==x18)=true then
   if x11=true then
    if x13=true then
     some (x5==x9)
    else
     some false
   else
    some false
  else
   some false
 else
  some false
theorem a7E (b_:l7) (written:(List b9)) (r_:b9) (r:Bool) (hm:a0b b_ written r_=some r):q8 Tryz.prog 4 [.agg (l7.c b_),lD 8 written b9.c, .agg (b9.c r_)] (fun x=>x=DB r):=by
 refine zy pl4 [] [] [] Tryz.func4 rfl ?_;refine cy hm (b7r) fun x1 hm=> ?_
 refine cy hm (a6u b_ written r_) ?_;rintro⟨x3,x4,x5⟩ hm;refine cy hm (b6L b_ written r_) ?_;rintro⟨x7,x8,x9⟩ hm;refine cy hm (b2K x3 x7) fun x11 hm=> ?_
 refine cy hm (a8i x4 x8) fun x13 hm=> ?_
 refine⟨rfl, ?_⟩;apply vb hm<;>intro _ hm;refine cy hm (a8z b_ written) fun x16 hm=> ?_
 refine cy hm (a4L b_ written) fun x18 hm=> ?_
 apply vb hm<;>intro _ hm;apply vb hm<;>intro _ hm;apply vb hm<;>intro _ hm;exact hm.rr;exact hm.rr;exact hm.rr;exact hm.rr;exact hm.rr
def a1m (a:o6) (b_:o6):Option Bool:=
 if(decide (a.Depot<b_.Depot))=true then
  some true
 else
  if(a.Depot==b_.Depot)=true then
   some (decide (a.No<b_.No))
  else
   some false
theorem a9K (a:o6) (b_:o6) (r:Bool) (hm:a1m a b_=some r):q8 Tryz.prog 114 [.agg (o6.c a), .agg (o6.c b_)] (fun x=>x=DB r):=by
 refine zn Tryz.func114 rfl ?_;apply vb hm<;>intro _ hm;exact hm.rr;apply vb hm<;>intro _ hm;exact hm.rr;exact hm.rr
def N4 (b_:D1):Int→Option (Sum Int (Sum Int Int)):=fun i14=>
 if(decide (i14<(b_.Records.length:Int)))=true then
  Option.bind (idx b_.Records i14) fun e40=>
  Option.bind (G3 e40) fun x42=>
  if(x42 !=0)=true then
   some (.inr (.inr 81))
  else
   if(decide (i14>0))=true then
    Option.bind (idx b_.Records (W (i14-1))) fun e46=>
    Option.bind (a1m e46.At e40.At) fun x48=>
    if(!x48)=true then
     some (.inr (.inr 81))
    else
     gd ((0≤i14∧i14≤(b_.Records.length:Int))∧(0≤i14∧i14≤i14))<|
     Option.bind (some (sub b_.Records 0 (i14).toNat)) fun sl51=>
     Option.bind (a0J sl51) fun x52=>
     Option.bind (idx [x52.1,x52.2.1,x52.2.2.1,x52.2.2.2.1,x52.2.2.2.2.1,x52.2.2.2.2.2] e40.At.Depot) fun e54=>
     if(e54 !=e40.At.No)=true then
      some (.inr (.inr 81))
     else
      some (.inl (W (i14+1)))
   else
    gd ((0≤i14∧i14≤(b_.Records.length:Int))∧(0≤i14∧i14≤i14))<|
    Option.bind (some (sub b_.Records 0 (i14).toNat)) fun sl57=>
    Option.bind (a0J sl57) fun x58=>
    Option.bind (idx [x58.1,x58.2.1,x58.2.2.1,x58.2.2.2.1,x58.2.2.2.2.1,x58.2.2.2.2.2] e40.At.Depot) fun e60=>
    if(e60 !=e40.At.No)=true then
     some (.inr (.inr 81))
    else
     some (.inl (W (i14+1)))
 else
  some (.inr (.inl i14))
def a2M (b_:D1):Option Int:=
 if(decide ((b_.Records.length:Int)>60))=true then
  some 81
 else
  Option.bind (w6 (N4 b_) 0) fun e=>
  match e with
  | .inl i63=>
   some 0
  | .inr rr64=>
   some rr64
theorem b6U (b_:D1) (r:Int) (hm:a2M b_=some r):q8 Tryz.prog 53 [.agg (D1.c b_)] (fun x=>x=DI r):=by
 refine zy c9i [] [] [] Tryz.func53 rfl ?_;apply vb hm<;>intro _ hm;exact hm.rr;obtain⟨ev65,he,hk66⟩:=j0 hm;refine c9o (N4 b_) (fun i14=>⟨[(1, .own 0 0),(3,DI i14)], [(0, .blk [lD 8 b_.Records b9.c] 70)],1⟩) 0 (sb 1) he ?_;rintro fu67 i14 b hm hi68;apply vb hm<;>intro _ hm;refine ei hm fun e70 hm=> ?_
 refine⟨rfl, ?_⟩;refine cy hm (a0d e70) fun x72 hm=> ?_
 apply vb hm<;>intro _ hm;cases hm;cases hi68;have hm:=hk66;exact hm.rr;apply vb hm<;>intro _ hm;refine ei hm fun e76 hm=> ?_
 refine cy hm (a9K e76.At e70.At) fun x78 hm=> ?_
 apply vb hm<;>intro _ hm;cases hm;cases hi68;have hm:=hk66;exact hm.rr;obtain⟨hg,hm⟩:=j2 hm;obtain⟨sl81,hy,hm⟩:=j0 hm;refine⟨hg.1,hg.2,_,(V1 (c:=b9.c) (z:=8) (fun _=>rfl) _ _ _).trans (l8 _ (D6 hy)), ?_⟩;have hl:sl81.length=(i14).toNat-0:=by rw [←D6 hy];exact a0P (by omega)
 rw [←hl];refine cy hm (a3W sl81) fun x82 hm=> ?_
 obtain⟨e84,hx85,hm⟩:=j0 hm;refine⟨a5r hx85,_,ldx (c:=cI) (z:=1) (pre:= []) (post:= []) (b:=0) (off:=0) (fun _=>rfl) hx85 rfl rfl (by omega) rfl, ?_⟩;apply vb hm<;>intro _ hm;cases hm;cases hi68;have hm:=hk66;exact hm.rr;cases hm;exact⟨(_,(W (i14+1))),sb 1,hi68,D7 _⟩;obtain⟨hg,hm⟩:=j2 hm;obtain⟨sl87,hy,hm⟩:=j0 hm;refine⟨hg.1,hg.2,_,(V1 (c:=b9.c) (z:=8) (fun _=>rfl) _ _ _).trans (l8 _ (D6 hy)), ?_⟩;have hl:sl87.length=(i14).toNat-0:=by rw [←D6 hy];exact a0P (by omega)
 rw [←hl];refine cy hm (a3W sl87) fun x88 hm=> ?_
 obtain⟨e90,hx91,hm⟩:=j0 hm;refine⟨a5r hx91,_,ldx (c:=cI) (z:=1) (pre:= []) (post:= []) (b:=0) (off:=0) (fun _=>rfl) hx91 rfl rfl (by omega) rfl, ?_⟩;apply vb hm<;>intro _ hm;cases hm;cases hi68;have hm:=hk66;exact hm.rr;cases hm;exact⟨(_,(W (i14+1))),sb 1,hi68,D7 _⟩;cases hm;cases hi68;have hm:=hk66;exact hm.rr
def O7 (l:(List b9)) (r_:b9):Int→Option (Sum Int Int):=fun at_7=>
 if(decide (at_7<(l.length:Int)))=true then
  Option.bind (idx l at_7) fun e15=>
  Option.bind (a1m e15.At r_.At) fun x17=>
  if x17=true then
   some (.inl (W (at_7+1)))
  else
   some (.inr at_7)
 else
  some (.inr at_7)
def a5L (l:(List b9)) (r_:b9):Option (List b9):=
 Option.bind (w6 (O7 l r_) 0) fun at_20=>
 gd ((0≤at_20∧at_20≤(l.length:Int)))<|
 Option.bind (some (sub l 0 (at_20).toNat)) fun sl21=>
 gd ((0≤at_20∧at_20≤(l.length:Int)))<|
 Option.bind (some (sub l (at_20).toNat l.length)) fun sl22=>
 gd ((([]:List b9).length+sl21.length)*72≤140737488355328∧([]:List b9).length+sl21.length≤9223372036854775807)<|
 gd (((([]:List b9)++sl21).length+([r_]:List b9).length)*72≤140737488355328∧(([]:List b9)++sl21).length+([r_]:List b9).length≤9223372036854775807)<|
 gd ((((([]:List b9)++sl21)++([r_]:List b9)).length+sl22.length)*72≤140737488355328∧((([]:List b9)++sl21)++([r_]:List b9)).length+sl22.length≤9223372036854775807)<|
 some (((([]:List b9)++sl21)++([r_]:List b9))++sl22)
theorem c0q (l:(List b9)) (r_:b9) (r:(List b9)) (hm:a5L l r_=some r):q8 Tryz.prog 106 [lD 8 l b9.c, .agg (b9.c r_)] (fun x=>x=lD 8 r b9.c):=by
 refine zy c6s [] [] [] Tryz.func106 rfl ?_;obtain⟨ev23,he,hk24⟩:=j0 hm;refine c9o (O7 l r_) (fun at_7=>⟨[(0,lD 8 l b9.c),(3, .own 0 0),(5,DI at_7)], [(0, .blk (b9.c r_) 38)],1⟩) 0 (sb 1) he ?_;rintro fu25 at_7 b hm hi26;refine⟨rfl, ?_⟩;apply vb hm<;>intro _ hm;refine ei hm fun e28 hm=> ?_
 refine cy hm (a9K e28.At r_.At) fun x30 hm=> ?_
 apply vb hm<;>intro _ hm;cases hm;exact⟨(_,(W (at_7+1))),sb 1,hi26,D7 _⟩;cases hm;have hm:=hk24;rw [show ev23=at_7 from by first|exact hi26|exact hi26.symm]at hm
 refine⟨rfl, ?_⟩;obtain⟨hg,hm⟩:=j2 hm;obtain⟨sl33,hy,hm⟩:=j0 hm;refine⟨hg,_,(V1 (c:=b9.c) (z:=8) (fun _=>rfl) _ _ _).trans (l8 _ (D6 hy)), ?_⟩;have hl:sl33.length=(at_7).toNat-0:=by rw [←D6 hy];exact a0P (by omega)
 rw [←hl];obtain⟨hg,hm⟩:=j2 hm;obtain⟨sl34,hy,hm⟩:=j0 hm;refine⟨hg,_,(V1 (c:=b9.c) (z:=8) (fun _=>rfl) _ _ _).trans (l8 _ (D6 hy)), ?_⟩;have hl:sl34.length=l.length-(at_7).toNat:=by rw [←D6 hy];exact a0P (by omega)
 rw [←hl];refine⟨?_, ?_⟩;refine⟨([r_]:List b9).flatMap b9.c,([r_]:List b9).length,⟨rfl,rfl⟩, ?_⟩;refine⟨([]:List b9).flatMap b9.c,([]:List b9).length,⟨rfl,rfl⟩, ?_⟩;obtain⟨hg,hm⟩:=j2 hm;refine⟨hg,_,_,o8 (c:=b9.c) (l:=(([]:List b9):List b9)) (r:=(sl33:List b9)), ?_⟩;obtain⟨hg,hm⟩:=j2 hm;refine⟨hg,_,_,o8 (c:=b9.c) (l:=((([]:List b9)++sl33):List b9)) (r:=(([r_]:List b9):List b9)), ?_⟩;obtain⟨hg,hm⟩:=j2 hm;refine⟨hg,_,_,o8 (c:=b9.c) (l:=(((([]:List b9)++sl33)++([r_]:List b9)):List b9)) (r:=(sl34:List b9)), ?_⟩;cases hm;exact c9n (c9l _);refine⟨([]:List b9).flatMap b9.c,([]:List b9).length,⟨rfl,rfl⟩, ?_⟩;obtain⟨hg,hm⟩:=j2 hm;refine⟨hg,_,_,o8 (c:=b9.c) (l:=(([]:List b9):List b9)) (r:=(sl33:List b9)), ?_⟩;refine⟨([r_]:List b9).flatMap b9.c,([r_]:List b9).length,⟨rfl,rfl⟩, ?_⟩;obtain⟨hg,hm⟩:=j2 hm;refine⟨hg,_,_,o8 (c:=b9.c) (l:=((([]:List b9)++sl33):List b9)) (r:=(([r_]:List b9):List b9)), ?_⟩;obtain⟨hg,hm⟩:=j2 hm;refine⟨hg,_,_,o8 (c:=b9.c) (l:=(((([]:List b9)++sl33)++([r_]:List b9)):List b9)) (r:=(sl34:List b9)), ?_⟩;cases hm;exact c9n (c9l _);cases hm;have hm:=hk24;rw [show ev23=at_7 from by first|exact hi26|exact hi26.symm]at hm
 refine⟨rfl, ?_⟩;obtain⟨hg,hm⟩:=j2 hm;obtain⟨sl35,hy,hm⟩:=j0 hm;refine⟨hg,_,(V1 (c:=b9.c) (z:=8) (fun _=>rfl) _ _ _).trans (l8 _ (D6 hy)), ?_⟩;have hl:sl35.length=(at_7).toNat-0:=by rw [←D6 hy];exact a0P (by omega)
 rw [←hl];obtain⟨hg,hm⟩:=j2 hm;obtain⟨sl36,hy,hm⟩:=j0 hm;refine⟨hg,_,(V1 (c:=b9.c) (z:=8) (fun _=>rfl) _ _ _).trans (l8 _ (D6 hy)), ?_⟩;have hl:sl36.length=l.length-(at_7).toNat:=by rw [←D6 hy];exact a0P (by omega)
 rw [←hl];refine⟨?_, ?_⟩;refine⟨([r_]:List b9).flatMap b9.c,([r_]:List b9).length,⟨rfl,rfl⟩, ?_⟩;refine⟨([]:List b9).flatMap b9.c,([]:List b9).length,⟨rfl,rfl⟩, ?_⟩;obtain⟨hg,hm⟩:=j2 hm;refine⟨hg,_,_,o8 (c:=b9.c) (l:=(([]:List b9):List b9)) (r:=(sl35:List b9)), ?_⟩;obtain⟨hg,hm⟩:=j2 hm;refine⟨hg,_,_,o8 (c:=b9.c) (l:=((([]:List b9)++sl35):List b9)) (r:=(([r_]:List b9):List b9)), ?_⟩;obtain⟨hg,hm⟩:=j2 hm;refine⟨hg,_,_,o8 (c:=b9.c) (l:=(((([]:List b9)++sl35)++([r_]:List b9)):List b9)) (r:=(sl36:List b9)), ?_⟩;cases hm;exact c9n (c9l _);refine⟨([]:List b9).flatMap b9.c,([]:List b9).length,⟨rfl,rfl⟩, ?_⟩;obtain⟨hg,hm⟩:=j2 hm;refine⟨hg,_,_,o8 (c:=b9.c) (l:=(([]:List b9):List b9)) (r:=(sl35:List b9)), ?_⟩;refine⟨([r_]:List b9).flatMap b9.c,([r_]:List b9).length,⟨rfl,rfl⟩, ?_⟩;obtain⟨hg,hm⟩:=j2 hm;refine⟨hg,_,_,o8 (c:=b9.c) (l:=((([]:List b9)++sl35):List b9)) (r:=(([r_]:List b9):List b9)), ?_⟩;obtain⟨hg,hm⟩:=j2 hm;refine⟨hg,_,_,o8 (c:=b9.c) (l:=(((([]:List b9)++sl35)++([r_]:List b9)):List b9)) (r:=(sl36:List b9)), ?_⟩;cases hm;exact c9n (c9l _)
def a5D (b_:D1) (r_:b9):Option (D1×Int):=
 Option.bind (a2M b_) fun x1=>
 if(x1 !=0)=true then
  some ((⟨[]⟩:D1),81)
 else
  Option.bind (a1Z b_.Records r_) fun⟨x4,x5⟩=>
  if(x5 !=0)=true then
   some ((⟨[]⟩:D1),x5)
  else
   if(!x4)=true then
    gd ((([]:List b9).length+b_.Records.length)*72≤140737488355328∧([]:List b9).length+b_.Records.length≤9223372036854775807)<|
    some ((⟨(([]:List b9)++b_.Records)⟩:D1),0)
   else
    Option.bind (a5L b_.Records r_) fun x9=>
    some ((⟨x9⟩:D1),0)
theorem c6r (b_:D1) (r_:b9) (r:(D1×Int)) (hm:a5D b_ r_=some r):q8 Tryz.prog 48 [.agg (D1.c b_), .agg (b9.c r_)] (fun x=>x= .tup [.agg (D1.c r.1),DI r.2]):=by
 refine zn Tryz.func48 rfl ?_;refine cy hm (b6U b_) fun x1 hm=> ?_
 apply vb hm<;>intro _ hm;cases hm;exact c9n (le3);refine cy hm (b1Q b_.Records r_) ?_;rintro⟨x4,x5⟩ hm;apply vb hm<;>intro _ hm;cases hm;exact c9n (le3);apply vb hm<;>intro _ hm;refine⟨([]:List b9).flatMap b9.c,([]:List b9).length,⟨rfl,rfl⟩, ?_⟩;obtain⟨hg,hm⟩:=j2 hm;refine⟨hg,_,_,o8 (c:=b9.c) (l:=(([]:List b9):List b9)) (r:=(b_.Records:List b9)), ?_⟩;cases hm;exact c9n (c9l _);refine cy hm (c0q b_.Records r_) fun x9 hm=> ?_
 cases hm;exact c9n (c9l _)
end Go.Proofs.YtggdlgclohnbaaaGreatDoor
