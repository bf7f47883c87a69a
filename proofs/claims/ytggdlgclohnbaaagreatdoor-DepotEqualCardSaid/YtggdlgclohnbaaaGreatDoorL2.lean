/- Functions of the program as pure Lean functions, and that calls do what these say. Printed by a program out of the given form. -/
import Derived.Test.YtggdlgclohnbaaaGreatDoorI1
set_option linter.unusedVariables false
set_option linter.unusedSimpArgs false
namespace Go.Proofs.YtggdlgclohnbaaaGreatDoor
open Go Go.RowKit Go.Sx
set_option maxRecDepth 100000
set_option maxHeartbeats 20000000
def j9 (slices:(List (List e8))):(Int×Int)→Option (Sum (Int×Int) (Int×Int)):=fun(size5,v6)=>
 if(decide (v6<(slices.length:Int)))=true then
  Option.bind (idx slices v6) fun e12=>
  if(decide ((W (size5+(e12.length:Int)))<0))=true then
   none
  else
   some (.inl ((W (size5+(e12.length:Int))),(W (v6+1))))
 else
  some (.inr (size5,v6))
def j7 (slices:(List (List e8))):(Int×(List e8))→Option (Sum (Int×(List e8)) (Int×(List e8))):=fun(v22,v23)=>
 if(decide (v22<(slices.length:Int)))=true then
  Option.bind (idx slices v22) fun e28=>
  gd ((v23.length+e28.length)*48≤140737488355328∧v23.length+e28.length≤9223372036854775807)<|
  some (.inl ((W (v22+1)),(v23++e28)))
 else
  some (.inr (v22,v23))
def H6 (slices:(List (List e8))):Option (List e8):=
 Option.bind (r6 (j9 slices) (0,0)) fun(size15,v16)=>
 gd (0≤size15∧size15*48≤140737488355328)<|
 Option.bind (r6 (j7 slices) (0,([]:List e8))) fun(v30,v31)=>
 some v31
theorem a1G (slices:(List (List e8))) (r:(List e8)) (hm:H6 slices=some r):s9 Tryz.prog 131 [lD 1 slices cf2] (fun x=>x=lD 5 r e8.c):=by
 refine zy [] [80,112,155,175] [159] [] Tryz.func131 rfl ?_;obtain⟨ev39,he,hk40⟩:=d9 hm;refine d2T (j9 slices) (fun(size5,v6)=>⟨[(0,lD 1 slices cf2),(3,DI size5),(9,lD 1 slices cf2),(10,DI (slices.length:Int)),(11,DI v6)], [],0⟩) (0,0) (sb 0) he ?_;rintro fu41 ⟨size5,v6⟩ b hm hi42;apply vb hm<;>intro _ hm;refine ei hm fun e44 hm=> ?_
 apply vb hm<;>intro _ hm;cases hm;cases hm;exact⟨(_,((W (size5+(e44.length:Int))),(W (v6+1)))),sb 0,hi42,F6 _⟩;cases hm;cases hi42;have hm:=hk40;obtain⟨hg,hm⟩:=j4 hm;refine .inl (a4s.mk ⟨_,_,_,_,a2o size5 hg, ?_⟩);obtain⟨ev62,he,hk63⟩:=d9 hm;refine d2T (j7 slices) (fun(v52,v53)=>⟨[(6, .row 0 5),(25,lD 1 slices cf2),(26,DI (slices.length:Int)),(27,DI v52)], [(0,rE 5 v53 e8.c 53)],1⟩) (0,([]:List e8)) (sb 1) he ?_;rintro fu64 ⟨v52,v53⟩ b hm hi65;apply vb hm<;>intro _ hm;refine ei hm fun e67 hm=> ?_
 obtain⟨hg,hm⟩:=j4 hm;refine⟨hg,_,_,u0 (c:=e8.c) (l:=(v53:List e8)) (r:=(e67:List e8)), ?_⟩;cases hm;exact⟨(_,((W (v52+1)),(v53++e67))),sb 1,hi65,F6 _⟩;cases hm;cases hi65;have hm:=hk63;cases hm;exact d2S (d2Q _)
def a1C (b_:o4):Option (List e8):=
 Option.bind (H6 ([b_.Thread,b_.Loose]:List (List e8))) fun x1=>
 some x1
theorem a7x (b_:o4) (r:(List e8)) (hm:a1C b_=some r):s9 Tryz.prog 77 [.agg (o4.c b_)] (fun x=>x=lD 5 r e8.c):=by
 refine zn Tryz.func77 rfl ?_;refine⟨([b_.Thread,b_.Loose]:List (List e8)).flatMap cf2,([b_.Thread,b_.Loose]:List (List e8)).length,⟨rfl,rfl⟩, ?_⟩;refine co hm (a1G (([b_.Thread,b_.Loose]:List (List e8)))) fun x1 hm=> ?_
 cases hm;exact d2S (d2Q _)
def a0V (c:e8):Option Bool:=
 Option.bind (B0 c.No 0 59) fun x1=>
 if x1=true then
  Option.bind (B0 c.Parts 1 10) fun x4=>
  if x4=true then
   Option.bind (B0 c.Part 0 (W (c.Parts-1))) fun x7=>
   if x7=true then
    Option.bind (B0 c.Size 1 24) fun x10=>
    if x10=true then
     some ((c.Text.size:Int)==c.Size)
    else
     some false
   else
    some false
  else
   some false
 else
  some false
theorem b2y (c:e8) (r:Bool) (hm:a0V c=some r):s9 Tryz.prog 100 [.agg (e8.c c)] (fun x=>x=DB r):=by
 refine zn Tryz.func100 rfl ?_;refine cy hm (F5 c.No 0 59) fun x1 hm=> ?_
 apply vb hm<;>intro _ hm;refine cy hm (F5 c.Parts 1 10) fun x4 hm=> ?_
 apply vb hm<;>intro _ hm;refine cy hm (F5 c.Part 0 (W (c.Parts-1))) fun x7 hm=> ?_
 apply vb hm<;>intro _ hm;refine cy hm (F5 c.Size 1 24) fun x10 hm=> ?_
 apply vb hm<;>intro _ hm;exact hm.rr;exact hm.rr;exact hm.rr;exact hm.rr;exact hm.rr
def a5g (b_:o4):Option o4:=
 some b_
theorem b5h (b_:o4) (r:o4) (hm:a5g b_=some r):s9 Tryz.prog 69 [.agg (o4.c b_)] (fun x=>x= .fn 128 [] [.ptr [lD 5 r.Thread e8.c,lD 5 r.Loose e8.c] 0]):=by
 refine zn Tryz.func69 rfl ?_;cases hm;exact d2S (d2Q _)
def M4 (s:ByteArray):Option ByteArray:=gd (s.size≤281474976710656) (some s)
theorem a3j (s:ByteArray) (r:ByteArray) (hm:M4 s=some r):s9 Tryz.prog 134 [.v (.string s)] (fun x=>x= .v (.string r)):=by
 obtain⟨hg,hm⟩:=j4 hm;cases hm;exact b9n c1f s hg
def V7 (l:(List b9)):(Int×Int×Int×Int×Int×Int×Int)→Option (Sum (Int×Int×Int×Int×Int×Int×Int) (Int×Int×Int×Int×Int×Int×Int)):=fun(v15,v16,v17,v18,v19,v20,v21)=>
 if(decide (v15<(l.length:Int)))=true then
  Option.bind (idx l v15) fun e37=>
  gd (0≤e37.At.Depot∧e37.At.Depot<6)<|
  Option.bind (idx [v16,v17,v18,v19,v20,v21] e37.At.Depot) fun e39=>
  gd (0≤e37.At.Depot∧e37.At.Depot<6)<|
  Option.bind (idx [v16,v17,v18,v19,v20,v21] e37.At.Depot) fun e41=>
  Option.bind (some (W (e39+1))) fun y43=>
  Option.bind (some (if(e37.At.Depot==0)=true then y43 else v16)) fun q44=>
  Option.bind (some (if(e37.At.Depot==1)=true then y43 else v17)) fun q45=>
  Option.bind (some (if(e37.At.Depot==2)=true then y43 else v18)) fun q46=>
  Option.bind (some (if(e37.At.Depot==3)=true then y43 else v19)) fun q47=>
  Option.bind (some (if(e37.At.Depot==4)=true then y43 else v20)) fun q48=>
  Option.bind (some (if(e37.At.Depot==5)=true then y43 else v21)) fun q49=>
  some (.inl ((W (v15+1)),q44,q45,q46,q47,q48,q49))
 else
  some (.inr (v15,v16,v17,v18,v19,v20,v21))
def S8 (l:(List b9)):Option (Int×Int×Int×Int×Int×Int):=
 Option.bind (r6 (V7 l) (0,0,0,0,0,0,0)) fun(v50,v51,v52,v53,v54,v55,v56)=>
 some (v51,v52,v53,v54,v55,v56)
theorem a1j (l:(List b9)) (r:(Int×Int×Int×Int×Int×Int)) (hm:S8 l=some r):s9 Tryz.prog 109 [lD 8 l b9.c] (fun x=>x= .agg [DI r.1,DI r.2.1,DI r.2.2.1,DI r.2.2.2.1,DI r.2.2.2.2.1,DI r.2.2.2.2.2]):=by
 refine zn Tryz.func109 rfl ?_;obtain⟨ev57,he,hk58⟩:=d9 hm;refine d2T (V7 l) (fun(v15,v16,v17,v18,v19,v20,v21)=>⟨[(2, .own 0 0),(3, .own 1 0),(6,lD 8 l b9.c),(7,DI (l.length:Int)),(8,DI v15)], [(0, .blk [DI 0,DI 0,DI 0,DI 0,DI 0,DI 0] 78),(1, .blk [DI v16,DI v17,DI v18,DI v19,DI v20,DI v21] 78)],2⟩) (0,0,0,0,0,0,0) (sb 2) he ?_;rintro fu59 ⟨v15,v16,v17,v18,v19,v20,v21⟩ b hm hi60;apply vb hm<;>intro _ hm;refine ei hm fun _ hm=> ?_
 obtain⟨hg,hm⟩:=j4 hm;refine⟨hg, ?_⟩;obtain⟨e64,hx65,hm⟩:=d9 hm;refine⟨_,ldx (r:= [DI e64]) (c:=cI) (z:=1) (pre:= []) (post:= []) (b:=0) (off:=0) (fun _=>rfl) hx65 rfl rfl (by omega) rfl, ?_⟩;obtain⟨hg,hm⟩:=j4 hm;refine⟨hg, ?_⟩;obtain⟨e66,hx67,hm⟩:=d9 hm;obtain⟨y68,hy,hm⟩:=d9 hm;obtain⟨q69,hq0,hm⟩:=d9 hm;obtain⟨q70,hq1,hm⟩:=d9 hm;obtain⟨q71,hq2,hm⟩:=d9 hm;obtain⟨q72,hq3,hm⟩:=d9 hm;obtain⟨q73,hq4,hm⟩:=d9 hm;obtain⟨q74,hq5,hm⟩:=d9 hm;refine⟨[DI q69,DI q70,DI q71,DI q72,DI q73,DI q74],stx (y:=y68) (ys:= [q69,q70,q71,q72,q73,q74]) (c:=cI) (z:=1) (pre:= []) (post:= []) (b:=0) (off:=0) (fun _=>rfl) hx67 rfl rfl (by omega) (by cases hy;rfl) rfl (by cases hq0;cases hq1;cases hq2;cases hq3;cases hq4;cases hq5;exact S7 hx67), ?_⟩;clear hy hq0 hq1 hq2 hq3 hq4 hq5;cases hm;exact⟨(_,((W (v15+1)),q69,q70,q71,q72,q73,q74)),sb 2,hi60,F6 _⟩;cases hm;cases hi60;have hm:=hk58;cases hm;exact d2S (d2Q _)
def a1Z (l:(List b9)) (r_:b9):Option Bool:=
 if(decide ((l.length:Int)<60))=true then
  Option.bind (S8 l) fun x2=>
  Option.bind (idx [x2.1,x2.2.1,x2.2.2.1,x2.2.2.2.1,x2.2.2.2.2.1,x2.2.2.2.2.2] r_.At.Depot) fun e4=>
  some (e4==r_.At.No)
 else
  some false
theorem a9r (l:(List b9)) (r_:b9) (r:Bool) (hm:a1Z l r_=some r):s9 Tryz.prog 71 [lD 8 l b9.c, .agg (b9.c r_)] (fun x=>x=DB r):=by
 refine zy d2s [] [] [] Tryz.func71 rfl ?_;refine⟨rfl, ?_⟩;apply vb hm<;>intro _ hm;refine cy hm (a1j l) fun x2 hm=> ?_
 obtain⟨e4,hx5,hm⟩:=d9 hm;refine⟨a3k hx5,_,ldx (c:=cI) (z:=1) (pre:= []) (post:= []) (b:=0) (off:=0) (fun _=>rfl) hx5 rfl rfl (by omega) rfl, ?_⟩;exact hm.rr;exact hm.rr
def U0 (s:(List Int)) (n:Int):Option ((List Int)×Int):=
 if(decide (n<1))=true then
  none
 else
  some (s,n)
theorem a4T (s:(List Int)) (n:Int) (r:((List Int)×Int)) (hm:U0 s n=some r):s9 Tryz.prog 144 [lD 1 s b1D,DI n] (fun x=>x= .fn 164 [] [.ptr [lD 1 r.1 b1D] 0, .ptr [DI r.2] 0]):=by
 refine zn Tryz.func144 rfl ?_;apply vb hm<;>intro _ hm;cases hm;cases hm;exact d2S (d2Q _)
def A2 (x:(List Int)):List D:= [lD 1 x b1D]
def u9 (c_0:(List Int)) (c_1:Int):Int→Option (List (List Int)×Sum Int Int):=fun i5=>
 if(decide (i5<(c_0.length:Int)))=true then
  gd ((0≤i5∧i5≤(c_0.length:Int)))<|
  Option.bind (some (sub c_0 (i5).toNat c_0.length)) fun sl11=>
  gd ((0≤(W (i5+(if(sl11.length:Int)<c_1 then(sl11.length:Int)else c_1)))∧(W (i5+(if(sl11.length:Int)<c_1 then(sl11.length:Int)else c_1)))≤(c_0.length:Int))∧(0≤(W (i5+(if(sl11.length:Int)<c_1 then(sl11.length:Int)else c_1)))∧(W (i5+(if(sl11.length:Int)<c_1 then(sl11.length:Int)else c_1)))≤(W (i5+(if(sl11.length:Int)<c_1 then(sl11.length:Int)else c_1))))∧(0≤i5∧i5≤(W (i5+(if(sl11.length:Int)<c_1 then(sl11.length:Int)else c_1)))))<|
  Option.bind (some (sub c_0 (i5).toNat ((W (i5+(if(sl11.length:Int)<c_1 then(sl11.length:Int)else c_1)))).toNat)) fun sl12=>
  emit sl12<|
  some ([], .inl (W (i5+c_1)))
 else
  some ([], .inr i5)
def G9 (c_0:(List Int)) (c_1:Int):Option (List (List Int)×Unit):=
 b6I (b4K (u9 c_0 c_1) 0) fun i14=>
 some ([],())
theorem a3R (c_0:(List Int)) (c_1:Int) (xs:List (List Int)) (hm:G9 c_0 c_1=some (xs,())):a7C Tryz.prog 164 [.ptr [lD 1 c_0 b1D] 0, .ptr [DI c_1] 0] (xs.map A2):=by
 refine b9V (X:=⟨Tryz.prog,tt,Tryz.f164.ntmps,d1L, [], [], [], [], []⟩) pok _ _ [] Tryz.func164 rfl rfl (J1 rfl) rfl ?_;intro l;obtain⟨r,hr⟩:∃r:List (List Int)×Unit,r=(xs,()):=⟨_,rfl⟩;rw [←hr]at hm;have hp:Hp3 A2 [] r.1 [] (xs.map A2):=⟨by rw [hr];simp⟩;clear hr;obtain⟨ev15,rr19,he,hk16,hb1,hb2⟩:=b4z hm;replace hp:=hp.in1 hb1;clear hb1 hb2;refine b1K.of (fun(lpx:Nat×Int)=>match lpx with|(fu17,i5)=>(⟨[(0, .v (.func (.yield l) #[] #[])),(1, .ptr [lD 1 c_0 b1D] 0),(2, .ptr [DI c_1] 0),(4,DI i5)], [],0⟩:Sy)) (fun lpx q=>∃e,a4Y (u9 c_0 c_1) lpx.1 lpx.2=some e∧Hp3 A2 q e.1 _ _∧e.2=ev15.2) (fun lpx=>lpx.1) (a2n,0) ⟨_,he,hp,rfl⟩ (sb 0) ?_
 clear hp he;rintro⟨fu17,i5⟩ q ⟨el21,hi18,hp,hx22⟩;obtain⟨fu17,b,tl,rfl,hm,hb1,hi18⟩:=b4b hi18;replace hp:=hp.in1 hb1;clear hb1;have hq:b.2=b.2:=rfl;apply vb hm<;>intro _ hm;refine⟨rfl, ?_⟩;obtain⟨hg,hm⟩:=j4 hm;obtain⟨sl25,hy,hm⟩:=d9 hm;refine⟨hg,_,(a0c (c:=b1D) (z:=1) (fun _=>rfl) _ _ _).trans (m9 _ (G4 hy)), ?_⟩;have hl:sl25.length=c_0.length-(i5).toNat:=by rw [←G4 hy];exact a1L (by omega)
 rw [←hl];obtain⟨hg,hm⟩:=j4 hm;obtain⟨sl26,hy,hm⟩:=d9 hm;refine⟨hg.1,hg.2.1,hg.2.2,_,(a0c (c:=b1D) (z:=1) (fun _=>rfl) _ _ _).trans (m9 _ (G4 hy)), ?_⟩;have hl:sl26.length=((W (i5+(if(sl25.length:Int)<c_1 then(sl25.length:Int)else c_1)))).toNat-(i5).toNat:=by rw [←G4 hy];exact a1L (by omega)
 rw [←hl];obtain⟨rb27,hm,hb1,hb2⟩:=b5Q hm;refine a4X.of (x':=A2 sl26) rfl rfl (d2S (d2Q _)) (hp.pre hb1) ?_ ?_;replace hp:=hp.emit hb1;replace hq:=hq.trans hb2;cases hm;rw [hq]at hi18;obtain⟨e2,hm,rfl,ht⟩:=hi18;exact⟨(fu17,(W (i5+c_1))),_,sb 0,rfl,⟨_,hm,hp.out rfl,ht.symm.trans hx22⟩,F6 _⟩;exact .inl rfl;cases hm;rw [hq]at hi18;obtain⟨rfl,ht⟩:=hi18;replace hp:=(hp.out (l':= []) rfl).out rfl;have hm:=hk16
 try rw [←hx22,ht]at hm
 clear hq;cases hm;exact .inr (m9 some (hp.done rfl))
def a0u (no:Int):(List e8)→(List Int)→Option (Sum (List e8) Unit):=fun v8 y7=>
 gd ((v8.length+([(⟨no,(v8.length:Int),0,(y7.length:Int),(a6W y7)⟩:e8)]:List e8).length)*48≤140737488355328∧v8.length+([(⟨no,(v8.length:Int),0,(y7.length:Int),(a6W y7)⟩:e8)]:List e8).length≤9223372036854775807)<|
 some (.inl (v8++([(⟨no,(v8.length:Int),0,(y7.length:Int),(a6W y7)⟩:e8)]:List e8)))
def N8 (v10:(List e8)):(Int×(List e8))→Option (Sum (Int×(List e8)) (Int×(List e8))):=fun(v16,v17)=>
 if(decide (v16<(v10.length:Int)))=true then
  Option.bind (idx v17 v16) fun e24=>
  Option.bind (idx v17 v16) fun e26=>
  some (.inl ((W (v16+1)),(v17.set v16.toNat (⟨e26.No,e26.Part,(v17.length:Int),e26.Size,e26.Text⟩:e8))))
 else
  some (.inr (v16,v17))
def Y4 (r_:b9) (no:Int):Option (List e8):=
 Option.bind (K6 r_) fun x1=>
 gd (x1.size≤9223372036854775807)<|
 Option.bind (some (H5 x1)) fun by3=>
 Option.bind (U0 by3 24) fun⟨x4,x5⟩=>
 Option.bind (G9 x4 x5) fun l9=>
 Option.bind (P6 (a0u no) l9.1 []) fun e=>
 match e with
 | .inl v10=>
  Option.bind (r6 (N8 v10) (0,v10)) fun(v28,v29)=>
  some v29
 | .inr _=>none
theorem a5b (r_:b9) (no:Int) (r:(List e8)) (hm:Y4 r_ no=some r):s9 Tryz.prog 96 [.agg (b9.c r_),DI no] (fun x=>x=lD 5 r e8.c):=by
 refine c2u (X:=⟨Tryz.prog,tt,Tryz.f96.ntmps, [], [], [], [], [], []⟩) pok _ Tryz.func96 rfl rfl (J1 rfl) ?_;intro ds;intro ds;intro ds;refine cy hm (a7h r_) fun x1 hm=> ?_
 obtain⟨hg,hm⟩:=j4 hm;obtain⟨by3,hy,hm⟩:=d9 hm;refine⟨⟨5, .string,by kernel_rfl,by kernel_rfl,by kernel_rfl⟩,hg,_,_,b4k (fun _=>rfl) hy, ?_⟩;clear hy;refine cy hm (a4T by3 24) ?_;rintro⟨x4,x5⟩ hm;obtain⟨l9,hl40,hm⟩:=d9 hm;obtain⟨ev39,he,hm⟩:=d9 hm;refine a4V.ofZ (E:=Unit) A2 l9.1 (a0u no) (fun(lpx:(List e8))=>match lpx with|v8=>(⟨[(0, .agg (b9.c r_)),(1,DI no),(2, .own 0 0),(3, .own 1 0),(4,nS),(5, .own 2 0)], [(0, .blk (b9.c r_) 38),(1, .blk [DI no] 3),(2, .blk [.row 3 5] 22),(3,rE 5 v8 e8.c 53)],4⟩:Sy)) (fun(_:Unit)=>(⟨[], [],0⟩:Sy)) (fun _=> .ret) [] ev39 [0,1,2,3,4,5] (a3R x4 x5 l9.1 hl40) he (b8i pok Tryz.func164 rfl) rfl rfl (fun _=>rfl) rfl rfl rfl (by rintro v8;rfl) (by intro _;rfl) (sb 3) ?_ ?_ (fun _=> .inl rfl) ?_
 rintro v10 rfl;intro ds;intro ds;obtain⟨ev30,he,hk31⟩:=d9 hm;refine d2T (N8 v10) (fun(v16,v17)=>⟨[(5, .own 2 0),(25,DI (v10.length:Int)),(26,DI v16)], [(2, .blk [.row 3 5] 22),(3,rE 5 v17 e8.c 53)],4⟩) (0,v10) (sb 4) he ?_;rintro fu32 ⟨v16,v17⟩ b hm hi33;apply vb hm<;>intro _ hm;refine eb hm fun _ hm=> ?_
 obtain⟨e37,hx38,hm⟩:=d9 hm;refine⟨_,c1N (fun _=>rfl) hx38,_,c2o (y:=(⟨e37.No,e37.Part,(v17.length:Int),e37.Size,e37.Text⟩:e8)) (fun _=>rfl) hx38, ?_⟩;cases hm;exact⟨(_,((W (v16+1)),(v17.set v16.toNat (⟨e37.No,e37.Part,(v17.length:Int),e37.Size,e37.Text⟩:e8)))),sb 4,hi33,F6 _⟩;cases hm;cases hi33;have hm:=hk31;intro ds;intro ds;cases hm;exact d2S (d2Q _);rintro _ rfl;cases hm;clear he hm;rintro v8 y7 b hm;refine⟨⟨rfl,5,by kernel_rfl,by kernel_rfl,by kernel_rfl⟩,y7,c6P (fun _=>rfl) _, ?_⟩;refine⟨([(⟨no,(v8.length:Int),0,(y7.length:Int),(a6W y7)⟩:e8)]:List e8).flatMap e8.c,([(⟨no,(v8.length:Int),0,(y7.length:Int),(a6W y7)⟩:e8)]:List e8).length,⟨rfl,rfl⟩, ?_⟩;obtain⟨hg,hm⟩:=j4 hm;refine⟨hg,_,_,u0 (c:=e8.c) (l:=(v8:List e8)) (r:=(([(⟨no,(v8.length:Int),0,(y7.length:Int),(a6W y7)⟩:e8)]:List e8):List e8)), ?_⟩;cases hm;exact⟨(v8++([(⟨no,(v8.length:Int),0,(y7.length:Int),(a6W y7)⟩:e8)]:List e8)),rfl,sb 4⟩
def Y5 (l:(List b9)):((List e8)×Int)→Option (Sum ((List e8)×Int) ((List e8)×Int)):=fun(out6,v7)=>
 if(decide (v7<(l.length:Int)))=true then
  Option.bind (idx l v7) fun e14=>
  Option.bind (Y4 e14 v7) fun x16=>
  gd ((out6.length+x16.length)*48≤140737488355328∧out6.length+x16.length≤9223372036854775807)<|
  some (.inl ((out6++x16),(W (v7+1))))
 else
  some (.inr (out6,v7))
def a4b (l:(List b9)):Option (List e8):=
 Option.bind (r6 (Y5 l) ([],0)) fun(out18,v19)=>
 some out18
theorem a6j (l:(List b9)) (r:(List e8)) (hm:a4b l=some r):s9 Tryz.prog 72 [lD 8 l b9.c] (fun x=>x=lD 5 r e8.c):=by
 refine zn Tryz.func72 rfl ?_;obtain⟨ev20,he,hk21⟩:=d9 hm;refine d2T (Y5 l) (fun(out6,v7)=>⟨[(3, .row 0 5),(6,lD 8 l b9.c),(7,DI (l.length:Int)),(8,DI v7)], [(0,rE 5 out6 e8.c 53)],1⟩) ([],0) (sb 0) he ?_;rintro fu22 ⟨out6,v7⟩ b hm hi23;apply vb hm<;>intro _ hm;refine ei hm fun e25 hm=> ?_
 refine cy hm (a5b e25 v7) fun x27 hm=> ?_
 obtain⟨hg,hm⟩:=j4 hm;refine⟨hg,_,_,u0 (c:=e8.c) (l:=(out6:List e8)) (r:=(x27:List e8)), ?_⟩;cases hm;exact⟨(_,((out6++x27),(W (v7+1)))),sb 1,hi23,F6 _⟩;cases hm;cases hi23;have hm:=hk21;cases hm;exact d2S (d2Q _)
abbrev a8Z:MTy:=⟨114,119,9, [.int .i64, .int .i64, .int .i64],true, .string (⟨#[]⟩:ByteArray)⟩
theorem a6D:a9D Tryz.prog tt a8Z:=⟨by kernel_rfl,rfl,by kernel_rfl,by kernel_rfl,rfl⟩
abbrev a0t (k:C9):List Value:= [.int .i64 k.no, .int .i64 k.part, .int .i64 k.parts]
abbrev a3E (x:ByteArray):Value:= .string x
theorem a1X (a b:C9):V8 (a0t a) (B8 (F2 true (a0t b)))=decide (a=b):=by
 cases a;cases b;simp [V8,eqV,B8,F2,and_assoc];rfl
abbrev a6t (l:List (C9×ByteArray)):E:= .mp (mpE true a0t a3E l) a8Z
abbrev a9m:MTy:=⟨115,3,3, [.int .i64],false, .int .i64 0⟩
theorem a0a:a9D Tryz.prog tt a9m:=⟨by kernel_rfl,rfl,by kernel_rfl,by kernel_rfl,rfl⟩
abbrev K5 (k:Int):List Value:= [.int .i64 k]
abbrev S5 (x:Int):Value:= .int .i64 x
theorem G0 (a b:Int):V8 (K5 a) (B8 (F2 false (K5 b)))=decide (a=b):=by
 simp [V8,eqV,B8,F2];rfl
abbrev a6B (l:List (Int×Int)):E:= .mp (mpE false K5 S5 l) a9m
def O1 (x:e8):List D:= [.agg (e8.c x)]
def I4 (x1:(List e8)):Int→Option (List e8×Sum Int Int):=fun v10=>
 if(decide (v10<(x1.length:Int)))=true then
  Option.bind (idx x1 v10) fun e19=>
  Option.bind (a0V e19) fun x21=>
  if x21=true then
   emit e19<|
   some ([], .inl (W (v10+1)))
  else
   some ([], .inl (W (v10+1)))
 else
  some ([], .inr v10)
def a0m (c_0:o4):Option (List e8×Unit):=
 Option.bind (a1C c_0) fun x1=>
 b6I (b4K (I4 x1) 0) fun v25=>
 some ([],())
theorem b2C (c_0:o4) (xs:List e8) (hm:a0m c_0=some (xs,())):a7C Tryz.prog 128 [.ptr [lD 5 c_0.Thread e8.c,lD 5 c_0.Loose e8.c] 0] (xs.map O1):=by
 refine b9V (X:=⟨Tryz.prog,tt,Tryz.f128.ntmps, [], [], [], [], [], []⟩) pok _ _ [] Tryz.func128 rfl rfl (J1 rfl) rfl ?_;intro l;obtain⟨r,hr⟩:∃r:List e8×Unit,r=(xs,()):=⟨_,rfl⟩;rw [←hr]at hm;have hp:Hp3 O1 [] r.1 [] (xs.map O1):=⟨by rw [hr];simp⟩;clear hr;refine cy hm (a7x c_0) fun x1 hm=> ?_
 obtain⟨ev26,rr30,he,hk27,hb1,hb2⟩:=b4z hm;replace hp:=hp.in1 hb1;clear hb1 hb2;refine b1K.of (fun(lpx:Nat×Int)=>match lpx with|(fu28,v10)=>(⟨[(0, .v (.func (.yield l) #[] #[])),(1, .ptr [lD 5 c_0.Thread e8.c,lD 5 c_0.Loose e8.c] 0),(6,lD 5 x1 e8.c),(7,DI (x1.length:Int)),(8,DI v10)], [],0⟩:Sy)) (fun lpx q=>∃e,a4Y (I4 x1) lpx.1 lpx.2=some e∧Hp3 O1 q e.1 _ _∧e.2=ev26.2) (fun lpx=>lpx.1) (a2n,0) ⟨_,he,hp,rfl⟩ (sb 0) ?_
 clear hp he;rintro⟨fu28,v10⟩ q ⟨el32,hi29,hp,hx33⟩;obtain⟨fu28,b,tl,rfl,hm,hb1,hi29⟩:=b4b hi29;replace hp:=hp.in1 hb1;clear hb1;have hq:b.2=b.2:=rfl;apply vb hm<;>intro _ hm;refine ei hm fun e36 hm=> ?_
 refine cy hm (b2y e36) fun x38 hm=> ?_
 apply vb hm<;>intro _ hm;obtain⟨rb41,hm,hb1,hb2⟩:=b5Q hm;refine a4X.of (x':=O1 e36) rfl rfl (d2S (d2Q _)) (hp.pre hb1) ?_ ?_;replace hp:=hp.emit hb1;replace hq:=hq.trans hb2;cases hm;rw [hq]at hi29;obtain⟨e2,hm,rfl,ht⟩:=hi29;exact⟨(fu28,(W (v10+1))),_,sb 0,rfl,⟨_,hm,hp.out rfl,ht.symm.trans hx33⟩,F6 _⟩;exact .inl rfl;cases hm;rw [hq]at hi29;obtain⟨e2,hm,rfl,ht⟩:=hi29;exact⟨(fu28,(W (v10+1))),_,sb 0,rfl,⟨_,hm,hp.out rfl,ht.symm.trans hx33⟩,F6 _⟩;cases hm;rw [hq]at hi29;obtain⟨rfl,ht⟩:=hi29;replace hp:=(hp.out (l':= []) rfl).out rfl;have hm:=hk27
 try rw [←hx33,ht]at hm
 clear hq;cases hm;exact .inr (m9 some (hp.done rfl))
def Q4:((List (C9×ByteArray))×(List (Int×Int)))→e8→Option (Sum ((List (C9×ByteArray))×(List (Int×Int))) Unit):=fun(v9,v10) y3=>
 if(!((C6 v9 (⟨y3.No,y3.Part,y3.Parts⟩:C9)).isSome))=true then
  if(!((C6 v10 y3.No).isSome))=true then
   if(y3.Part==0)=true then
    some (.inl ((a6V v9 (⟨y3.No,y3.Part,y3.Parts⟩:C9) y3.Text),(a6V v10 y3.No y3.Parts)))
   else
    some (.inl ((a6V v9 (⟨y3.No,y3.Part,y3.Parts⟩:C9) y3.Text),v10))
  else
   some (.inl ((a6V v9 (⟨y3.No,y3.Part,y3.Parts⟩:C9) y3.Text),v10))
 else
  if(!((C6 v10 y3.No).isSome))=true then
   if(y3.Part==0)=true then
    some (.inl (v9,(a6V v10 y3.No y3.Parts)))
   else
    some (.inl (v9,v10))
  else
   some (.inl (v9,v10))
def E2 (v22:(List (C9×ByteArray))) (v23:(List (Int×Int))) (k45:Int):(ByteArray×Bool×Int)→Option (Sum (ByteArray×Bool×Int) (ByteArray×Bool×Int)):=fun(text68,fine69,v70)=>
 if(decide (v70<((C6 v23 k45).getD 0)))=true then
  gd (((text68.size+((C6 v22 (⟨k45,v70,((C6 v23 k45).getD 0)⟩:C9)).getD (⟨#[]⟩:ByteArray)).size:Nat):Int)≤9223372036854775807)<|
  if fine69=true then
   some (.inl ((text68++((C6 v22 (⟨k45,v70,((C6 v23 k45).getD 0)⟩:C9)).getD (⟨#[]⟩:ByteArray))),(C6 v22 (⟨k45,v70,((C6 v23 k45).getD 0)⟩:C9)).isSome,(W (v70+1))))
  else
   some (.inl ((text68++((C6 v22 (⟨k45,v70,((C6 v23 k45).getD 0)⟩:C9)).getD (⟨#[]⟩:ByteArray))),false,(W (v70+1))))
 else
  some (.inr (text68,fine69,v70))
def Q3 (v22:(List (C9×ByteArray))) (v23:(List (Int×Int))):((List b9)×Int)→Option (Sum ((List b9)×Int) ((List b9)×Int)):=fun(out44,k45)=>
 Option.bind (r6 (E2 v22 v23 k45) ((⟨#[]⟩:ByteArray),(decide (((C6 v23 k45).getD 0)>0)),0)) fun(text75,fine76,v77)=>
 if(!fine76)=true then
  some (.inr (out44,k45))
 else
  Option.bind (L1 text75) fun⟨x79,x80⟩=>
  if(!x80)=true then
   some (.inr (out44,k45))
  else
   Option.bind (a1Z out44 x79) fun x83=>
   if(!x83)=true then
    some (.inr (out44,k45))
   else
    gd ((out44.length+([x79]:List b9).length)*72≤140737488355328∧out44.length+([x79]:List b9).length≤9223372036854775807)<|
    some (.inl ((out44++([x79]:List b9)),(W (k45+1))))
def D0 (b_:o4):Option (o4×(List b9)):=
 Option.bind (a5g b_) fun x1=>
 Option.bind (a0m x1) fun l21=>
 Option.bind (P6 Q4 l21.1 (([]:List (C9×ByteArray)),([]:List (Int×Int)))) fun e=>
 match e with
 | .inl (v22,v23)=>
  Option.bind (r6 (Q3 v22 v23) ([],0)) fun(out100,k101)=>
  Option.bind (a4b out100) fun x102=>
  some ((⟨x102, []⟩:o4),out100)
 | .inr _=>none
theorem a0n (b_:o4) (r:(o4×(List b9))) (hm:D0 b_=some r):s9 Tryz.prog 15 [.agg (o4.c b_)] (fun x=>x= .tup [.agg (o4.c r.1),lD 8 r.2 b9.c]):=by
 refine c2u (X:=⟨Tryz.prog,tt,Tryz.f15.ntmps,d1W, [], [], [], [], []⟩) pok _ Tryz.func15 rfl rfl (J1 rfl) ?_;intro ds;intro ds;refine⟨a8Z,⟨rfl,a6D⟩, ?_⟩;intro ds;refine⟨a9m,⟨rfl,a0a⟩, ?_⟩;intro ds;refine cy hm (b5h b_) fun x1 hm=> ?_
 obtain⟨l21,hl155,hm⟩:=d9 hm;obtain⟨ev154,he,hm⟩:=d9 hm;refine a4V.ofZ (E:=Unit) O1 l21.1 Q4 (fun(lpx:((List (C9×ByteArray))×(List (Int×Int))))=>match lpx with|(v9,v10)=>(⟨[(0, .agg [lD 5 b_.Thread e8.c,lD 5 b_.Loose e8.c]),(1, .own 0 0),(2, .own 1 0),(3,nS),(4, .own 3 0),(5, .own 5 0)], [(0, .blk [lD 5 b_.Thread e8.c,lD 5 b_.Loose e8.c] 24),(1, .blk [nS,nS] 24),(2,a6t v9),(3, .blk [.row 2 0] 114),(4,a6B v10),(5, .blk [.row 4 0] 115)],6⟩:Sy)) (fun(_:Unit)=>(⟨[], [],0⟩:Sy)) (fun _=> .ret) (([]:List (C9×ByteArray)),([]:List (Int×Int))) ev154 [0,1,2,3,4,5] (b2C x1 l21.1 hl155) he (b8i pok Tryz.func128 rfl) rfl rfl (fun _=>rfl) rfl rfl rfl (by rintro⟨v9,v10⟩;rfl) (by intro _;rfl) (I5.of 6 rfl (tA rfl) ⟨hR rfl,hR rfl,⟨_,rfl,rfl⟩,hR rfl,⟨_,rfl,rfl⟩,hR rfl,trivial⟩) ?_ ?_ (fun _=> .inl rfl) ?_
 rintro⟨v22,v23⟩ rfl;intro ds;intro ds;intro ds;obtain⟨ev104,he,hk105⟩:=d9 hm;refine d2T (Q3 v22 v23) (fun(out44,k45)=>⟨[(2, .own 1 0),(4, .own 3 0),(5, .own 5 0),(12, .row 6 8),(13,DI k45)], [(1, .blk [nS,nS] 24),(2,a6t v22),(3, .blk [.row 2 0] 114),(4,a6B v23),(5, .blk [.row 4 0] 115),(6,rE 8 out44 b9.c 38)],7⟩) ([],0) (I5.of 6 rfl (tA rfl) ⟨hR rfl,⟨_,rfl,rfl⟩,hR rfl,⟨_,rfl,rfl⟩,hR rfl,⟨rfl,rfl⟩,trivial⟩) he ?_;rintro fu106 ⟨out44,k45⟩ b hm hi107;refine⟨rfl, ?_⟩;refine⟨⟨a0a,rfl⟩,K5 k45,_,_,⟨rfl,⟨rfl,trivial⟩,a4t (ev:=S5) (z':=0) G0 rfl,a4r G0,rfl⟩, ?_⟩;refine⟨⟨a0a,rfl⟩,K5 k45,_,_,⟨rfl,⟨rfl,trivial⟩,a4t (ev:=S5) (z':=0) G0 rfl,a4r G0,rfl⟩, ?_⟩;obtain⟨ev134,he,hk135⟩:=d9 hm;refine d2T (E2 v22 v23 k45) (fun(text110,fine111,v112)=>⟨[(2, .own 1 0),(4, .own 3 0),(5, .own 5 0),(12, .row 6 8),(13,DI k45),(14, .v (.string text110)),(15,DB fine111),(72,DI ((C6 v23 k45).getD 0)),(73,DI v112)], [(1, .blk [nS,nS] 24),(2,a6t v22),(3, .blk [.row 2 0] 114),(4,a6B v23),(5, .blk [.row 4 0] 115),(6,rE 8 out44 b9.c 38)],7⟩) ((⟨#[]⟩:ByteArray),(decide (((C6 v23 k45).getD 0)>0)),0) (I5.of 7 rfl (tA rfl) ⟨hR rfl,⟨_,rfl,rfl⟩,hR rfl,⟨_,rfl,rfl⟩,hR rfl,hW rfl,trivial⟩) he ?_;rintro fu136 ⟨text110,fine111,v112⟩ b hm hi137;apply vb hm<;>intro _ hm;refine⟨⟨a0a,rfl⟩,K5 k45,_,_,⟨rfl,⟨rfl,trivial⟩,a4t (ev:=S5) (z':=0) G0 rfl,a4r G0,rfl⟩, ?_⟩;refine⟨⟨a6D,rfl⟩,a0t (⟨k45,v112,((C6 v23 k45).getD 0)⟩:C9),_,_,⟨rfl,⟨rfl,rfl,rfl,trivial⟩,a4t (ev:=a3E) (z':=(⟨#[]⟩:ByteArray)) a1X rfl,a4r a1X,rfl⟩, ?_⟩;obtain⟨hg,hm⟩:=j4 hm;refine⟨hg, ?_⟩;apply vb hm<;>intro _ hm;cases hm;exact⟨(_,((text110++((C6 v22 (⟨k45,v112,((C6 v23 k45).getD 0)⟩:C9)).getD (⟨#[]⟩:ByteArray))),(C6 v22 (⟨k45,v112,((C6 v23 k45).getD 0)⟩:C9)).isSome,(W (v112+1)))),I5.of 7 rfl (tA rfl) ⟨hR rfl,⟨_,rfl,rfl⟩,hR rfl,⟨_,rfl,rfl⟩,hR rfl,hW rfl,trivial⟩,hi137,F6 _⟩;cases hm;exact⟨(_,((text110++((C6 v22 (⟨k45,v112,((C6 v23 k45).getD 0)⟩:C9)).getD (⟨#[]⟩:ByteArray))),false,(W (v112+1)))),I5.of 7 rfl (tA rfl) ⟨hR rfl,⟨_,rfl,rfl⟩,hR rfl,⟨_,rfl,rfl⟩,hR rfl,hW rfl,trivial⟩,hi137,F6 _⟩;cases hm;cases hi137;have hm:=hk135;apply vb hm<;>intro _ hm;cases hm;cases hi107;have hm:=hk105;intro ds;refine co hm (a6j out44) fun x141 hm=> ?_
 intro ds;cases hm;exact d2S (le1);refine cy hm (b4u text110) ?_;rintro⟨x143,x144⟩ hm;apply vb hm<;>intro _ hm;cases hm;cases hi107;have hm:=hk105;intro ds;refine co hm (a6j out44) fun x147 hm=> ?_
 intro ds;cases hm;exact d2S (le1);refine co hm (a9r out44 x143) fun x149 hm=> ?_
 apply vb hm<;>intro _ hm;cases hm;cases hi107;have hm:=hk105;intro ds;refine co hm (a6j out44) fun x152 hm=> ?_
 intro ds;cases hm;exact d2S (le1);refine⟨([x143]:List b9).flatMap b9.c,([x143]:List b9).length,⟨rfl,rfl⟩, ?_⟩;obtain⟨hg,hm⟩:=j4 hm;refine⟨hg,_,_,u0 (c:=b9.c) (l:=(out44:List b9)) (r:=(([x143]:List b9):List b9)), ?_⟩;cases hm;exact⟨(_,((out44++([x143]:List b9)),(W (k45+1)))),I5.of 7 rfl (tA rfl) ⟨hR rfl,⟨_,rfl,rfl⟩,hR rfl,⟨_,rfl,rfl⟩,hR rfl,hW rfl,trivial⟩,hi107,F6 _⟩;rintro _ rfl;cases hm;clear he hm;rintro⟨v9,v10⟩ y3 b hm;refine⟨⟨a6D,rfl⟩,a0t (⟨y3.No,y3.Part,y3.Parts⟩:C9),_,_,⟨rfl,⟨rfl,rfl,rfl,trivial⟩,a4t (ev:=a3E) (z':=(⟨#[]⟩:ByteArray)) a1X rfl,a4r a1X,rfl⟩, ?_⟩;apply vb hm<;>intro _ hm;refine⟨⟨a6D,rfl,rfl⟩,a0t (⟨y3.No,y3.Part,y3.Parts⟩:C9),_,⟨rfl,⟨rfl,rfl,rfl,trivial⟩,b7p (ev:=a3E) (v:=y3.Text) a1X⟩, ?_⟩;refine⟨⟨a0a,rfl⟩,K5 y3.No,_,_,⟨rfl,⟨rfl,trivial⟩,a4t (ev:=S5) (z':=0) G0 rfl,a4r G0,rfl⟩, ?_⟩;apply vb hm<;>intro _ hm;apply vb hm<;>intro _ hm;refine⟨⟨a0a,rfl,rfl⟩,K5 y3.No,_,⟨rfl,⟨rfl,trivial⟩,b7p (ev:=S5) (v:=y3.Parts) G0⟩, ?_⟩;cases hm;exact⟨((a6V v9 (⟨y3.No,y3.Part,y3.Parts⟩:C9) y3.Text),(a6V v10 y3.No y3.Parts)),rfl,I5.of 6 rfl (tA rfl) ⟨hR rfl,hR rfl,⟨_,rfl,rfl⟩,hR rfl,⟨_,rfl,rfl⟩,hR rfl,trivial⟩⟩;cases hm;exact⟨((a6V v9 (⟨y3.No,y3.Part,y3.Parts⟩:C9) y3.Text),v10),rfl,I5.of 6 rfl (tA rfl) ⟨hR rfl,hR rfl,⟨_,rfl,rfl⟩,hR rfl,⟨_,rfl,rfl⟩,hR rfl,trivial⟩⟩;cases hm;exact⟨((a6V v9 (⟨y3.No,y3.Part,y3.Parts⟩:C9) y3.Text),v10),rfl,I5.of 6 rfl (tA rfl) ⟨hR rfl,hR rfl,⟨_,rfl,rfl⟩,hR rfl,⟨_,rfl,rfl⟩,hR rfl,trivial⟩⟩;refine⟨⟨a0a,rfl⟩,K5 y3.No,_,_,⟨rfl,⟨rfl,trivial⟩,a4t (ev:=S5) (z':=0) G0 rfl,a4r G0,rfl⟩, ?_⟩;apply vb hm<;>intro _ hm;apply vb hm<;>intro _ hm;refine⟨⟨a0a,rfl,rfl⟩,K5 y3.No,_,⟨rfl,⟨rfl,trivial⟩,b7p (ev:=S5) (v:=y3.Parts) G0⟩, ?_⟩;cases hm;exact⟨(v9,(a6V v10 y3.No y3.Parts)),rfl,I5.of 6 rfl (tA rfl) ⟨hR rfl,hR rfl,⟨_,rfl,rfl⟩,hR rfl,⟨_,rfl,rfl⟩,hR rfl,trivial⟩⟩;cases hm;exact⟨(v9,v10),rfl,I5.of 6 rfl (tA rfl) ⟨hR rfl,hR rfl,⟨_,rfl,rfl⟩,hR rfl,⟨_,rfl,rfl⟩,hR rfl,trivial⟩⟩;cases hm;exact⟨(v9,v10),rfl,I5.of 6 rfl (tA rfl) ⟨hR rfl,hR rfl,⟨_,rfl,rfl⟩,hR rfl,⟨_,rfl,rfl⟩,hR rfl,trivial⟩⟩
def R8 (b_:o4):Option o4:=
 Option.bind (a1C b_) fun x1=>
 some (⟨x1, []⟩:o4)
theorem a6q (b_:o4) (r:o4) (hm:R8 b_=some r):s9 Tryz.prog 19 [.agg (o4.c b_)] (fun x=>x= .agg (o4.c r)):=by
 refine zn Tryz.func19 rfl ?_;refine cy hm (a7x b_) fun x1 hm=> ?_
 cases hm;exact d2S (le2)
def k9 (s:List e8):Option (List e8):=gd (s.length*48≤140737488355328∧s.length≤9223372036854775807) (some s)
theorem Q9 (s:List e8) (r:List e8) (hm:k9 s=some r):s9 Tryz.prog 78 [.lst 5 s.length (s.flatMap e8.c)] (fun x=>x= .lst 5 r.length (r.flatMap e8.c)):=by
 obtain⟨hg,hm⟩:=j4 hm;cases hm;refine zn Tryz.func78 rfl ?_;intro b hb;refine VIf.mk (fun h=> ?_) (fun h=> ?_)
 · have h0:=hb h;have h1:s= []:=a3t h0;subst h1;exact d2S d2R
 · refine⟨[],0,⟨rfl,rfl⟩, ?_⟩;exact⟨by omega,s.flatMap e8.c,s.length,⟨rfl,a0h _⟩,d2S (d2Q _)⟩
theorem I0 (s:List e8) (r:List e8) (hm:k9 s=some r):b6g Tryz.prog 78 [.lst 5 s.length (s.flatMap e8.c)] 5 r.length (r.flatMap e8.c) 53:=by
 obtain⟨hg,hm⟩:=j4 hm;cases hm;refine c2p (X:=⟨Tryz.prog,tt,Tryz.f78.ntmps, [], [], [], [], [], []⟩) pok _ Tryz.func78 rfl rfl (J1 rfl) ?_;intro b hb;refine VIf.mk (fun h=> ?_) (fun h=> ?_)
 · have h0:=hb h;have h1:s= []:=a3t h0;subst h1;exact⟨rfl,rfl⟩
 · refine⟨[],0,⟨rfl,rfl⟩, ?_⟩;exact⟨by omega,s.flatMap e8.c,s.length,⟨rfl,a0h _⟩,⟨rfl,rfl⟩⟩
def a1R (picks:(List Int)) (i:Int) (n:Int):Option Int:=
 if((picks.length:Int)==0)=true then
  some 0
 else
  gd ((picks.length:Int)≠0)<|
  Option.bind (idx picks (i.tmod (picks.length:Int))) fun e2=>
  gd (n≠0)<|
  gd (n≠0)<|
  some ((W ((e2.tmod n)+n)).tmod n)
theorem b0A (picks:(List Int)) (i:Int) (n:Int) (r:Int) (hm:a1R picks i n=some r):s9 Tryz.prog 79 [lD 1 picks cI,DI i,DI n] (fun x=>x=DI r):=by
 refine zn Tryz.func79 rfl ?_;apply vb hm<;>intro _ hm;exact hm.rr;obtain⟨hg,hm⟩:=j4 hm;refine⟨hg, ?_⟩;refine ei hm fun _ hm=> ?_
 obtain⟨hg,hm⟩:=j4 hm;refine⟨hg, ?_⟩;obtain⟨hg,hm⟩:=j4 hm;refine⟨hg, ?_⟩;exact hm.rr
def H4 (s:(List e8)) (i:Int) (v:(List e8)):Option (List e8):=
 gd (0≤i∧i.toNat≤s.length)<|
 if((v.length:Int)==0)=true then
  some s
 else
  if(i==(s.length:Int))=true then
   gd ((s.length+v.length)*48≤140737488355328∧s.length+v.length≤9223372036854775807)<|
   some (s++v)
  else
   gd (0≤i∧i.toNat<s.length∧0<v.length∧(s.length+v.length)*48≤140737488355328∧s.length+v.length≤9223372036854775807) (some (s.take i.toNat++v++s.drop i.toNat))
theorem a1D (s:(List e8)) (i:Int) (v:(List e8)) (r:(List e8)) (hm:H4 s i v=some r):b3c Tryz.prog 80 5 s.length (s.flatMap e8.c) 53 [DI i,lD 5 v e8.c] 5 r.length (r.flatMap e8.c):=by
 obtain⟨hg0,hm⟩:=j4 hm;refine c3k (X:=⟨Tryz.prog,tt,Tryz.f80.ntmps, [], [], [], [], [], []⟩) (t:=22) (tI:=3) (tB:=4) (ov:=132) (ty:=53) (args:= [lD 5 v e8.c]) pok Tryz.func80 rfl rfl .mk .mk (J1 rfl) hg0 rfl rfl rfl rfl rfl rfl (by kernel_rfl) ⟨⟨_,4,Tryz.func132,by kernel_rfl,by kernel_rfl,by kernel_rfl,by kernel_rfl⟩⟩ (by decide) ?_;apply vb hm<;>intro _ hm;cases hm;exact⟨rfl,rfl⟩;apply vb hm<;>intro _ hm;obtain⟨hg,hm⟩:=j4 hm;refine⟨hg,_,_,u0 (c:=e8.c) (l:=(s:List e8)) (r:=(v:List e8)), ?_⟩;cases hm;exact⟨rfl,rfl⟩;obtain⟨hg,hm⟩:=j4 hm;cases hm;exact d0B (fun _=>rfl) hg
def a3f (s:ByteArray):Option ByteArray:=
 Option.bind (M4 s) fun x1=>
 some x1
theorem b2x (s:ByteArray) (r:ByteArray) (hm:a3f s=some r):s9 Tryz.prog 81 [.v (.string s)] (fun x=>x= .v (.string r)):=by
 refine zn Tryz.func81 rfl ?_;refine cy hm (a3j s) fun x1 hm=> ?_
 cases hm;exact d2S (d2Q _)
def Q1 (b_:o4) (picks:(List Int)):(Int×(List e8)×(List e8)×(List e8)×(List e8))→Option (Sum (Int×(List e8)×(List e8)×(List e8)×(List e8)) (Int×(List e8)×(List e8)×(List e8)×(List e8))):=fun(v18,v19,v20,v21,v22)=>
 if(decide (v18<(b_.Loose.length:Int)))=true then
  Option.bind (idx b_.Loose v18) fun e39=>
  Option.bind (a1R picks (W (2*v18)) 4) fun x41=>
  if(x41==0)=true then
   some (.inl ((W (v18+1)),v19,v20,v21,v22))
  else
   if(x41==3)=true then
    Option.bind (H4 v22 0 ([e39]:List e8)) fun x45=>
    some (.inl ((W (v18+1)),v19,v20,v21,x45))
   else
    if(x41==1)=true then
     if(decide ((e39.Text.size:Int)>0))=true then
      Option.bind (a1R picks (W ((W (2*v18))+1)) (e39.Text.size:Int)) fun x49=>
      gd ((0≤x49∧x49≤(e39.Text.size:Int)))<|
      Option.bind (a3f (e39.Text.extract 0 ((x49).toNat))) fun x51=>
      gd ((v22.length+([(⟨e39.No,e39.Part,e39.Parts,e39.Size,x51⟩:e8)]:List e8).length)*48≤140737488355328∧v22.length+([(⟨e39.No,e39.Part,e39.Parts,e39.Size,x51⟩:e8)]:List e8).length≤9223372036854775807)<|
      some (.inl ((W (v18+1)),v19,v20,v21,(v22++([(⟨e39.No,e39.Part,e39.Parts,e39.Size,x51⟩:e8)]:List e8))))
     else
      gd ((v22.length+([e39]:List e8).length)*48≤140737488355328∧v22.length+([e39]:List e8).length≤9223372036854775807)<|
      some (.inl ((W (v18+1)),v19,v20,v21,(v22++([e39]:List e8))))
    else
     gd ((v22.length+([e39]:List e8).length)*48≤140737488355328∧v22.length+([e39]:List e8).length≤9223372036854775807)<|
     some (.inl ((W (v18+1)),v19,v20,v21,(v22++([e39]:List e8))))
 else
  some (.inr (v18,v19,v20,v21,v22))
def D3 (b_:o4) (picks:(List Int)):Option o4:=
 Option.bind (k9 b_.Thread) fun x1=>
 Option.bind (r6 (Q1 b_ picks) (0, [], [], [], [])) fun(v53,v54,v55,v56,v57)=>
 some (⟨x1,v57⟩:o4)
theorem a0o (b_:o4) (picks:(List Int)) (r:o4) (hm:D3 b_ picks=some r):s9 Tryz.prog 21 [.agg (o4.c b_),lD 1 picks cI] (fun x=>x= .agg (o4.c r)):=by
 refine zy d2x [80,112,155,175] [78] [] Tryz.func21 rfl ?_;obtain⟨x1,hx2,hm⟩:=d9 hm;refine .inl (a4s.mk ⟨_,_,_,_,I0 b_.Thread _ hx2, ?_⟩);obtain⟨ev58,he,hk59⟩:=d9 hm;refine d2T (Q1 b_ picks) (fun(v18,v19,v20,v21,v22)=>⟨[(1,lD 1 picks cI),(4, .own 1 0),(5, .own 3 0),(14,lD 5 b_.Loose e8.c),(15,DI (b_.Loose.length:Int)),(16,DI v18)], [(1, .blk [nS,nS] 24),(2,rE 5 x1 e8.c 53),(3, .blk [.row 2 5, .row 7 5] 24),(4,rE 5 v19 e8.c 53),(5,rE 5 v20 e8.c 53),(6,rE 5 v21 e8.c 53),(7,rE 5 v22 e8.c 53)],8⟩) (0, [], [], [], []) (sb 4) he ?_;rintro fu60 ⟨v18,v19,v20,v21,v22⟩ b hm hi61;apply vb hm<;>intro _ hm;refine ei hm fun e63 hm=> ?_
 refine cy hm (b0A picks (W (2*v18)) 4) fun x65 hm=> ?_
 apply vb hm<;>intro _ hm;cases hm;exact⟨(_,((W (v18+1)),v19,v20,v21,v22)),sb 8,hi61,F6 _⟩;apply vb hm<;>intro _ hm;refine⟨([e63]:List e8).flatMap e8.c,([e63]:List e8).length,⟨rfl,rfl⟩, ?_⟩;obtain⟨x69,hx70,hm⟩:=d9 hm;refine .inl (c2s.mk ⟨_,_,_,_,_,_,_,rfl,a1D v22 0 (([e63]:List e8)) _ hx70, ?_⟩);cases hm;exact⟨(_,((W (v18+1)),v19,v20,v21,x69)),sb 8,hi61,F6 _⟩;apply vb hm<;>intro _ hm;apply vb hm<;>intro _ hm;refine⟨rfl, ?_⟩;refine cy hm (b0A picks (W ((W (2*v18))+1)) ((e63.Text.size:Int))) fun x73 hm=> ?_
 obtain⟨hg,hm⟩:=j4 hm;refine⟨hg, ?_⟩;refine cy hm (b2x (e63.Text.extract 0 ((x73).toNat))) fun x75 hm=> ?_
 refine⟨([(⟨e63.No,e63.Part,e63.Parts,e63.Size,x75⟩:e8)]:List e8).flatMap e8.c,([(⟨e63.No,e63.Part,e63.Parts,e63.Size,x75⟩:e8)]:List e8).length,⟨rfl,rfl⟩, ?_⟩;obtain⟨hg,hm⟩:=j4 hm;refine⟨hg,_,_,u0 (c:=e8.c) (l:=(v22:List e8)) (r:=(([(⟨e63.No,e63.Part,e63.Parts,e63.Size,x75⟩:e8)]:List e8):List e8)), ?_⟩;cases hm;exact⟨(_,((W (v18+1)),v19,v20,v21,(v22++([(⟨e63.No,e63.Part,e63.Parts,e63.Size,x75⟩:e8)]:List e8)))),sb 8,hi61,F6 _⟩;refine⟨([e63]:List e8).flatMap e8.c,([e63]:List e8).length,⟨rfl,rfl⟩, ?_⟩;obtain⟨hg,hm⟩:=j4 hm;refine⟨hg,_,_,u0 (c:=e8.c) (l:=(v22:List e8)) (r:=(([e63]:List e8):List e8)), ?_⟩;cases hm;exact⟨(_,((W (v18+1)),v19,v20,v21,(v22++([e63]:List e8)))),sb 8,hi61,F6 _⟩;refine⟨([e63]:List e8).flatMap e8.c,([e63]:List e8).length,⟨rfl,rfl⟩, ?_⟩;obtain⟨hg,hm⟩:=j4 hm;refine⟨hg,_,_,u0 (c:=e8.c) (l:=(v22:List e8)) (r:=(([e63]:List e8):List e8)), ?_⟩;cases hm;exact⟨(_,((W (v18+1)),v19,v20,v21,(v22++([e63]:List e8)))),sb 8,hi61,F6 _⟩;cases hm;cases hi61;have hm:=hk59;cases hm;exact d2S (d2Q _)
def P1 (l:(List b9)):Int→Option (Sum Int (Sum Int Bool)):=fun v11=>
 if(decide (v11<(l.length:Int)))=true then
  Option.bind (idx l v11) fun e23=>
  Option.bind (s8 e23) fun x25=>
  if(!x25)=true then
   some (.inr (.inr false))
  else
   gd ((0≤v11∧v11≤(l.length:Int)))<|
   Option.bind (some (sub l 0 (v11).toNat)) fun sl28=>
   Option.bind (a1Z sl28 e23) fun x29=>
   if(!x29)=true then
    some (.inr (.inr false))
   else
    some (.inl (W (v11+1)))
 else
  some (.inr (.inl v11))
def O7 (l:(List b9)):Option Bool:=
 Option.bind (r6 (P1 l) 0) fun e=>
 match e with
 | .inl v32=>
  some true
 | .inr rr33=>
  some rr33
theorem a4n (l:(List b9)) (r:Bool) (hm:O7 l=some r):s9 Tryz.prog 107 [lD 8 l b9.c] (fun x=>x=DB r):=by
 refine zy d0E [] [] [] Tryz.func107 rfl ?_;obtain⟨ev34,he,hk35⟩:=d9 hm;refine d2T (P1 l) (fun v11=>⟨[(0,lD 8 l b9.c),(5,lD 8 l b9.c),(6,DI (l.length:Int)),(7,DI v11)], [],0⟩) 0 (sb 0) he ?_;rintro fu36 v11 b hm hi37;apply vb hm<;>intro _ hm;refine ei hm fun e39 hm=> ?_
 refine⟨rfl, ?_⟩;refine cy hm (B1 e39) fun x41 hm=> ?_
 apply vb hm<;>intro _ hm;cases hm;cases hi37;have hm:=hk35;exact hm.rr;obtain⟨hg,hm⟩:=j4 hm;obtain⟨sl44,hy,hm⟩:=d9 hm;refine⟨hg,_,(a0c (c:=b9.c) (z:=8) (fun _=>rfl) _ _ _).trans (m9 _ (G4 hy)), ?_⟩;have hl:sl44.length=(v11).toNat-0:=by rw [←G4 hy];exact a1L (by omega)
 rw [←hl];refine cy hm (a9r sl44 e39) fun x45 hm=> ?_
 apply vb hm<;>intro _ hm;cases hm;cases hi37;have hm:=hk35;exact hm.rr;cases hm;exact⟨(_,(W (v11+1))),sb 0,hi37,F6 _⟩;cases hm;cases hi37;have hm:=hk35;exact hm.rr
def B3 (s1:(List e8)) (s2:(List e8)):Int→Option (Sum Int (Sum Int Bool)):=fun v8=>
 if(decide (v8<(s1.length:Int)))=true then
  Option.bind (idx s1 v8) fun e16=>
  Option.bind (idx s2 v8) fun e18=>
  if(!((e16.No==e18.No)&&((e16.Part==e18.Part)&&((e16.Parts==e18.Parts)&&((e16.Size==e18.Size)&&(e16.Text.toList==e18.Text.toList))))))=true then
   some (.inr (.inr false))
  else
   some (.inl (W (v8+1)))
 else
  some (.inr (.inl v8))
def D4 (s1:(List e8)) (s2:(List e8)):Option Bool:=
 if((s1.length:Int) !=(s2.length:Int))=true then
  some false
 else
  Option.bind (r6 (B3 s1 s2) 0) fun e=>
  match e with
  | .inl v21=>
   some true
  | .inr rr22=>
   some rr22
theorem a2d (s1:(List e8)) (s2:(List e8)) (r:Bool) (hm:D4 s1 s2=some r):s9 Tryz.prog 135 [lD 5 s1 e8.c,lD 5 s2 e8.c] (fun x=>x=DB r):=by
 refine zy c9R [] [] [] Tryz.func135 rfl ?_;apply vb hm<;>intro _ hm;exact hm.rr;obtain⟨ev23,he,hk24⟩:=d9 hm;refine d2T (B3 s1 s2) (fun v8=>⟨[(0,lD 5 s1 e8.c),(1,lD 5 s2 e8.c),(12,DI (s1.length:Int)),(13,DI v8)], [],0⟩) 0 (sb 0) he ?_;rintro fu25 v8 b hm hi26;apply vb hm<;>intro _ hm;refine⟨rfl, ?_⟩;refine ei hm fun _ hm=> ?_
 refine ei hm fun _ hm=> ?_
 apply vb hm<;>intro _ hm;cases hm;cases hi26;have hm:=hk24;exact hm.rr;cases hm;exact⟨(_,(W (v8+1))),sb 0,hi26,F6 _⟩;cases hm;cases hi26;have hm:=hk24;exact hm.rr
def W9 (b_:o4) (written:(List b9)):Option Bool:=
 Option.bind (O7 written) fun x1=>
 if x1=true then
  Option.bind (a1C b_) fun x4=>
  Option.bind (a4b written) fun x6=>
  Option.bind (D4 x4 x6) fun x8=>
  some x8
 else
  some false
theorem b0o (b_:o4) (written:(List b9)) (r:Bool) (hm:W9 b_ written=some r):s9 Tryz.prog 83 [.agg (o4.c b_),lD 8 written b9.c] (fun x=>x=DB r):=by
 refine zn Tryz.func83 rfl ?_;refine cy hm (a4n written) fun x1 hm=> ?_
 apply vb hm<;>intro _ hm;refine cy hm (a7x b_) fun x4 hm=> ?_
 refine cy hm (a6j written) fun x6 hm=> ?_
 refine cy hm (a2d x4 x6) fun x8 hm=> ?_
 exact hm.rr;exact hm.rr
def D1 (b_:y0):(Int×Int×Int)→Option (Sum (Int×Int×Int) (Sum (Int×Int×Int) Bool)):=fun(v25,v26,v27)=>
 if(decide (v25<(b_.Records.length:Int)))=true then
  Option.bind (idx b_.Records v25) fun e53=>
  if(e53.At.Depot==v26)=true then
   if(e53.At.No==(W (v27+1)))=true then
    Option.bind (s8 e53) fun x57=>
    if(!x57)=true then
     some (.inr (.inr false))
    else
     some (.inl ((W (v25+1)),e53.At.Depot,e53.At.No))
   else
    if(decide (e53.At.Depot>v26))=true then
     Option.bind (s8 e53) fun x61=>
     if(!x61)=true then
      some (.inr (.inr false))
     else
      if(!(e53.At.No==0))=true then
       some (.inr (.inr false))
      else
       some (.inl ((W (v25+1)),e53.At.Depot,e53.At.No))
    else
     Option.bind (s8 e53) fun x65=>
     if(!x65)=true then
      some (.inr (.inr false))
     else
      some (.inr (.inr false))
  else
   if(decide (e53.At.Depot>v26))=true then
    Option.bind (s8 e53) fun x69=>
    if(!x69)=true then
     some (.inr (.inr false))
    else
     if(!(e53.At.No==0))=true then
      some (.inr (.inr false))
     else
      some (.inl ((W (v25+1)),e53.At.Depot,e53.At.No))
   else
    Option.bind (s8 e53) fun x73=>
    if(!x73)=true then
     some (.inr (.inr false))
    else
     some (.inr (.inr false))
 else
  some (.inr (.inl (v25,v26,v27)))
def K9 (b_:y0):Option Bool:=
 Option.bind (r6 (D1 b_) (0,(-1),0)) fun e=>
 match e with
 | .inl (v76,v77,v78)=>
  some (decide ((b_.Records.length:Int)≤60))
 | .inr rr79=>
  some rr79
theorem a4d (b_:y0) (r:Bool) (hm:K9 b_=some r):s9 Tryz.prog 101 [.agg (y0.c b_)] (fun x=>x=DB r):=by
 refine zn Tryz.func101 rfl ?_;obtain⟨ev80,he,hk81⟩:=d9 hm;refine d2T (D1 b_) (fun(v25,v26,v27)=>⟨[(1, .own 0 0),(3, .own 1 0),(9,lD 8 b_.Records b9.c),(10,DI (b_.Records.length:Int)),(11,DI v25)], [(0, .blk [lD 8 b_.Records b9.c] 70),(1, .blk [DI v26,DI v27] 36)],2⟩) (0,(-1),0) (sb 2) he ?_;rintro fu82 ⟨v25,v26,v27⟩ b hm hi83;apply vb hm<;>intro _ hm;refine ei hm fun e85 hm=> ?_
 apply vb hm<;>intro _ hm;apply vb hm<;>intro _ hm;refine cy hm (B1 e85) fun x89 hm=> ?_
 apply vb hm<;>intro _ hm;cases hm;cases hi83;have hm:=hk81;exact hm.rr;cases hm;exact⟨(_,((W (v25+1)),e85.At.Depot,e85.At.No)),sb 2,hi83,F6 _⟩;apply vb hm<;>intro _ hm;refine cy hm (B1 e85) fun x93 hm=> ?_
 apply vb hm<;>intro _ hm;cases hm;cases hi83;have hm:=hk81;exact hm.rr;apply vb hm<;>intro _ hm;cases hm;cases hi83;have hm:=hk81;exact hm.rr;cases hm;exact⟨(_,((W (v25+1)),e85.At.Depot,e85.At.No)),sb 2,hi83,F6 _⟩;refine cy hm (B1 e85) fun x97 hm=> ?_
 apply vb hm<;>intro _ hm;cases hm;cases hi83;have hm:=hk81;exact hm.rr;cases hm;cases hi83;have hm:=hk81;exact hm.rr;apply vb hm<;>intro _ hm;refine cy hm (B1 e85) fun x101 hm=> ?_
 apply vb hm<;>intro _ hm;cases hm;cases hi83;have hm:=hk81;exact hm.rr;apply vb hm<;>intro _ hm;cases hm;cases hi83;have hm:=hk81;exact hm.rr;cases hm;exact⟨(_,((W (v25+1)),e85.At.Depot,e85.At.No)),sb 2,hi83,F6 _⟩;refine cy hm (B1 e85) fun x105 hm=> ?_
 apply vb hm<;>intro _ hm;cases hm;cases hi83;have hm:=hk81;exact hm.rr;cases hm;cases hi83;have hm:=hk81;exact hm.rr;cases hm;cases hi83;have hm:=hk81;exact hm.rr
def j1 (s:List b9):Option (List b9):=gd (s.length*72≤140737488355328∧s.length≤9223372036854775807) (some s)
theorem a0C (s:List b9) (r:List b9) (hm:j1 s=some r):s9 Tryz.prog 102 [.lst 8 s.length (s.flatMap b9.c)] (fun x=>x= .lst 8 r.length (r.flatMap b9.c)):=by
 obtain⟨hg,hm⟩:=j4 hm;cases hm;refine zn Tryz.func102 rfl ?_;intro b hb;refine VIf.mk (fun h=> ?_) (fun h=> ?_)
 · have h0:=hb h;have h1:s= []:=a3t h0;subst h1;exact d2S d2R
 · refine⟨[],0,⟨rfl,rfl⟩, ?_⟩;exact⟨by omega,s.flatMap b9.c,s.length,⟨rfl,a0h _⟩,d2S (d2Q _)⟩
theorem l6 (s:List b9) (r:List b9) (hm:j1 s=some r):b6g Tryz.prog 102 [.lst 8 s.length (s.flatMap b9.c)] 8 r.length (r.flatMap b9.c) 38:=by
 obtain⟨hg,hm⟩:=j4 hm;cases hm;refine c2p (X:=⟨Tryz.prog,tt,Tryz.f102.ntmps, [], [], [], [], [], []⟩) pok _ Tryz.func102 rfl rfl (J1 rfl) ?_;intro b hb;refine VIf.mk (fun h=> ?_) (fun h=> ?_)
 · have h0:=hb h;have h1:s= []:=a3t h0;subst h1;exact⟨rfl,rfl⟩
 · refine⟨[],0,⟨rfl,rfl⟩, ?_⟩;exact⟨by omega,s.flatMap b9.c,s.length,⟨rfl,a0h _⟩,⟨rfl,rfl⟩⟩
def Y1 (vals:(List Int)):Int→Option (Sum Int (Sum Int Int)):=fun v5=>
 if(decide (v5<(vals.length:Int)))=true then
  Option.bind (idx vals v5) fun e11=>
  if(e11 !=0)=true then
   some (.inr (.inr e11))
  else
   some (.inl (W (v5+1)))
 else
  some (.inr (.inl v5))
def a3w (vals:(List Int)):Option Int:=
 Option.bind (r6 (Y1 vals) 0) fun e=>
 match e with
 | .inl v14=>
  some 0
 | .inr rr15=>
  some rr15
theorem b8e (vals:(List Int)) (r:Int) (hm:a3w vals=some r):s9 Tryz.prog 165 [lD 1 vals cI] (fun x=>x=DI r):=by
 refine zn Tryz.func165 rfl ?_;obtain⟨ev16,he,hk17⟩:=d9 hm;refine d2T (Y1 vals) (fun v5=>⟨[(3,DI 0),(6,lD 1 vals cI),(7,DI (vals.length:Int)),(8,DI v5)], [],0⟩) 0 (sb 0) he ?_;rintro fu18 v5 b hm hi19;apply vb hm<;>intro _ hm;refine ei hm fun _ hm=> ?_
 apply vb hm<;>intro _ hm;cases hm;cases hi19;have hm:=hk17;exact hm.rr;cases hm;exact⟨(_,(W (v5+1))),sb 0,hi19,F6 _⟩;cases hm;cases hi19;have hm:=hk17;exact hm.rr
def a0W (x:Int):Option Bool:=
 some (x !=x)
theorem a6Q (x:Int) (r:Bool) (hm:a0W x=some r):s9 Tryz.prog 178 [DI x] (fun x=>x=DB r):=by
 refine zn Tryz.func178 rfl ?_;exact hm.rr
def R6 (x:Int) (y:Int):Option Int:=
 Option.bind (a0W x) fun x1=>
 Option.bind (a0W y) fun x3=>
 if x1=true then
  if x3=true then
   some 0
  else
   some (-1)
 else
  if x3=true then
   some 1
  else
   if(decide (x<y))=true then
    some (-1)
   else
    if(decide (x>y))=true then
     some 1
    else
     some 0
theorem a4y (x:Int) (y:Int) (r:Int) (hm:R6 x y=some r):s9 Tryz.prog 166 [DI x,DI y] (fun x=>x=DI r):=by
 refine zn Tryz.func166 rfl ?_;refine cy hm (a6Q x) fun x1 hm=> ?_
 refine cy hm (a6Q y) fun x3 hm=> ?_
 apply vb hm<;>intro _ hm;apply vb hm<;>intro _ hm;exact hm.rr;exact hm.rr;apply vb hm<;>intro _ hm;exact hm.rr;apply vb hm<;>intro _ hm;exact hm.rr;apply vb hm<;>intro _ hm;exact hm.rr;exact hm.rr
def a3g (a:p0) (b_:p0):Option Int:=
 Option.bind (R6 a.Depot b_.Depot) fun x1=>
 Option.bind (R6 a.No b_.No) fun x3=>
 Option.bind (a3w ([x1,x3]:List Int)) fun x5=>
 some x5
theorem b2q (a:p0) (b_:p0) (r:Int) (hm:a3g a b_=some r):s9 Tryz.prog 147 [.agg (p0.c a), .agg (p0.c b_)] (fun x=>x=DI r):=by
 refine zy d1J [] [] [] Tryz.func147 rfl ?_;refine⟨rfl, ?_⟩;refine cy hm (a4y a.Depot b_.Depot) fun x1 hm=> ?_
 refine cy hm (a4y a.No b_.No) fun x3 hm=> ?_
 refine⟨([x1,x3]:List Int).flatMap cI,([x1,x3]:List Int).length,⟨rfl,rfl⟩, ?_⟩;refine co hm (b8e (([x1,x3]:List Int))) fun x5 hm=> ?_
 exact hm.rr
def Z9 (r_:b9) (at_:p0):Option Int:=
 Option.bind (a3g r_.At at_) fun x1=>
 some x1
theorem a7F (r_:b9) (at_:p0) (r:Int) (hm:Z9 r_ at_=some r):s9 Tryz.prog 146 [.agg (b9.c r_), .agg (p0.c at_)] (fun x=>x=DI r):=by
 refine zn Tryz.func146 rfl ?_;refine cy hm (b2q r_.At at_) fun x1 hm=> ?_
 exact hm.rr
def l4 (x:(List b9)) (target:p0):(Int×Int)→Option (Sum (Int×Int) (Int×Int)):=fun(i7,j8)=>
 if(decide (i7<j8))=true then
  Option.bind (idx x (W ((IntKind.u64.wrap (W (i7+j8))).fdiv (2^(min (1:Int).toNat IntKind.u64.bits))))) fun e16=>
  Option.bind (Z9 e16 target) fun x18=>
  if(decide (x18<0))=true then
   some (.inl ((W ((W ((IntKind.u64.wrap (W (i7+j8))).fdiv (2^(min (1:Int).toNat IntKind.u64.bits))))+1)),j8))
  else
   some (.inl (i7,(W ((IntKind.u64.wrap (W (i7+j8))).fdiv (2^(min (1:Int).toNat IntKind.u64.bits))))))
 else
  some (.inr (i7,j8))
def n8 (x:(List b9)) (target:p0):Option (Int×Bool):=
 Option.bind (r6 (l4 x target) (0,(x.length:Int))) fun(i21,j22)=>
 if(decide (i21<(x.length:Int)))=true then
  Option.bind (idx x i21) fun e24=>
  Option.bind (Z9 e24 target) fun x26=>
  some (i21,(x26==0))
 else
  some (i21,false)
theorem E7 (x:(List b9)) (target:p0) (r:(Int×Bool)) (hm:n8 x target=some r):s9 Tryz.prog 145 [lD 8 x b9.c, .agg (p0.c target), .fn 146 [] []] (fun x=>x= .tup [DI r.1,DB r.2]):=by
 refine zy c9Q [] [] [] Tryz.func145 rfl ?_;obtain⟨ev28,he,hk29⟩:=d9 hm;refine d2T (l4 x target) (fun(i7,j8)=>⟨[(0,lD 8 x b9.c),(2, .fn 146 [] []),(4, .own 0 0),(8,DI (x.length:Int)),(9,DI i7),(10,DI j8)], [(0, .blk [DI target.Depot,DI target.No] 36)],1⟩) (0,(x.length:Int)) (sb 1) he ?_;rintro fu30 ⟨i7,j8⟩ b hm hi31;apply vb hm<;>intro _ hm;refine⟨by decide, ?_⟩;refine⟨rfl, ?_⟩;refine ei hm fun e33 hm=> ?_
 refine cy hm (a7F e33 target) fun x35 hm=> ?_
 apply vb hm<;>intro _ hm;cases hm;exact⟨(_,((W ((W ((IntKind.u64.wrap (W (i7+j8))).fdiv (2^(min (1:Int).toNat IntKind.u64.bits))))+1)),j8)),sb 1,hi31,F6 _⟩;cases hm;exact⟨(_,(i7,(W ((IntKind.u64.wrap (W (i7+j8))).fdiv (2^(min (1:Int).toNat IntKind.u64.bits)))))),sb 1,hi31,F6 _⟩;cases hm;cases hi31;have hm:=hk29;refine⟨rfl, ?_⟩;apply vb hm<;>intro _ hm;refine ei hm fun e39 hm=> ?_
 refine cy hm (a7F e39 target) fun x41 hm=> ?_
 cases hm;exact d2S (d2Q _);cases hm;exact d2S (d2Q _)
def W8 (b_:y0) (at_:p0):Option (Int×Bool):=
 Option.bind (n8 b_.Records at_) fun⟨x1,x2⟩=>
 some (x1,x2)
theorem a9C (b_:y0) (at_:p0) (r:(Int×Bool)) (hm:W8 b_ at_=some r):s9 Tryz.prog 103 [.agg (y0.c b_), .agg (p0.c at_)] (fun x=>x= .tup [DI r.1,DB r.2]):=by
 refine zn Tryz.func103 rfl ?_;refine cy hm (E7 b_.Records at_) ?_;rintro⟨x1,x2⟩ hm;cases hm;exact d2S (d2Q _)
def a0d (b_:y0) (r_:b9):Option (y0×Int):=
 Option.bind (K9 b_) fun x1=>
 if(!x1)=true then
  some ((⟨[]⟩:y0),81)
 else
  Option.bind (s8 r_) fun x4=>
  if(!x4)=true then
   some ((⟨[]⟩:y0),80)
  else
   Option.bind (W8 b_ r_.At) fun⟨x7,x8⟩=>
   if x8=true then
    Option.bind (idx b_.Records x7) fun e11=>
    if((e11.At.Depot==r_.At.Depot)&&((e11.At.No==r_.At.No)&&((e11.Kind==r_.Kind)&&((e11.Day==r_.Day)&&((e11.Known==r_.Known)&&((e11.Of.Depot==r_.Of.Depot)&&((e11.Of.No==r_.Of.No)&&(e11.Text.toList==r_.Text.toList))))))))=true then
     Option.bind (u5 b_.Records) fun x14=>
     some (x14,0)
    else
     some ((⟨[]⟩:y0),82)
   else
    Option.bind (S8 b_.Records) fun x16=>
    Option.bind (idx [x16.1,x16.2.1,x16.2.2.1,x16.2.2.2.1,x16.2.2.2.2.1,x16.2.2.2.2.2] r_.At.Depot) fun e18=>
    if(decide (e18<r_.At.No))=true then
     some ((⟨[]⟩:y0),83)
    else
     if((b_.Records.length:Int)==60)=true then
      some ((⟨[]⟩:y0),2)
     else
      Option.bind (j1 b_.Records) fun x22=>
      gd ((x22.length+([r_]:List b9).length)*72≤140737488355328∧x22.length+([r_]:List b9).length≤9223372036854775807)<|
      Option.bind (u5 (x22++([r_]:List b9))) fun x24=>
      some (x24,0)
theorem b9r (b_:y0) (r_:b9) (r:(y0×Int)) (hm:a0d b_ r_=some r):s9 Tryz.prog 46 [.agg (y0.c b_), .agg (b9.c r_)] (fun x=>x= .tup [.agg (y0.c r.1),DI r.2]):=by
 refine zy d2j [80,112,155,175] [102] [] Tryz.func46 rfl ?_;refine cy hm (a4d b_) fun x1 hm=> ?_
 apply vb hm<;>intro _ hm;cases hm;exact d2S (le3);refine cy hm (B1 r_) fun x4 hm=> ?_
 apply vb hm<;>intro _ hm;cases hm;exact d2S (le3);refine cy hm (a9C b_ r_.At) ?_;rintro⟨x7,x8⟩ hm;refine⟨rfl, ?_⟩;apply vb hm<;>intro h10 hm;refine ei hm fun _ hm=> ?_
 apply vb hm<;>intro _ hm;refine cy hm (V1 b_.Records) fun x14 hm=> ?_
 cases hm;exact d2S (d2Q _);refine VIf.t h10 ?_;cases hm;exact d2S (le3);refine VIf.f h10 ?_;refine⟨rfl, ?_⟩;refine cy hm (a1j b_.Records) fun x16 hm=> ?_
 obtain⟨e18,hx19,hm⟩:=d9 hm;refine⟨a3k hx19,_,ldx (c:=cI) (z:=1) (pre:= []) (post:= []) (b:=0) (off:=0) (fun _=>rfl) hx19 rfl rfl (by omega) rfl, ?_⟩;apply vb hm<;>intro _ hm;cases hm;exact d2S (le3);apply vb hm<;>intro _ hm;cases hm;exact d2S (le3);refine⟨rfl, ?_⟩;refine⟨?_, ?_⟩;obtain⟨x22,hx23,hm⟩:=d9 hm;refine .inl (a4s.mk ⟨_,_,_,_,l6 b_.Records _ hx23, ?_⟩);refine⟨([r_]:List b9).flatMap b9.c,([r_]:List b9).length,⟨rfl,rfl⟩, ?_⟩;obtain⟨hg,hm⟩:=j4 hm;refine⟨hg,_,_,u0 (c:=b9.c) (l:=(x22:List b9)) (r:=(([r_]:List b9):List b9)), ?_⟩;refine co hm (V1 ((x22++([r_]:List b9)))) fun x24 hm=> ?_
 cases hm;exact d2S (d2Q _);refine⟨([r_]:List b9).flatMap b9.c,([r_]:List b9).length,⟨rfl,rfl⟩, ?_⟩;obtain⟨x26,hx27,hm⟩:=d9 hm;refine .inl (a4s.mk ⟨_,_,_,_,l6 b_.Records _ hx27, ?_⟩);obtain⟨hg,hm⟩:=j4 hm;refine⟨hg,_,_,u0 (c:=b9.c) (l:=(x26:List b9)) (r:=(([r_]:List b9):List b9)), ?_⟩;refine co hm (V1 ((x26++([r_]:List b9)))) fun x28 hm=> ?_
 cases hm;exact d2S (d2Q _)
def o5 (s:(List b9)) (v:b9):Int→Option (Sum Int (Sum Int Int)):=fun v5=>
 if(decide (v5<(s.length:Int)))=true then
  Option.bind (idx s v5) fun e11=>
  if((v.At.Depot==e11.At.Depot)&&((v.At.No==e11.At.No)&&((v.Kind==e11.Kind)&&((v.Day==e11.Day)&&((v.Known==e11.Known)&&((v.Of.Depot==e11.Of.Depot)&&((v.Of.No==e11.Of.No)&&(v.Text.toList==e11.Text.toList))))))))=true then
   some (.inr (.inr v5))
  else
   some (.inl (W (v5+1)))
 else
  some (.inr (.inl v5))
def E6 (s:(List b9)) (v:b9):Option Int:=
 Option.bind (r6 (o5 s v) 0) fun e=>
 match e with
 | .inl v14=>
  some (-1)
 | .inr rr15=>
  some rr15
theorem a0E (s:(List b9)) (v:b9) (r:Int) (hm:E6 s v=some r):s9 Tryz.prog 161 [lD 8 s b9.c, .agg (b9.c v)] (fun x=>x=DI r):=by
 refine zy d0S [] [] [] Tryz.func161 rfl ?_;obtain⟨ev16,he,hk17⟩:=d9 hm;refine d2T (o5 s v) (fun v5=>⟨[(0,lD 8 s b9.c),(3, .own 0 0),(7,DI (s.length:Int)),(8,DI v5)], [(0, .blk (b9.c v) 38)],1⟩) 0 (sb 1) he ?_;rintro fu18 v5 b hm hi19;apply vb hm<;>intro _ hm;refine⟨rfl, ?_⟩;refine ei hm fun _ hm=> ?_
 apply vb hm<;>intro _ hm;cases hm;cases hi19;have hm:=hk17;exact hm.rr;cases hm;exact⟨(_,(W (v5+1))),sb 1,hi19,F6 _⟩;cases hm;cases hi19;have hm:=hk17;exact hm.rr
def u1 (s:(List b9)) (v:b9):Option Bool:=
 Option.bind (E6 s v) fun x1=>
 some (decide (x1≥0))
theorem Z4 (s:(List b9)) (v:b9) (r:Bool) (hm:u1 s v=some r):s9 Tryz.prog 136 [lD 8 s b9.c, .agg (b9.c v)] (fun x=>x=DB r):=by
 refine zn Tryz.func136 rfl ?_;refine cy hm (a0E s v) fun x1 hm=> ?_
 exact hm.rr
def D8 (b_:o4):Option o4:=
 Option.bind (k9 b_.Thread) fun x1=>
 Option.bind (k9 b_.Loose) fun x3=>
 some (⟨x1,x3⟩:o4)
theorem b3W (b_:o4) (r:o4) (hm:D8 b_=some r):s9 Tryz.prog 137 [.agg (o4.c b_)] (fun x=>x= .agg (o4.c r)):=by
 refine zy c8L [] [] [] Tryz.func137 rfl ?_;refine⟨rfl, ?_⟩;obtain⟨x1,hx2,hm⟩:=d9 hm;refine a8z.det (Q9 b_.Thread _ hx2) ?_;obtain⟨x3,hx4,hm⟩:=d9 hm;refine a8z.det (Q9 b_.Loose _ hx4) ?_;cases hm;exact d2S (d2Q _)
theorem a0U (b_:o4) (r:o4) (hm:D8 b_=some r):b9f Tryz.prog 137 [.agg (o4.c b_)] [(5,r.Thread.length,r.Thread.flatMap e8.c,53),(5,r.Loose.length,r.Loose.flatMap e8.c,53)] [.row 0 5, .row 1 5]:=by
 refine c8k (X:=⟨Tryz.prog,tt,Tryz.f137.ntmps,c8L, [80,112,155,175], [78], [], [], []⟩) pok _ Tryz.func137 rfl rfl (J1 rfl) rfl ?_;refine⟨rfl, ?_⟩;obtain⟨x1,hx2,hm⟩:=d9 hm;refine .inl (a4s.mk ⟨_,_,_,_,I0 b_.Thread _ hx2, ?_⟩);obtain⟨x3,hx4,hm⟩:=d9 hm;refine .inl (a4s.mk ⟨_,_,_,_,I0 b_.Loose _ hx4, ?_⟩);cases hm;exact⟨rfl,⟨⟨rfl,rfl,rfl,rfl⟩,⟨⟨rfl,rfl,rfl,rfl⟩,rfl⟩⟩⟩
def M9 (b_:o4) (written:(List b9)) (r_:b9):Option (o4×(List b9)×Int):=
 Option.bind (u1 written r_) fun x1=>
 if x1=true then
  Option.bind (D8 b_) fun x4=>
  Option.bind (j1 written) fun x6=>
  some (x4,x6,0)
 else
  Option.bind (u5 written) fun x8=>
  Option.bind (a0d x8 r_) fun⟨x10,x11⟩=>
  if(x11 !=0)=true then
   some ((⟨[], []⟩:o4), [],x11)
  else
   Option.bind (D8 b_) fun x14=>
   Option.bind (Y4 r_ (written.length:Int)) fun x16=>
   gd ((x14.Loose.length+x16.length)*48≤140737488355328∧x14.Loose.length+x16.length≤9223372036854775807)<|
   Option.bind (j1 written) fun x18=>
   gd ((x18.length+([r_]:List b9).length)*72≤140737488355328∧x18.length+([r_]:List b9).length≤9223372036854775807)<|
   some ((⟨x14.Thread,(x14.Loose++x16)⟩:o4),(x18++([r_]:List b9)),0)
theorem a4W (b_:o4) (written:(List b9)) (r_:b9) (r:(o4×(List b9)×Int)) (hm:M9 b_ written r_=some r):s9 Tryz.prog 84 [.agg (o4.c b_),lD 8 written b9.c, .agg (b9.c r_)] (fun x=>x= .tup [.agg (o4.c r.1),lD 8 r.2.1 b9.c,DI r.2.2]):=by
 refine zy d2L [80,112,155,175] [102,137] [] Tryz.func84 rfl ?_;refine cy hm (Z4 written r_) fun x1 hm=> ?_
 apply vb hm<;>intro _ hm;obtain⟨x4,hx5,hm⟩:=d9 hm;refine .inr (b3U.mk ⟨_,_,a0U b_ _ hx5, ?_⟩);obtain⟨x6,hx7,hm⟩:=d9 hm;refine .inl (a4s.mk ⟨_,_,_,_,l6 written _ hx7, ?_⟩);cases hm;exact d2S (d2Q _);refine⟨rfl, ?_⟩;refine cy hm (V1 written) fun x8 hm=> ?_
 refine cy hm (b9r x8 r_) ?_;rintro⟨x10,x11⟩ hm;apply vb hm<;>intro _ hm;cases hm;exact d2S (le4);obtain⟨x14,hx15,hm⟩:=d9 hm;refine .inr (b3U.mk ⟨_,_,a0U b_ _ hx15, ?_⟩);refine⟨rfl, ?_⟩;refine cy hm (a5b r_ ((written.length:Int))) fun x16 hm=> ?_
 obtain⟨hg,hm⟩:=j4 hm;refine⟨hg,_,_,u0 (c:=e8.c) (l:=(x14.Loose:List e8)) (r:=(x16:List e8)), ?_⟩;refine⟨rfl, ?_⟩;refine⟨?_, ?_⟩;obtain⟨x18,hx19,hm⟩:=d9 hm;refine .inl (a4s.mk ⟨_,_,_,_,l6 written _ hx19, ?_⟩);refine⟨([r_]:List b9).flatMap b9.c,([r_]:List b9).length,⟨rfl,rfl⟩, ?_⟩;obtain⟨hg,hm⟩:=j4 hm;refine⟨hg,_,_,u0 (c:=b9.c) (l:=(x18:List b9)) (r:=(([r_]:List b9):List b9)), ?_⟩;cases hm;exact d2S (d2Q _);refine⟨([r_]:List b9).flatMap b9.c,([r_]:List b9).length,⟨rfl,rfl⟩, ?_⟩;obtain⟨x20,hx21,hm⟩:=d9 hm;refine .inl (a4s.mk ⟨_,_,_,_,l6 written _ hx21, ?_⟩);obtain⟨hg,hm⟩:=j4 hm;refine⟨hg,_,_,u0 (c:=b9.c) (l:=(x20:List b9)) (r:=(([r_]:List b9):List b9)), ?_⟩;cases hm;exact d2S (d2Q _)
def a2Q (b_:o4) (written:(List b9)) (r_:b9):Option (o4×(List b9)×Int):=
 Option.bind (W9 b_ written) fun x1=>
 if(!x1)=true then
  some ((⟨[], []⟩:o4), [],84)
 else
  Option.bind (M9 b_ written r_) fun⟨x4,x5,x6⟩=>
  some (x4,x5,x6)
theorem b5f (b_:o4) (written:(List b9)) (r_:b9) (r:(o4×(List b9)×Int)) (hm:a2Q b_ written r_=some r):s9 Tryz.prog 23 [.agg (o4.c b_),lD 8 written b9.c, .agg (b9.c r_)] (fun x=>x= .tup [.agg (o4.c r.1),lD 8 r.2.1 b9.c,DI r.2.2]):=by
 refine zn Tryz.func23 rfl ?_;refine cy hm (b0o b_ written) fun x1 hm=> ?_
 apply vb hm<;>intro _ hm;cases hm;exact d2S (le4);refine cy hm (a4W b_ written r_) ?_;rintro⟨x4,x5,x6⟩ hm;cases hm;exact d2S (d2Q _)
def a1Q (r_:b9):Option (ByteArray×Int):=
 Option.bind (s8 r_) fun x1=>
 if(!x1)=true then
  some ((⟨#[]⟩:ByteArray),80)
 else
  Option.bind (K6 r_) fun x4=>
  some (x4,0)
theorem b3P (r_:b9) (r:(ByteArray×Int)) (hm:a1Q r_=some r):s9 Tryz.prog 29 [.agg (b9.c r_)] (fun x=>x= .tup [.v (.string r.1),DI r.2]):=by
 refine zn Tryz.func29 rfl ?_;refine cy hm (B1 r_) fun x1 hm=> ?_
 apply vb hm<;>intro _ hm;cases hm;exact d2S (d2Q _);refine cy hm (a7h r_) fun x4 hm=> ?_
 cases hm;exact d2S (d2Q _)
def a2M (r_:b9) (no:Int):Option ((List e8)×Int):=
 Option.bind (s8 r_) fun x1=>
 if(!x1)=true then
  some ([],80)
 else
  Option.bind (B0 no 0 59) fun x4=>
  if(!x4)=true then
   some ([],1)
  else
   Option.bind (Y4 r_ no) fun x7=>
   some (x7,0)
theorem b5x (r_:b9) (no:Int) (r:((List e8)×Int)) (hm:a2M r_ no=some r):s9 Tryz.prog 33 [.agg (b9.c r_),DI no] (fun x=>x= .tup [lD 5 r.1 e8.c,DI r.2]):=by
 refine zn Tryz.func33 rfl ?_;refine cy hm (B1 r_) fun x1 hm=> ?_
 apply vb hm<;>intro _ hm;cases hm;exact d2S (le5);refine cy hm (F5 no 0 59) fun x4 hm=> ?_
 apply vb hm<;>intro _ hm;cases hm;exact d2S (le5);refine cy hm (a5b r_ no) fun x7 hm=> ?_
 cases hm;exact d2S (d2Q _)
def a6l:Option Bool:=
 Option.bind (a1Q (⟨(⟨2,0⟩:p0),5,10,12,(⟨0,0⟩:p0),(⟨#[97,32,108,97,109,112,32,111,110,32,116,104,101,32,113,117,97,121]⟩:ByteArray)⟩:b9)) fun⟨x1,x2⟩=>
 Option.bind (a2M (⟨(⟨2,0⟩:p0),5,10,12,(⟨0,0⟩:p0),(⟨#[97,32,108,97,109,112,32,111,110,32,116,104,101,32,113,117,97,121]⟩:ByteArray)⟩:b9) 3) fun⟨x4,x5⟩=>
 Option.bind (a2Q (⟨[], []⟩:o4) [] (⟨(⟨2,0⟩:p0),5,10,12,(⟨0,0⟩:p0),(⟨#[97,32,108,97,109,112,32,111,110,32,116,104,101,32,113,117,97,121]⟩:ByteArray)⟩:b9)) fun⟨x7,x8,x9⟩=>
 Option.bind (D3 x7 ([2,0]:List Int)) fun x11=>
 Option.bind (D0 x11) fun⟨x13,x14⟩=>
 Option.bind (D3 x7 ([3,0]:List Int)) fun x16=>
 Option.bind (D0 x16) fun⟨x18,x19⟩=>
 Option.bind (D3 x7 ([2,0,0,0]:List Int)) fun x21=>
 Option.bind (D0 x21) fun⟨x23,x24⟩=>
 Option.bind (D3 x7 ([2,0,1,9]:List Int)) fun x26=>
 Option.bind (D0 x26) fun⟨x28,x29⟩=>
 Option.bind (R8 x7) fun x31=>
 Option.bind (D3 x31 ([0,0]:List Int)) fun x33=>
 Option.bind (D0 x33) fun⟨x35,x36⟩=>
 if(x2==0)=true then
  if(x5==0)=true then
   if(x9==0)=true then
    if((x8.length:Int)==1)=true then
     if((x4.length:Int)==2)=true then
      if((x7.Thread.length:Int)==0)=true then
       if((x7.Loose.length:Int)==2)=true then
        Option.bind (idx x4 0) fun e45=>
        if((e45.No==3)&&((e45.Part==0)&&((e45.Parts==2)&&((e45.Size==24)&&(e45.Text.toList==(⟨#[50,32,48,32,53,32,49,48,32,49,50,32,48,32,48,32,97,32,108,97,109,112,32,111]⟩:ByteArray).toList)))))=true then
         Option.bind (idx x4 1) fun e48=>
         if((e48.No==3)&&((e48.Part==1)&&((e48.Parts==2)&&((e48.Size==10)&&(e48.Text.toList==(⟨#[110,32,116,104,101,32,113,117,97,121]⟩:ByteArray).toList)))))=true then
          if(x1.toList==(⟨#[50,32,48,32,53,32,49,48,32,49,50,32,48,32,48,32,97,32,108,97,109,112,32,111,110,32,116,104,101,32,113,117,97,121]⟩:ByteArray).toList)=true then
           if((x14.length:Int)==1)=true then
            if((x19.length:Int)==1)=true then
             if((x24.length:Int)==0)=true then
              if((x29.length:Int)==0)=true then
               if((x36.length:Int)==1)=true then
                if((x35.Thread.length:Int)==2)=true then
                 some ((x35.Loose.length:Int)==0)
                else
                 some false
               else
                some false
              else
               some false
             else
              some false
            else
             some false
           else
            some false
          else
           some false
         else
          some false
        else
         some false
       else
        some false
      else
       some false
     else
      some false
    else
     some false
   else
    some false
  else
   some false
 else
  some false
theorem c1P (r:Bool) (hm:a6l=some r):s9 Tryz.prog 14 [] (fun x=>x=DB r):=by
 refine zn Tryz.func14 rfl ?_;refine cy hm (b3P ((⟨(⟨2,0⟩:p0),5,10,12,(⟨0,0⟩:p0),(⟨#[97,32,108,97,109,112,32,111,110,32,116,104,101,32,113,117,97,121]⟩:ByteArray)⟩:b9))) ?_;rintro⟨x1,x2⟩ hm;refine cy hm (b5x ((⟨(⟨2,0⟩:p0),5,10,12,(⟨0,0⟩:p0),(⟨#[97,32,108,97,109,112,32,111,110,32,116,104,101,32,113,117,97,121]⟩:ByteArray)⟩:b9)) 3) ?_;rintro⟨x4,x5⟩ hm;obtain⟨⟨x7,x8,x9⟩,hx10,hm⟩:=d9 hm;refine a8z.det ((b5f ((⟨[], []⟩:o4)) [] ((⟨(⟨2,0⟩:p0),5,10,12,(⟨0,0⟩:p0),(⟨#[97,32,108,97,109,112,32,111,110,32,116,104,101,32,113,117,97,121]⟩:ByteArray)⟩:b9)) _ hx10).le ⟨⟨_,rfl,⟨d2R,d2R,trivial⟩⟩,d2R,d2Q _,trivial⟩) ?_;refine⟨([2,0]:List Int).flatMap cI,([2,0]:List Int).length,⟨rfl,rfl⟩, ?_⟩;refine co hm (a0o x7 (([2,0]:List Int))) fun x11 hm=> ?_
 refine cy hm (a0n x11) ?_;rintro⟨x13,x14⟩ hm;refine⟨([3,0]:List Int).flatMap cI,([3,0]:List Int).length,⟨rfl,rfl⟩, ?_⟩;refine co hm (a0o x7 (([3,0]:List Int))) fun x16 hm=> ?_
 refine cy hm (a0n x16) ?_;rintro⟨x18,x19⟩ hm;refine⟨([2,0,0,0]:List Int).flatMap cI,([2,0,0,0]:List Int).length,⟨rfl,rfl⟩, ?_⟩;refine co hm (a0o x7 (([2,0,0,0]:List Int))) fun x21 hm=> ?_
 refine cy hm (a0n x21) ?_;rintro⟨x23,x24⟩ hm;refine⟨([2,0,1,9]:List Int).flatMap cI,([2,0,1,9]:List Int).length,⟨rfl,rfl⟩, ?_⟩;refine co hm (a0o x7 (([2,0,1,9]:List Int))) fun x26 hm=> ?_
 refine cy hm (a0n x26) ?_;rintro⟨x28,x29⟩ hm;refine cy hm (a6q x7) fun x31 hm=> ?_
 refine⟨([0,0]:List Int).flatMap cI,([0,0]:List Int).length,⟨rfl,rfl⟩, ?_⟩;refine co hm (a0o x31 (([0,0]:List Int))) fun x33 hm=> ?_
 refine cy hm (a0n x33) ?_;rintro⟨x35,x36⟩ hm;apply vb hm<;>intro _ hm;apply vb hm<;>intro _ hm;apply vb hm<;>intro _ hm;apply vb hm<;>intro _ hm;apply vb hm<;>intro _ hm;apply vb hm<;>intro _ hm;apply vb hm<;>intro _ hm;refine ei hm fun _ hm=> ?_
 apply vb hm<;>intro _ hm;refine ei hm fun _ hm=> ?_
 apply vb hm<;>intro _ hm;apply vb hm<;>intro _ hm;apply vb hm<;>intro _ hm;apply vb hm<;>intro _ hm;apply vb hm<;>intro _ hm;apply vb hm<;>intro _ hm;apply vb hm<;>intro _ hm;apply vb hm<;>intro _ hm;exact hm.rr;exact hm.rr;exact hm.rr;exact hm.rr;exact hm.rr;exact hm.rr;exact hm.rr;exact hm.rr;exact hm.rr;exact hm.rr;exact hm.rr;exact hm.rr;exact hm.rr;exact hm.rr;exact hm.rr;exact hm.rr;exact hm.rr
def a3a (n:Int) (low:Int) (high:Int):Option Bool:=
 if(decide (n≥low))=true then
  some (decide (n≤high))
 else
  some false
theorem a7E (n:Int) (low:Int) (high:Int) (r:Bool) (hm:a3a n low high=some r):s9 Tryz.prog 97 [DI n,DI low,DI high] (fun x=>x=DB r):=by
 refine zn Tryz.func97 rfl ?_;apply vb hm<;>intro _ hm;exact hm.rr;exact hm.rr
def a1O (x:p0):Option Bool:=
 Option.bind (a3a x.Depot 0 5) fun x1=>
 if x1=true then
  Option.bind (a3a x.No 0 9999) fun x4=>
  some x4
 else
  some false
theorem a9t (x:p0) (r:Bool) (hm:a1O x=some r):s9 Tryz.prog 98 [.agg (p0.c x)] (fun x=>x=DB r):=by
 refine zn Tryz.func98 rfl ?_;refine cy hm (a7E x.Depot 0 5) fun x1 hm=> ?_
 apply vb hm<;>intro _ hm;refine cy hm (a7E x.No 0 9999) fun x4 hm=> ?_
 exact hm.rr;exact hm.rr
def Y3 (s:ByteArray):Int→Option (Sum Int (Sum Int Bool)):=fun i7=>
 if(decide (i7<(s.size:Int)))=true then
  Option.bind (idx s.data.toList i7) fun ch14=>
  if(decide ((ch14.toNat:Int)<32))=true then
   some (.inr (.inr false))
  else
   Option.bind (idx s.data.toList i7) fun ch16=>
   if(decide ((ch16.toNat:Int)>126))=true then
    some (.inr (.inr false))
   else
    some (.inl (W (i7+1)))
 else
  some (.inr (.inl i7))
def a3B (s:ByteArray):Option Bool:=
 if(decide ((s.size:Int)>160))=true then
  some false
 else
  Option.bind (r6 (Y3 s) 0) fun e=>
  match e with
  | .inl i18=>
   some true
  | .inr rr19=>
   some rr19
theorem b7S (s:ByteArray) (r:Bool) (hm:a3B s=some r):s9 Tryz.prog 99 [.v (.string s)] (fun x=>x=DB r):=by
 refine zn Tryz.func99 rfl ?_;apply vb hm<;>intro _ hm;exact hm.rr;obtain⟨ev20,he,hk21⟩:=d9 hm;refine d2T (Y3 s) (fun i7=>⟨[(0, .v (.string s)),(3,DI i7)], [],0⟩) 0 (sb 0) he ?_;rintro fu22 i7 b hm hi23;apply vb hm<;>intro _ hm;obtain⟨ch25,hx,hm⟩:=d9 hm;refine⟨ch25,a3Q hx, ?_⟩;apply vb hm<;>intro _ hm;cases hm;cases hi23;have hm:=hk21;exact hm.rr;obtain⟨ch27,hx,hm⟩:=d9 hm;refine⟨ch27,a3Q hx, ?_⟩;apply vb hm<;>intro _ hm;cases hm;cases hi23;have hm:=hk21;exact hm.rr;cases hm;exact⟨(_,(W (i7+1))),sb 0,hi23,F6 _⟩;cases hm;cases hi23;have hm:=hk21;exact hm.rr
def S0 (r_:b9):Option Int:=
 Option.bind (a1O r_.At) fun x1=>
 if(!x1)=true then
  some 80
 else
  Option.bind (a3a r_.Kind 0 60) fun x4=>
  if(!x4)=true then
   some 80
  else
   Option.bind (a3a r_.Day 0 100000) fun x7=>
   if(!x7)=true then
    some 80
   else
    Option.bind (a3a r_.Known 0 100000) fun x10=>
    if(!x10)=true then
     some 80
    else
     Option.bind (a3B r_.Text) fun x13=>
     if(!x13)=true then
      some 80
     else
      if(r_.Kind==0)=true then
       if(r_.Day !=0)=true then
        some 80
       else
        if(!(r_.Text.toList==(⟨#[]⟩:ByteArray).toList))=true then
         some 80
        else
         Option.bind (a1O r_.Of) fun x19=>
         if(!x19)=true then
          some 80
         else
          if(r_.Of.Depot !=r_.At.Depot)=true then
           some 80
          else
           if(decide (r_.Of.No≥r_.At.No))=true then
            some 80
           else
            some 0
      else
       if(!((r_.Of.Depot==0)&&(r_.Of.No==0)))=true then
        some 80
       else
        some 0
theorem a4C (r_:b9) (r:Int) (hm:S0 r_=some r):s9 Tryz.prog 37 [.agg (b9.c r_)] (fun x=>x=DI r):=by
 refine zn Tryz.func37 rfl ?_;refine cy hm (a9t r_.At) fun x1 hm=> ?_
 apply vb hm<;>intro _ hm;exact hm.rr;refine cy hm (a7E r_.Kind 0 60) fun x4 hm=> ?_
 apply vb hm<;>intro _ hm;exact hm.rr;refine cy hm (a7E r_.Day 0 100000) fun x7 hm=> ?_
 apply vb hm<;>intro _ hm;exact hm.rr;refine cy hm (a7E r_.Known 0 100000) fun x10 hm=> ?_
 apply vb hm<;>intro _ hm;exact hm.rr;refine cy hm (b7S r_.Text) fun x13 hm=> ?_
 apply vb hm<;>intro _ hm;exact hm.rr;apply vb hm<;>intro _ hm;apply vb hm<;>intro _ hm;exact hm.rr;apply vb hm<;>intro _ hm;exact hm.rr;refine cy hm (a9t r_.Of) fun x19 hm=> ?_
 apply vb hm<;>intro _ hm;exact hm.rr;apply vb hm<;>intro _ hm;exact hm.rr;apply vb hm<;>intro _ hm;exact hm.rr;exact hm.rr;apply vb hm<;>intro _ hm;exact hm.rr;exact hm.rr
def a8O (l:(List b9)):(Int×Int×Int×Int×Int×Int×Int)→Option (Sum (Int×Int×Int×Int×Int×Int×Int) (Int×Int×Int×Int×Int×Int×Int)):=fun(i15,v16,v17,v18,v19,v20,v21)=>
 if(decide (i15<(l.length:Int)))=true then
  Option.bind (idx l i15) fun e37=>
  gd (0≤e37.At.Depot∧e37.At.Depot<6)<|
  Option.bind (idx [v16,v17,v18,v19,v20,v21] e37.At.Depot) fun e39=>
  gd (0≤e37.At.Depot∧e37.At.Depot<6)<|
  Option.bind (idx [v16,v17,v18,v19,v20,v21] e37.At.Depot) fun e41=>
  Option.bind (some (W (e39+1))) fun y43=>
  Option.bind (some (if(e37.At.Depot==0)=true then y43 else v16)) fun q44=>
  Option.bind (some (if(e37.At.Depot==1)=true then y43 else v17)) fun q45=>
  Option.bind (some (if(e37.At.Depot==2)=true then y43 else v18)) fun q46=>
  Option.bind (some (if(e37.At.Depot==3)=true then y43 else v19)) fun q47=>
  Option.bind (some (if(e37.At.Depot==4)=true then y43 else v20)) fun q48=>
  Option.bind (some (if(e37.At.Depot==5)=true then y43 else v21)) fun q49=>
  some (.inl ((W (i15+1)),q44,q45,q46,q47,q48,q49))
 else
  some (.inr (i15,v16,v17,v18,v19,v20,v21))
def a4m (l:(List b9)):Option (Int×Int×Int×Int×Int×Int):=
 Option.bind (r6 (a8O l) (0,0,0,0,0,0,0)) fun(i50,v51,v52,v53,v54,v55,v56)=>
 some (v51,v52,v53,v54,v55,v56)
theorem a8V (l:(List b9)) (r:(Int×Int×Int×Int×Int×Int)) (hm:a4m l=some r):s9 Tryz.prog 89 [lD 8 l b9.c] (fun x=>x= .agg [DI r.1,DI r.2.1,DI r.2.2.1,DI r.2.2.2.1,DI r.2.2.2.2.1,DI r.2.2.2.2.2]):=by
 refine zn Tryz.func89 rfl ?_;obtain⟨ev57,he,hk58⟩:=d9 hm;refine d2T (a8O l) (fun(i15,v16,v17,v18,v19,v20,v21)=>⟨[(0,lD 8 l b9.c),(2, .own 0 0),(3, .own 1 0),(4,DI i15)], [(0, .blk [DI 0,DI 0,DI 0,DI 0,DI 0,DI 0] 78),(1, .blk [DI v16,DI v17,DI v18,DI v19,DI v20,DI v21] 78)],2⟩) (0,0,0,0,0,0,0) (sb 2) he ?_;rintro fu59 ⟨i15,v16,v17,v18,v19,v20,v21⟩ b hm hi60;apply vb hm<;>intro _ hm;refine ei hm fun _ hm=> ?_
 obtain⟨hg,hm⟩:=j4 hm;refine⟨hg, ?_⟩;obtain⟨e64,hx65,hm⟩:=d9 hm;refine⟨_,ldx (r:= [DI e64]) (c:=cI) (z:=1) (pre:= []) (post:= []) (b:=0) (off:=0) (fun _=>rfl) hx65 rfl rfl (by omega) rfl, ?_⟩;obtain⟨hg,hm⟩:=j4 hm;refine⟨hg, ?_⟩;obtain⟨e66,hx67,hm⟩:=d9 hm;obtain⟨y68,hy,hm⟩:=d9 hm;obtain⟨q69,hq0,hm⟩:=d9 hm;obtain⟨q70,hq1,hm⟩:=d9 hm;obtain⟨q71,hq2,hm⟩:=d9 hm;obtain⟨q72,hq3,hm⟩:=d9 hm;obtain⟨q73,hq4,hm⟩:=d9 hm;obtain⟨q74,hq5,hm⟩:=d9 hm;refine⟨[DI q69,DI q70,DI q71,DI q72,DI q73,DI q74],stx (y:=y68) (ys:= [q69,q70,q71,q72,q73,q74]) (c:=cI) (z:=1) (pre:= []) (post:= []) (b:=0) (off:=0) (fun _=>rfl) hx67 rfl rfl (by omega) (by cases hy;rfl) rfl (by cases hq0;cases hq1;cases hq2;cases hq3;cases hq4;cases hq5;exact S7 hx67), ?_⟩;clear hy hq0 hq1 hq2 hq3 hq4 hq5;cases hm;exact⟨(_,((W (i15+1)),q69,q70,q71,q72,q73,q74)),sb 2,hi60,F6 _⟩;cases hm;cases hi60;have hm:=hk58;cases hm;exact d2S (d2Q _)
def K8 (a:(List b9)) (b_:(List b9)):(Bool×Int)→Option (Sum (Bool×Int) (Bool×Int)):=fun(same7,i8)=>
 if(decide (i8<(a.length:Int)))=true then
  if same7=true then
   Option.bind (idx a i8) fun e17=>
   Option.bind (idx b_ i8) fun e19=>
   some (.inl (((e17.At.Depot==e19.At.Depot)&&((e17.At.No==e19.At.No)&&((e17.Kind==e19.Kind)&&((e17.Day==e19.Day)&&((e17.Known==e19.Known)&&((e17.Of.Depot==e19.Of.Depot)&&((e17.Of.No==e19.Of.No)&&(e17.Text.toList==e19.Text.toList)))))))),(W (i8+1))))
  else
   some (.inr (same7,i8))
 else
  some (.inr (same7,i8))
def R3 (a:(List b9)) (b_:(List b9)):Option Bool:=
 Option.bind (r6 (K8 a b_) (((a.length:Int)==(b_.length:Int)),0)) fun(same21,i22)=>
 some same21
theorem a4A (a:(List b9)) (b_:(List b9)) (r:Bool) (hm:R3 a b_=some r):s9 Tryz.prog 18 [lD 8 a b9.c,lD 8 b_ b9.c] (fun x=>x=DB r):=by
 refine zy d2i [] [] [] Tryz.func18 rfl ?_;obtain⟨ev23,he,hk24⟩:=d9 hm;refine d2T (K8 a b_) (fun(same7,i8)=>⟨[(0,lD 8 a b9.c),(1,lD 8 b_ b9.c),(5,DB same7),(6,DI i8)], [],0⟩) (((a.length:Int)==(b_.length:Int)),0) (sb 0) he ?_;rintro fu25 ⟨same7,i8⟩ b hm hi26;apply vb hm<;>intro _ hm;apply vb hm<;>intro _ hm;refine⟨rfl, ?_⟩;refine ei hm fun e29 hm=> ?_
 refine ei hm fun e31 hm=> ?_
 cases hm;exact⟨(_,(((e29.At.Depot==e31.At.Depot)&&((e29.At.No==e31.At.No)&&((e29.Kind==e31.Kind)&&((e29.Day==e31.Day)&&((e29.Known==e31.Known)&&((e29.Of.Depot==e31.Of.Depot)&&((e29.Of.No==e31.Of.No)&&(e29.Text.toList==e31.Text.toList)))))))),(W (i8+1)))),sb 0,hi26,F6 _⟩;cases hm;cases hi26;have hm:=hk24;exact hm.rr;cases hm;cases hi26;have hm:=hk24;exact hm.rr
def J8 (n:Int) (m:Int):Option Int:=
 gd (m≠0)<|
 gd (m≠0)<|
 some ((W ((n.tmod m)+m)).tmod m)
theorem Q2 (n:Int) (m:Int) (r:Int) (hm:J8 n m=some r):s9 Tryz.prog 27 [DI n,DI m] (fun x=>x=DI r):=by
 refine zn Tryz.func27 rfl ?_;obtain⟨hg,hm⟩:=j4 hm;refine⟨hg, ?_⟩;obtain⟨hg,hm⟩:=j4 hm;refine⟨hg, ?_⟩;exact hm.rr
def Y6 (l:(List b9)) (at_:p0):Int→Option (Sum Int (Sum Int Int)):=fun i5=>
 if(decide (i5<(l.length:Int)))=true then
  Option.bind (idx l i5) fun e11=>
  if((e11.At.Depot==at_.Depot)&&(e11.At.No==at_.No))=true then
   some (.inr (.inr i5))
  else
   some (.inl (W (i5+1)))
 else
  some (.inr (.inl i5))
def a6u (l:(List b9)) (at_:p0):Option Int:=
 Option.bind (r6 (Y6 l at_) 0) fun e=>
 match e with
 | .inl i14=>
  some (-1)
 | .inr rr15=>
  some rr15
theorem c0E (l:(List b9)) (at_:p0) (r:Int) (hm:a6u l at_=some r):s9 Tryz.prog 105 [lD 8 l b9.c, .agg (p0.c at_)] (fun x=>x=DI r):=by
 refine zy d1t [] [] [] Tryz.func105 rfl ?_;obtain⟨ev16,he,hk17⟩:=d9 hm;refine d2T (Y6 l at_) (fun i5=>⟨[(0,lD 8 l b9.c),(3, .own 0 0),(5,DI i5)], [(0, .blk [DI at_.Depot,DI at_.No] 36)],1⟩) 0 (sb 1) he ?_;rintro fu18 i5 b hm hi19;apply vb hm<;>intro _ hm;refine⟨rfl, ?_⟩;refine ei hm fun _ hm=> ?_
 apply vb hm<;>intro _ hm;cases hm;cases hi19;have hm:=hk17;exact hm.rr;cases hm;exact⟨(_,(W (i5+1))),sb 1,hi19,F6 _⟩;cases hm;cases hi19;have hm:=hk17;exact hm.rr
def a6g (l:(List b9)) (r_:b9):Option (Bool×Int):=
 Option.bind (S0 r_) fun x1=>
 if(x1 !=0)=true then
  some (false,80)
 else
  Option.bind (a6u l r_.At) fun x4=>
  if(decide (x4≥0))=true then
   Option.bind (idx l x4) fun e7=>
   if((e7.At.Depot==r_.At.Depot)&&((e7.At.No==r_.At.No)&&((e7.Kind==r_.Kind)&&((e7.Day==r_.Day)&&((e7.Known==r_.Known)&&((e7.Of.Depot==r_.Of.Depot)&&((e7.Of.No==r_.Of.No)&&(e7.Text.toList==r_.Text.toList))))))))=true then
    some (false,0)
   else
    some (false,82)
  else
   Option.bind (a4m l) fun x10=>
   Option.bind (idx [x10.1,x10.2.1,x10.2.2.1,x10.2.2.2.1,x10.2.2.2.2.1,x10.2.2.2.2.2] r_.At.Depot) fun e12=>
   if(decide (r_.At.No>e12))=true then
    some (false,83)
   else
    if((l.length:Int)==60)=true then
     some (false,2)
    else
     some (true,0)
theorem c0j (l:(List b9)) (r_:b9) (r:(Bool×Int)) (hm:a6g l r_=some r):s9 Tryz.prog 85 [lD 8 l b9.c, .agg (b9.c r_)] (fun x=>x= .tup [DB r.1,DI r.2]):=by
 refine zy d2K [] [] [] Tryz.func85 rfl ?_;refine cy hm (a4C r_) fun x1 hm=> ?_
 apply vb hm<;>intro _ hm;cases hm;exact d2S (d2Q _);refine cy hm (c0E l r_.At) fun x4 hm=> ?_
 refine⟨rfl, ?_⟩;apply vb hm<;>intro h6 hm;refine ei hm fun _ hm=> ?_
 apply vb hm<;>intro _ hm;cases hm;exact d2S (d2Q _);refine VIf.t h6 ?_;cases hm;exact d2S (d2Q _);refine VIf.f h6 ?_;refine⟨rfl, ?_⟩;refine cy hm (a8V l) fun x10 hm=> ?_
 obtain⟨e12,hx13,hm⟩:=d9 hm;refine⟨a3k hx13,_,ldx (c:=cI) (z:=1) (pre:= []) (post:= []) (b:=0) (off:=0) (fun _=>rfl) hx13 rfl rfl (by omega) rfl, ?_⟩;apply vb hm<;>intro _ hm;cases hm;exact d2S (d2Q _);apply vb hm<;>intro _ hm;cases hm;exact d2S (d2Q _);cases hm;exact d2S (d2Q _)
def a4F (n:Int):Option ByteArray:=
 Option.bind (J8 n 6) fun x1=>
 Option.bind (idx ([(⟨#[]⟩:ByteArray),(⟨#[97]⟩:ByteArray),(⟨#[97,32,108,97,109,112,32,111,110,32,116,104,101,32,113,117,97,121]⟩:ByteArray),(⟨#[48,32,48,32,49,32,48,32,48,32,48]⟩:ByteArray),(⟨#[32]⟩:ByteArray),(⟨#[97,32,116,101,120,116,32,111,102,32,97,32,108,101,110,103,116,104,32,116,104,97,116,32,116,97,107,101,115,32,109,97,110,121,32,99,97,114,100,115,44,32,111,110,101,32,98,101,104,105,110,100,32,116,104,101,32,111,116,104,101,114,44,32,117,112,32,116,111,32,105,116,115,32,101,110,100]⟩:ByteArray)]:List ByteArray) x1) fun e3=>
 Option.bind (idx ([(⟨#[]⟩:ByteArray),(⟨#[97]⟩:ByteArray),(⟨#[97,32,108,97,109,112,32,111,110,32,116,104,101,32,113,117,97,121]⟩:ByteArray),(⟨#[48,32,48,32,49,32,48,32,48,32,48]⟩:ByteArray),(⟨#[32]⟩:ByteArray),(⟨#[97,32,116,101,120,116,32,111,102,32,97,32,108,101,110,103,116,104,32,116,104,97,116,32,116,97,107,101,115,32,109,97,110,121,32,99,97,114,100,115,44,32,111,110,101,32,98,101,104,105,110,100,32,116,104,101,32,111,116,104,101,114,44,32,117,112,32,116,111,32,105,116,115,32,101,110,100]⟩:ByteArray)]:List ByteArray) x1) fun e5=>
 some e5
theorem b9Y (n:Int) (r:ByteArray) (hm:a4F n=some r):s9 Tryz.prog 90 [DI n] (fun x=>x= .v (.string r)):=by
 refine zn Tryz.func90 rfl ?_;refine⟨([(⟨#[]⟩:ByteArray),(⟨#[97]⟩:ByteArray),(⟨#[97,32,108,97,109,112,32,111,110,32,116,104,101,32,113,117,97,121]⟩:ByteArray),(⟨#[48,32,48,32,49,32,48,32,48,32,48]⟩:ByteArray),(⟨#[32]⟩:ByteArray),(⟨#[97,32,116,101,120,116,32,111,102,32,97,32,108,101,110,103,116,104,32,116,104,97,116,32,116,97,107,101,115,32,109,97,110,121,32,99,97,114,100,115,44,32,111,110,101,32,98,101,104,105,110,100,32,116,104,101,32,111,116,104,101,114,44,32,117,112,32,116,111,32,105,116,115,32,101,110,100]⟩:ByteArray)]:List ByteArray).flatMap (fun(x:ByteArray)=> [.v (.string x)]),([(⟨#[]⟩:ByteArray),(⟨#[97]⟩:ByteArray),(⟨#[97,32,108,97,109,112,32,111,110,32,116,104,101,32,113,117,97,121]⟩:ByteArray),(⟨#[48,32,48,32,49,32,48,32,48,32,48]⟩:ByteArray),(⟨#[32]⟩:ByteArray),(⟨#[97,32,116,101,120,116,32,111,102,32,97,32,108,101,110,103,116,104,32,116,104,97,116,32,116,97,107,101,115,32,109,97,110,121,32,99,97,114,100,115,44,32,111,110,101,32,98,101,104,105,110,100,32,116,104,101,32,111,116,104,101,114,44,32,117,112,32,116,111,32,105,116,115,32,101,110,100]⟩:ByteArray)]:List ByteArray).length,⟨rfl,rfl⟩, ?_⟩;refine cy hm (Q2 n 6) fun x1 hm=> ?_
 refine eb hm fun _ hm=> ?_
 refine er hm fun _ hm=> ?_
 cases hm;exact d2S (d2Q _)
def M3 (a:y0) (b_:y0):(Int×(List b9))→Option (Sum (Int×(List b9)) (Sum (Int×(List b9)) (y0×Int))):=fun(v21,v22)=>
 if(decide (v21<(b_.Records.length:Int)))=true then
  Option.bind (idx b_.Records v21) fun e36=>
  Option.bind (W8 a e36.At) fun⟨x38,x39⟩=>
  if x39=true then
   Option.bind (idx a.Records x38) fun e42=>
   if(!((e42.At.Depot==e36.At.Depot)&&((e42.At.No==e36.At.No)&&((e42.Kind==e36.Kind)&&((e42.Day==e36.Day)&&((e42.Known==e36.Known)&&((e42.Of.Depot==e36.Of.Depot)&&((e42.Of.No==e36.Of.No)&&(e42.Text.toList==e36.Text.toList)))))))))=true then
    some (.inr (.inr ((⟨[]⟩:y0),82)))
   else
    if(!x39)=true then
     gd ((v22.length+([e36]:List b9).length)*72≤140737488355328∧v22.length+([e36]:List b9).length≤9223372036854775807)<|
     some (.inl ((W (v21+1)),(v22++([e36]:List b9))))
    else
     some (.inl ((W (v21+1)),v22))
  else
   if(!x39)=true then
    gd ((v22.length+([e36]:List b9).length)*72≤140737488355328∧v22.length+([e36]:List b9).length≤9223372036854775807)<|
    some (.inl ((W (v21+1)),(v22++([e36]:List b9))))
   else
    some (.inl ((W (v21+1)),v22))
 else
  some (.inr (.inl (v21,v22)))
def a3D (a:y0) (b_:y0):Option (y0×Int):=
 Option.bind (K9 a) fun x1=>
 if(!x1)=true then
  some ((⟨[]⟩:y0),81)
 else
  Option.bind (K9 b_) fun x4=>
  if(!x4)=true then
   some ((⟨[]⟩:y0),81)
  else
   Option.bind (j1 a.Records) fun x7=>
   Option.bind (r6 (M3 a b_) (0,x7)) fun e=>
   match e with
   | .inl (v47,v48)=>
    if(decide ((v48.length:Int)>60))=true then
     some ((⟨[]⟩:y0),2)
    else
     Option.bind (u5 v48) fun x50=>
     some (x50,0)
   | .inr rr52=>
    some rr52
theorem b7q (a:y0) (b_:y0) (r:(y0×Int)) (hm:a3D a b_=some r):s9 Tryz.prog 41 [.agg (y0.c a), .agg (y0.c b_)] (fun x=>x= .tup [.agg (y0.c r.1),DI r.2]):=by
 refine zy d2H [80,112,155,175] [102] [] Tryz.func41 rfl ?_;refine cy hm (a4d a) fun x1 hm=> ?_
 apply vb hm<;>intro _ hm;cases hm;exact d2S (le3);refine cy hm (a4d b_) fun x4 hm=> ?_
 apply vb hm<;>intro _ hm;cases hm;exact d2S (le3);obtain⟨x7,hx8,hm⟩:=d9 hm;refine .inl (a4s.mk ⟨_,_,_,_,l6 a.Records _ hx8, ?_⟩);obtain⟨ev53,he,hk54⟩:=d9 hm;refine d2T (M3 a b_) (fun(v21,v22)=>⟨[(2, .own 0 0),(4, .own 2 0),(6, .row 3 8),(24,lD 8 b_.Records b9.c),(25,DI (b_.Records.length:Int)),(26,DI v21)], [(0, .blk [lD 8 a.Records b9.c] 70),(2, .blk [nS] 70),(3,rE 8 v22 b9.c 38)],4⟩) (0,x7) (sb 4) he ?_;rintro fu55 ⟨v21,v22⟩ b hm hi56;apply vb hm<;>intro _ hm;refine ei hm fun e58 hm=> ?_
 refine cy hm (a9C a e58.At) ?_;rintro⟨x60,x61⟩ hm;refine⟨rfl, ?_⟩;apply vb hm<;>intro _ hm;refine ei hm fun _ hm=> ?_
 apply vb hm<;>intro _ hm;cases hm;cases hi56;have hm:=hk54;cases hm;exact d2S (le3);apply vb hm<;>intro _ hm;refine⟨([e58]:List b9).flatMap b9.c,([e58]:List b9).length,⟨rfl,rfl⟩, ?_⟩;obtain⟨hg,hm⟩:=j4 hm;refine⟨hg,_,_,u0 (c:=b9.c) (l:=(v22:List b9)) (r:=(([e58]:List b9):List b9)), ?_⟩;cases hm;exact⟨(_,((W (v21+1)),(v22++([e58]:List b9)))),sb 4,hi56,F6 _⟩;cases hm;exact⟨(_,((W (v21+1)),v22)),sb 4,hi56,F6 _⟩;apply vb hm<;>intro _ hm;refine⟨([e58]:List b9).flatMap b9.c,([e58]:List b9).length,⟨rfl,rfl⟩, ?_⟩;obtain⟨hg,hm⟩:=j4 hm;refine⟨hg,_,_,u0 (c:=b9.c) (l:=(v22:List b9)) (r:=(([e58]:List b9):List b9)), ?_⟩;cases hm;exact⟨(_,((W (v21+1)),(v22++([e58]:List b9)))),sb 4,hi56,F6 _⟩;cases hm;exact⟨(_,((W (v21+1)),v22)),sb 4,hi56,F6 _⟩;cases hm;cases hi56;have hm:=hk54;apply vb hm<;>intro _ hm;cases hm;exact d2S (le3);refine co hm (V1 v22) fun x70 hm=> ?_
 cases hm;exact d2S (d2Q _)
def a2R (a:p0) (b_:p0):Option Bool:=
 if(decide (a.Depot<b_.Depot))=true then
  some true
 else
  if(a.Depot==b_.Depot)=true then
   some (decide (a.No<b_.No))
  else
   some false
theorem b1V (a:p0) (b_:p0) (r:Bool) (hm:a2R a b_=some r):s9 Tryz.prog 114 [.agg (p0.c a), .agg (p0.c b_)] (fun x=>x=DB r):=by
 refine zn Tryz.func114 rfl ?_;apply vb hm<;>intro _ hm;exact hm.rr;apply vb hm<;>intro _ hm;exact hm.rr;exact hm.rr
def U9 (b_:y0):Int→Option (Sum Int (Sum Int Int)):=fun i14=>
 if(decide (i14<(b_.Records.length:Int)))=true then
  Option.bind (idx b_.Records i14) fun e40=>
  Option.bind (S0 e40) fun x42=>
  if(x42 !=0)=true then
   some (.inr (.inr 81))
  else
   if(decide (i14>0))=true then
    Option.bind (idx b_.Records (W (i14-1))) fun e46=>
    Option.bind (a2R e46.At e40.At) fun x48=>
    if(!x48)=true then
     some (.inr (.inr 81))
    else
     gd ((0≤i14∧i14≤(b_.Records.length:Int))∧(0≤i14∧i14≤i14))<|
     Option.bind (some (sub b_.Records 0 (i14).toNat)) fun sl51=>
     Option.bind (a4m sl51) fun x52=>
     Option.bind (idx [x52.1,x52.2.1,x52.2.2.1,x52.2.2.2.1,x52.2.2.2.2.1,x52.2.2.2.2.2] e40.At.Depot) fun e54=>
     if(e54 !=e40.At.No)=true then
      some (.inr (.inr 81))
     else
      some (.inl (W (i14+1)))
   else
    gd ((0≤i14∧i14≤(b_.Records.length:Int))∧(0≤i14∧i14≤i14))<|
    Option.bind (some (sub b_.Records 0 (i14).toNat)) fun sl57=>
    Option.bind (a4m sl57) fun x58=>
    Option.bind (idx [x58.1,x58.2.1,x58.2.2.1,x58.2.2.2.1,x58.2.2.2.2.1,x58.2.2.2.2.2] e40.At.Depot) fun e60=>
    if(e60 !=e40.At.No)=true then
     some (.inr (.inr 81))
    else
     some (.inl (W (i14+1)))
 else
  some (.inr (.inl i14))
def a4Q (b_:y0):Option Int:=
 if(decide ((b_.Records.length:Int)>60))=true then
  some 81
 else
  Option.bind (r6 (U9 b_) 0) fun e=>
  match e with
  | .inl i63=>
   some 0
  | .inr rr64=>
   some rr64
theorem c0g (b_:y0) (r:Int) (hm:a4Q b_=some r):s9 Tryz.prog 53 [.agg (y0.c b_)] (fun x=>x=DI r):=by
 refine zy d2O [] [] [] Tryz.func53 rfl ?_;apply vb hm<;>intro _ hm;exact hm.rr;obtain⟨ev65,he,hk66⟩:=d9 hm;refine d2T (U9 b_) (fun i14=>⟨[(1, .own 0 0),(3,DI i14)], [(0, .blk [lD 8 b_.Records b9.c] 70)],1⟩) 0 (sb 1) he ?_;rintro fu67 i14 b hm hi68;apply vb hm<;>intro _ hm;refine ei hm fun e70 hm=> ?_
 refine⟨rfl, ?_⟩;refine cy hm (a4C e70) fun x72 hm=> ?_
 apply vb hm<;>intro _ hm;cases hm;cases hi68;have hm:=hk66;exact hm.rr;apply vb hm<;>intro _ hm;refine ei hm fun e76 hm=> ?_
 refine cy hm (b1V e76.At e70.At) fun x78 hm=> ?_
 apply vb hm<;>intro _ hm;cases hm;cases hi68;have hm:=hk66;exact hm.rr;obtain⟨hg,hm⟩:=j4 hm;obtain⟨sl81,hy,hm⟩:=d9 hm;refine⟨hg.1,hg.2,_,(a0c (c:=b9.c) (z:=8) (fun _=>rfl) _ _ _).trans (m9 _ (G4 hy)), ?_⟩;have hl:sl81.length=(i14).toNat-0:=by rw [←G4 hy];exact a1L (by omega)
 rw [←hl];refine cy hm (a8V sl81) fun x82 hm=> ?_
 obtain⟨e84,hx85,hm⟩:=d9 hm;refine⟨a3k hx85,_,ldx (c:=cI) (z:=1) (pre:= []) (post:= []) (b:=0) (off:=0) (fun _=>rfl) hx85 rfl rfl (by omega) rfl, ?_⟩;apply vb hm<;>intro _ hm;cases hm;cases hi68;have hm:=hk66;exact hm.rr;cases hm;exact⟨(_,(W (i14+1))),sb 1,hi68,F6 _⟩;obtain⟨hg,hm⟩:=j4 hm;obtain⟨sl87,hy,hm⟩:=d9 hm;refine⟨hg.1,hg.2,_,(a0c (c:=b9.c) (z:=8) (fun _=>rfl) _ _ _).trans (m9 _ (G4 hy)), ?_⟩;have hl:sl87.length=(i14).toNat-0:=by rw [←G4 hy];exact a1L (by omega)
 rw [←hl];refine cy hm (a8V sl87) fun x88 hm=> ?_
 obtain⟨e90,hx91,hm⟩:=d9 hm;refine⟨a3k hx91,_,ldx (c:=cI) (z:=1) (pre:= []) (post:= []) (b:=0) (off:=0) (fun _=>rfl) hx91 rfl rfl (by omega) rfl, ?_⟩;apply vb hm<;>intro _ hm;cases hm;cases hi68;have hm:=hk66;exact hm.rr;cases hm;exact⟨(_,(W (i14+1))),sb 1,hi68,F6 _⟩;cases hm;cases hi68;have hm:=hk66;exact hm.rr
def W7 (l:(List b9)) (r_:b9):Int→Option (Sum Int Int):=fun at_7=>
 if(decide (at_7<(l.length:Int)))=true then
  Option.bind (idx l at_7) fun e15=>
  Option.bind (a2R e15.At r_.At) fun x17=>
  if x17=true then
   some (.inl (W (at_7+1)))
  else
   some (.inr at_7)
 else
  some (.inr at_7)
def a8g (l:(List b9)) (r_:b9):Option (List b9):=
 Option.bind (r6 (W7 l r_) 0) fun at_20=>
 gd ((0≤at_20∧at_20≤(l.length:Int)))<|
 Option.bind (some (sub l 0 (at_20).toNat)) fun sl21=>
 gd ((0≤at_20∧at_20≤(l.length:Int)))<|
 Option.bind (some (sub l (at_20).toNat l.length)) fun sl22=>
 gd ((([]:List b9).length+sl21.length)*72≤140737488355328∧([]:List b9).length+sl21.length≤9223372036854775807)<|
 gd (((([]:List b9)++sl21).length+([r_]:List b9).length)*72≤140737488355328∧(([]:List b9)++sl21).length+([r_]:List b9).length≤9223372036854775807)<|
 gd ((((([]:List b9)++sl21)++([r_]:List b9)).length+sl22.length)*72≤140737488355328∧((([]:List b9)++sl21)++([r_]:List b9)).length+sl22.length≤9223372036854775807)<|
 some (((([]:List b9)++sl21)++([r_]:List b9))++sl22)
theorem c3j (l:(List b9)) (r_:b9) (r:(List b9)) (hm:a8g l r_=some r):s9 Tryz.prog 106 [lD 8 l b9.c, .agg (b9.c r_)] (fun x=>x=lD 8 r b9.c):=by
 refine zy d1M [] [] [] Tryz.func106 rfl ?_;obtain⟨ev23,he,hk24⟩:=d9 hm;refine d2T (W7 l r_) (fun at_7=>⟨[(0,lD 8 l b9.c),(3, .own 0 0),(5,DI at_7)], [(0, .blk (b9.c r_) 38)],1⟩) 0 (sb 1) he ?_;rintro fu25 at_7 b hm hi26;refine⟨rfl, ?_⟩;apply vb hm<;>intro _ hm;refine ei hm fun e28 hm=> ?_
 refine cy hm (b1V e28.At r_.At) fun x30 hm=> ?_
 apply vb hm<;>intro _ hm;cases hm;exact⟨(_,(W (at_7+1))),sb 1,hi26,F6 _⟩;cases hm;have hm:=hk24;rw [show ev23=at_7 from by first|exact hi26|exact hi26.symm]at hm
 refine⟨rfl, ?_⟩;obtain⟨hg,hm⟩:=j4 hm;obtain⟨sl33,hy,hm⟩:=d9 hm;refine⟨hg,_,(a0c (c:=b9.c) (z:=8) (fun _=>rfl) _ _ _).trans (m9 _ (G4 hy)), ?_⟩;have hl:sl33.length=(at_7).toNat-0:=by rw [←G4 hy];exact a1L (by omega)
 rw [←hl];obtain⟨hg,hm⟩:=j4 hm;obtain⟨sl34,hy,hm⟩:=d9 hm;refine⟨hg,_,(a0c (c:=b9.c) (z:=8) (fun _=>rfl) _ _ _).trans (m9 _ (G4 hy)), ?_⟩;have hl:sl34.length=l.length-(at_7).toNat:=by rw [←G4 hy];exact a1L (by omega)
 rw [←hl];refine⟨?_, ?_⟩;refine⟨([r_]:List b9).flatMap b9.c,([r_]:List b9).length,⟨rfl,rfl⟩, ?_⟩;refine⟨([]:List b9).flatMap b9.c,([]:List b9).length,⟨rfl,rfl⟩, ?_⟩;obtain⟨hg,hm⟩:=j4 hm;refine⟨hg,_,_,u0 (c:=b9.c) (l:=(([]:List b9):List b9)) (r:=(sl33:List b9)), ?_⟩;obtain⟨hg,hm⟩:=j4 hm;refine⟨hg,_,_,u0 (c:=b9.c) (l:=((([]:List b9)++sl33):List b9)) (r:=(([r_]:List b9):List b9)), ?_⟩;obtain⟨hg,hm⟩:=j4 hm;refine⟨hg,_,_,u0 (c:=b9.c) (l:=(((([]:List b9)++sl33)++([r_]:List b9)):List b9)) (r:=(sl34:List b9)), ?_⟩;cases hm;exact d2S (d2Q _);refine⟨([]:List b9).flatMap b9.c,([]:List b9).length,⟨rfl,rfl⟩, ?_⟩;obtain⟨hg,hm⟩:=j4 hm;refine⟨hg,_,_,u0 (c:=b9.c) (l:=(([]:List b9):List b9)) (r:=(sl33:List b9)), ?_⟩;refine⟨([r_]:List b9).flatMap b9.c,([r_]:List b9).length,⟨rfl,rfl⟩, ?_⟩;obtain⟨hg,hm⟩:=j4 hm;refine⟨hg,_,_,u0 (c:=b9.c) (l:=((([]:List b9)++sl33):List b9)) (r:=(([r_]:List b9):List b9)), ?_⟩;obtain⟨hg,hm⟩:=j4 hm;refine⟨hg,_,_,u0 (c:=b9.c) (l:=(((([]:List b9)++sl33)++([r_]:List b9)):List b9)) (r:=(sl34:List b9)), ?_⟩;cases hm;exact d2S (d2Q _);cases hm;have hm:=hk24;rw [show ev23=at_7 from by first|exact hi26|exact hi26.symm]at hm
 refine⟨rfl, ?_⟩;obtain⟨hg,hm⟩:=j4 hm;obtain⟨sl35,hy,hm⟩:=d9 hm;refine⟨hg,_,(a0c (c:=b9.c) (z:=8) (fun _=>rfl) _ _ _).trans (m9 _ (G4 hy)), ?_⟩;have hl:sl35.length=(at_7).toNat-0:=by rw [←G4 hy];exact a1L (by omega)
 rw [←hl];obtain⟨hg,hm⟩:=j4 hm;obtain⟨sl36,hy,hm⟩:=d9 hm;refine⟨hg,_,(a0c (c:=b9.c) (z:=8) (fun _=>rfl) _ _ _).trans (m9 _ (G4 hy)), ?_⟩;have hl:sl36.length=l.length-(at_7).toNat:=by rw [←G4 hy];exact a1L (by omega)
 rw [←hl];refine⟨?_, ?_⟩;refine⟨([r_]:List b9).flatMap b9.c,([r_]:List b9).length,⟨rfl,rfl⟩, ?_⟩;refine⟨([]:List b9).flatMap b9.c,([]:List b9).length,⟨rfl,rfl⟩, ?_⟩;obtain⟨hg,hm⟩:=j4 hm;refine⟨hg,_,_,u0 (c:=b9.c) (l:=(([]:List b9):List b9)) (r:=(sl35:List b9)), ?_⟩;obtain⟨hg,hm⟩:=j4 hm;refine⟨hg,_,_,u0 (c:=b9.c) (l:=((([]:List b9)++sl35):List b9)) (r:=(([r_]:List b9):List b9)), ?_⟩;obtain⟨hg,hm⟩:=j4 hm;refine⟨hg,_,_,u0 (c:=b9.c) (l:=(((([]:List b9)++sl35)++([r_]:List b9)):List b9)) (r:=(sl36:List b9)), ?_⟩;cases hm;exact d2S (d2Q _);refine⟨([]:List b9).flatMap b9.c,([]:List b9).length,⟨rfl,rfl⟩, ?_⟩;obtain⟨hg,hm⟩:=j4 hm;refine⟨hg,_,_,u0 (c:=b9.c) (l:=(([]:List b9):List b9)) (r:=(sl35:List b9)), ?_⟩;refine⟨([r_]:List b9).flatMap b9.c,([r_]:List b9).length,⟨rfl,rfl⟩, ?_⟩;obtain⟨hg,hm⟩:=j4 hm;refine⟨hg,_,_,u0 (c:=b9.c) (l:=((([]:List b9)++sl35):List b9)) (r:=(([r_]:List b9):List b9)), ?_⟩;obtain⟨hg,hm⟩:=j4 hm;refine⟨hg,_,_,u0 (c:=b9.c) (l:=(((([]:List b9)++sl35)++([r_]:List b9)):List b9)) (r:=(sl36:List b9)), ?_⟩;cases hm;exact d2S (d2Q _)
def O9 (l:(List b9)):Option (y0×Int):=
 Option.bind (O7 l) fun x1=>
 if(!x1)=true then
  some ((⟨[]⟩:y0),81)
 else
  Option.bind (u5 l) fun x4=>
  some (x4,0)
theorem a1Y (l:(List b9)) (r:(y0×Int)) (hm:O9 l=some r):s9 Tryz.prog 43 [lD 8 l b9.c] (fun x=>x= .tup [.agg (y0.c r.1),DI r.2]):=by
 refine zn Tryz.func43 rfl ?_;refine cy hm (a4n l) fun x1 hm=> ?_
 apply vb hm<;>intro _ hm;cases hm;exact d2S (le3);refine cy hm (V1 l) fun x4 hm=> ?_
 cases hm;exact d2S (d2Q _)
def a7X (b_:y0) (r_:b9):Option (y0×Int):=
 Option.bind (a4Q b_) fun x1=>
 if(x1 !=0)=true then
  some ((⟨[]⟩:y0),81)
 else
  Option.bind (a6g b_.Records r_) fun⟨x4,x5⟩=>
  if(x5 !=0)=true then
   some ((⟨[]⟩:y0),x5)
  else
   if(!x4)=true then
    gd ((([]:List b9).length+b_.Records.length)*72≤140737488355328∧([]:List b9).length+b_.Records.length≤9223372036854775807)<|
    some ((⟨(([]:List b9)++b_.Records)⟩:y0),0)
   else
    Option.bind (a8g b_.Records r_) fun x9=>
    some ((⟨x9⟩:y0),0)
theorem c9N (b_:y0) (r_:b9) (r:(y0×Int)) (hm:a7X b_ r_=some r):s9 Tryz.prog 48 [.agg (y0.c b_), .agg (b9.c r_)] (fun x=>x= .tup [.agg (y0.c r.1),DI r.2]):=by
 refine zn Tryz.func48 rfl ?_;refine cy hm (c0g b_) fun x1 hm=> ?_
 apply vb hm<;>intro _ hm;cases hm;exact d2S (le3);refine cy hm (c0j b_.Records r_) ?_;rintro⟨x4,x5⟩ hm;apply vb hm<;>intro _ hm;cases hm;exact d2S (le3);apply vb hm<;>intro _ hm;refine⟨([]:List b9).flatMap b9.c,([]:List b9).length,⟨rfl,rfl⟩, ?_⟩;obtain⟨hg,hm⟩:=j4 hm;refine⟨hg,_,_,u0 (c:=b9.c) (l:=(([]:List b9):List b9)) (r:=(b_.Records:List b9)), ?_⟩;cases hm;exact d2S (d2Q _);refine cy hm (c3j b_.Records r_) fun x9 hm=> ?_
 cases hm;exact d2S (d2Q _)
def a4S (n:(Int×Int×Int×Int×Int)):Option b9:=
 Option.bind (J8 n.2.1 9) fun x1=>
 Option.bind (J8 n.2.2.1 50) fun x3=>
 Option.bind (J8 n.2.2.2.1 50) fun x5=>
 Option.bind (a4F n.2.2.2.2) fun x7=>
 some (⟨(⟨0,0⟩:p0),(W (1+x1)),x3,x5,(⟨0,0⟩:p0),x7⟩:b9)
theorem b8U (n:(Int×Int×Int×Int×Int)) (r:b9) (hm:a4S n=some r):s9 Tryz.prog 127 [.agg [DI n.1,DI n.2.1,DI n.2.2.1,DI n.2.2.2.1,DI n.2.2.2.2]] (fun x=>x= .agg (b9.c r)):=by
 refine zy d1C [] [] [] Tryz.func127 rfl ?_;refine⟨rfl, ?_⟩;refine⟨by decide, ?_⟩;refine⟨by decide, ?_⟩;refine⟨by decide, ?_⟩;refine⟨by decide, ?_⟩;refine cy hm (Q2 n.2.1 9) fun x1 hm=> ?_
 refine cy hm (Q2 n.2.2.1 50) fun x3 hm=> ?_
 refine cy hm (Q2 n.2.2.2.1 50) fun x5 hm=> ?_
 refine cy hm (b9Y n.2.2.2.2) fun x7 hm=> ?_
 cases hm;exact d2S (d2Q _)
def a5v (me:Int):Option (c8×Int):=
 Option.bind (E1 me) fun x1=>
 if(!x1)=true then
  some ((⟨0,(⟨[], []⟩:o4), [],((0,0,0,0,0,0),(0,0,0,0,0,0),(0,0,0,0,0,0),(0,0,0,0,0,0),(0,0,0,0,0,0),(0,0,0,0,0,0))⟩:c8),1)
 else
  some ((⟨me,(⟨[], []⟩:o4), [],((0,0,0,0,0,0),(0,0,0,0,0,0),(0,0,0,0,0,0),(0,0,0,0,0,0),(0,0,0,0,0,0),(0,0,0,0,0,0))⟩:c8),0)
theorem b1x (me:Int) (r:(c8×Int)) (hm:a5v me=some r):s9 Tryz.prog 55 [DI me] (fun x=>x= .tup [.agg (c8.c r.1),DI r.2]):=by
 refine zn Tryz.func55 rfl ?_;refine cy hm (Q6 me) fun x1 hm=> ?_
 apply vb hm<;>intro _ hm;cases hm;exact d2S (le6);cases hm;exact d2S (le6)
def U5 (n:Int):Option Bool:=
 Option.bind (B0 n 0 60) fun x1=>
 some (!x1)
theorem a8v (n:Int) (r:Bool) (hm:U5 n=some r):s9 Tryz.prog 170 [DI n] (fun x=>x=DB r):=by
 refine zn Tryz.func170 rfl ?_;refine cy hm (F5 n 0 60) fun x1 hm=> ?_
 exact hm.rr
def E5 (s:(List Int)):Int→Option (Sum Int (Sum Int Int)):=fun v7=>
 if(decide (v7<(s.length:Int)))=true then
  Option.bind (idx s v7) fun e15=>
  Option.bind (U5 e15) fun x17=>
  if x17=true then
   some (.inr (.inr v7))
  else
   some (.inl (W (v7+1)))
 else
  some (.inr (.inl v7))
def G5 (s:(List Int)):Option Int:=
 Option.bind (r6 (E5 s) 0) fun e=>
 match e with
 | .inl v20=>
  some (-1)
 | .inr rr21=>
  some rr21
theorem U4 (s:(List Int)) (r:Int) (hm:G5 s=some r):s9 Tryz.prog 189 [lD 1 s cI, .fn 170 [] []] (fun x=>x=DI r):=by
 refine zn Tryz.func189 rfl ?_;obtain⟨ev22,he,hk23⟩:=d9 hm;refine d2T (E5 s) (fun v7=>⟨[(0,lD 1 s cI),(1, .fn 170 [] []),(7,DI (s.length:Int)),(8,DI v7)], [],0⟩) 0 (sb 0) he ?_;rintro fu24 v7 b hm hi25;apply vb hm<;>intro _ hm;refine ei hm fun e27 hm=> ?_
 refine cy hm (a8v e27) fun x29 hm=> ?_
 apply vb hm<;>intro _ hm;cases hm;cases hi25;have hm:=hk23;exact hm.rr;cases hm;exact⟨(_,(W (v7+1))),sb 0,hi25,F6 _⟩;cases hm;cases hi25;have hm:=hk23;exact hm.rr
def z6 (s:(List Int)):Option Bool:=
 Option.bind (G5 s) fun x1=>
 some (decide (x1≥0))
theorem P4 (s:(List Int)) (r:Bool) (hm:z6 s=some r):s9 Tryz.prog 169 [lD 1 s cI, .fn 170 [] []] (fun x=>x=DB r):=by
 refine zn Tryz.func169 rfl ?_;refine cy hm (U4 s) fun x1 hm=> ?_
 exact hm.rr
def R4 (l:(Int×Int×Int×Int×Int×Int)):Option Bool:=
 Option.bind (z6 [l.1,l.2.1,l.2.2.1,l.2.2.2.1,l.2.2.2.2.1,l.2.2.2.2.2]) fun x1=>
 some (!x1)
theorem a4R (l:(Int×Int×Int×Int×Int×Int)) (r:Bool) (hm:R4 l=some r):s9 Tryz.prog 151 [.agg [DI l.1,DI l.2.1,DI l.2.2.1,DI l.2.2.2.1,DI l.2.2.2.2.1,DI l.2.2.2.2.2]] (fun x=>x=DB r):=by
 refine zn Tryz.func151 rfl ?_;refine co hm (P4 [l.1,l.2.1,l.2.2.1,l.2.2.2.1,l.2.2.2.2.1,l.2.2.2.2.2]) fun x1 hm=> ?_
 exact hm.rr
def O2 (d:c8):Int→Option (Sum Int (Sum Int Bool)):=fun v4=>
 if(decide (v4<6))=true then
  Option.bind (idx [d.Known.1,d.Known.2.1,d.Known.2.2.1,d.Known.2.2.2.1,d.Known.2.2.2.2.1,d.Known.2.2.2.2.2] v4) fun e12=>
  Option.bind (R4 e12) fun x14=>
  if(!x14)=true then
   some (.inr (.inr false))
  else
   some (.inl (W (v4+1)))
 else
  some (.inr (.inl v4))
def M2 (d:c8):Option Bool:=
 Option.bind (r6 (O2 d) 0) fun e=>
 match e with
 | .inl v17=>
  Option.bind (E1 d.Me) fun x18=>
  if x18=true then
   Option.bind (W9 d.Box d.Written) fun x21=>
   some x21
  else
   some false
 | .inr rr23=>
  some rr23
theorem a0S (d:c8) (r:Bool) (hm:M2 d=some r):s9 Tryz.prog 117 [.agg (c8.c d)] (fun x=>x=DB r):=by
 refine zn Tryz.func117 rfl ?_;obtain⟨ev24,he,hk25⟩:=d9 hm;refine d2T (O2 d) (fun v4=>⟨[(1, .own 0 0),(6, .agg [DI d.Known.1.1,DI d.Known.1.2.1,DI d.Known.1.2.2.1,DI d.Known.1.2.2.2.1,DI d.Known.1.2.2.2.2.1,DI d.Known.1.2.2.2.2.2,DI d.Known.2.1.1,DI d.Known.2.1.2.1,DI d.Known.2.1.2.2.1,DI d.Known.2.1.2.2.2.1,DI d.Known.2.1.2.2.2.2.1,DI d.Known.2.1.2.2.2.2.2,DI d.Known.2.2.1.1,DI d.Known.2.2.1.2.1,DI d.Known.2.2.1.2.2.1,DI d.Known.2.2.1.2.2.2.1,DI d.Known.2.2.1.2.2.2.2.1,DI d.Known.2.2.1.2.2.2.2.2,DI d.Known.2.2.2.1.1,DI d.Known.2.2.2.1.2.1,DI d.Known.2.2.2.1.2.2.1,DI d.Known.2.2.2.1.2.2.2.1,DI d.Known.2.2.2.1.2.2.2.2.1,DI d.Known.2.2.2.1.2.2.2.2.2,DI d.Known.2.2.2.2.1.1,DI d.Known.2.2.2.2.1.2.1,DI d.Known.2.2.2.2.1.2.2.1,DI d.Known.2.2.2.2.1.2.2.2.1,DI d.Known.2.2.2.2.1.2.2.2.2.1,DI d.Known.2.2.2.2.1.2.2.2.2.2,DI d.Known.2.2.2.2.2.1,DI d.Known.2.2.2.2.2.2.1,DI d.Known.2.2.2.2.2.2.2.1,DI d.Known.2.2.2.2.2.2.2.2.1,DI d.Known.2.2.2.2.2.2.2.2.2.1,DI d.Known.2.2.2.2.2.2.2.2.2.2]),(7,DI v4)], [(0, .blk (c8.c d) 91)],1⟩) 0 (sb 1) he ?_;rintro fu26 v4 b hm hi27;apply vb hm<;>intro _ hm;obtain⟨e29,hx30,hm⟩:=d9 hm;refine⟨a3k hx30,_,ldx (c:=cf1) (z:=6) (pre:= []) (post:= []) (b:=0) (off:=0) (fun _=>rfl) hx30 rfl rfl (by omega) rfl, ?_⟩;refine cy hm (a4R e29) fun x31 hm=> ?_
 apply vb hm<;>intro _ hm;cases hm;cases hi27;have hm:=hk25;exact hm.rr;cases hm;exact⟨(_,(W (v4+1))),sb 1,hi27,F6 _⟩;cases hm;cases hi27;have hm:=hk25;refine cy hm (Q6 d.Me) fun x34 hm=> ?_
 apply vb hm<;>intro _ hm;refine cy hm (b0o d.Box d.Written) fun x37 hm=> ?_
 exact hm.rr;exact hm.rr
def S6 (d:c8):Option ((List e8)×(List e8)×(List b9)×Int×Int×Int×Int×Int×Int×Int×Int×Int×Int×Int×Int×Int×Int×Int×Int×Int×Int×Int×Int×Int×Int×Int×Int×Int×Int×Int×Int×Int×Int×Int×Int×Int×Int×Int×Int×Int):=
 Option.bind (D8 d.Box) fun x48=>
 Option.bind (j1 d.Written) fun x50=>
 some (x48.Thread,x48.Loose,x50,d.Me,d.Known.1.1,d.Known.1.2.1,d.Known.1.2.2.1,d.Known.1.2.2.2.1,d.Known.1.2.2.2.2.1,d.Known.1.2.2.2.2.2,d.Known.2.1.1,d.Known.2.1.2.1,d.Known.2.1.2.2.1,d.Known.2.1.2.2.2.1,d.Known.2.1.2.2.2.2.1,d.Known.2.1.2.2.2.2.2,d.Known.2.2.1.1,d.Known.2.2.1.2.1,d.Known.2.2.1.2.2.1,d.Known.2.2.1.2.2.2.1,d.Known.2.2.1.2.2.2.2.1,d.Known.2.2.1.2.2.2.2.2,d.Known.2.2.2.1.1,d.Known.2.2.2.1.2.1,d.Known.2.2.2.1.2.2.1,d.Known.2.2.2.1.2.2.2.1,d.Known.2.2.2.1.2.2.2.2.1,d.Known.2.2.2.1.2.2.2.2.2,d.Known.2.2.2.2.1.1,d.Known.2.2.2.2.1.2.1,d.Known.2.2.2.2.1.2.2.1,d.Known.2.2.2.2.1.2.2.2.1,d.Known.2.2.2.2.1.2.2.2.2.1,d.Known.2.2.2.2.1.2.2.2.2.2,d.Known.2.2.2.2.2.1,d.Known.2.2.2.2.2.2.1,d.Known.2.2.2.2.2.2.2.1,d.Known.2.2.2.2.2.2.2.2.1,d.Known.2.2.2.2.2.2.2.2.2.1,d.Known.2.2.2.2.2.2.2.2.2.2)
def a2p (d:c8) (r_:b9) (v8:(List e8)) (v9:(List e8)) (v10:(List b9)) (x11:Int) (x12:Int) (x13:Int) (x14:Int) (x15:Int) (x16:Int) (x17:Int) (x18:Int) (x19:Int) (x20:Int) (x21:Int) (x22:Int) (x23:Int) (x24:Int) (x25:Int) (x26:Int) (x27:Int) (x28:Int) (x29:Int) (x30:Int) (x31:Int) (x32:Int) (x33:Int) (x34:Int) (x35:Int) (x36:Int) (x37:Int) (x38:Int) (x39:Int) (x40:Int) (x41:Int) (x42:Int) (x43:Int) (x44:Int) (x45:Int) (x46:Int) (x47:Int) (e56:Int):Option (A3×Int):=
 Option.bind (M9 (⟨v8,v9⟩:o4) v10 (⟨(⟨d.Me,e56⟩:p0),r_.Kind,r_.Day,r_.Known,r_.Of,r_.Text⟩:b9)) fun⟨x65,x66,x67⟩=>
 if(x67==0)=true then
  some ((⟨(⟨x11,x65,x66,((x12,x13,x14,x15,x16,x17),(x18,x19,x20,x21,x22,x23),(x24,x25,x26,x27,x28,x29),(x30,x31,x32,x33,x34,x35),(x36,x37,x38,x39,x40,x41),(x42,x43,x44,x45,x46,x47))⟩:c8)⟩:A3),x67)
 else
  some ((⟨(⟨x11,(⟨v8,v9⟩:o4),v10,((x12,x13,x14,x15,x16,x17),(x18,x19,x20,x21,x22,x23),(x24,x25,x26,x27,x28,x29),(x30,x31,x32,x33,x34,x35),(x36,x37,x38,x39,x40,x41),(x42,x43,x44,x45,x46,x47))⟩:c8)⟩:A3),x67)
def a3z (d:c8) (r_:b9):Option (c8×b9×Int):=
 Option.bind (M2 d) fun x1=>
 if(!x1)=true then
  some ((⟨0,(⟨[], []⟩:o4), [],((0,0,0,0,0,0),(0,0,0,0,0,0),(0,0,0,0,0,0),(0,0,0,0,0,0),(0,0,0,0,0,0),(0,0,0,0,0,0))⟩:c8),(⟨(⟨0,0⟩:p0),0,0,0,(⟨0,0⟩:p0),(⟨#[]⟩:ByteArray)⟩:b9),85)
 else
  Option.bind (S6 d) fun⟨v8,v9,v10,x11,x12,x13,x14,x15,x16,x17,x18,x19,x20,x21,x22,x23,x24,x25,x26,x27,x28,x29,x30,x31,x32,x33,x34,x35,x36,x37,x38,x39,x40,x41,x42,x43,x44,x45,x46,x47⟩=>
  Option.bind (S8 d.Written) fun x54=>
  Option.bind (idx [x54.1,x54.2.1,x54.2.2.1,x54.2.2.2.1,x54.2.2.2.2.1,x54.2.2.2.2.2] d.Me) fun e56=>
  Option.bind (a2p d r_ v8 v9 v10 x11 x12 x13 x14 x15 x16 x17 x18 x19 x20 x21 x22 x23 x24 x25 x26 x27 x28 x29 x30 x31 x32 x33 x34 x35 x36 x37 x38 x39 x40 x41 x42 x43 x44 x45 x46 x47 e56) fun⟨v63,x64⟩=>
  if(x64 !=0)=true then
   some ((⟨0,(⟨[], []⟩:o4), [],((0,0,0,0,0,0),(0,0,0,0,0,0),(0,0,0,0,0,0),(0,0,0,0,0,0),(0,0,0,0,0,0),(0,0,0,0,0,0))⟩:c8),(⟨(⟨0,0⟩:p0),0,0,0,(⟨0,0⟩:p0),(⟨#[]⟩:ByteArray)⟩:b9),x64)
  else
   some (v63.Depot,(⟨(⟨d.Me,e56⟩:p0),r_.Kind,r_.Day,r_.Known,r_.Of,r_.Text⟩:b9),0)
theorem b8d (d:c8) (r_:b9) (r:(c8×b9×Int)) (hm:a3z d r_=some r):s9 Tryz.prog 57 [.agg (c8.c d), .agg (b9.c r_)] (fun x=>x= .tup [.agg (c8.c r.1), .agg (b9.c r.2.1),DI r.2.2]):=by
 refine zy d2A [80,112,155,175] [102,137] [118,119] Tryz.func57 rfl ?_;refine cy hm (a0S d) fun x1 hm=> ?_
 apply vb hm<;>intro _ hm;cases hm;exact d2S (le7);obtain⟨ev52,he53,hm⟩:=d9 hm;refine a1T.ofZ pok ⟨[(0, .agg (c8.c d)),(1000002, .own 0 0),(1000003, .own 1 0),(1000004, .own 2 0),(1000005, .own 3 0)], [(0, .blk (c8.c d) 91),(1, .blk (b9.c r_) 38),(2, .blk [DI 0,nS,nS,nS,DI 0,DI 0,DI 0,DI 0,DI 0,DI 0,DI 0,DI 0,DI 0,DI 0,DI 0,DI 0,DI 0,DI 0,DI 0,DI 0,DI 0,DI 0,DI 0,DI 0,DI 0,DI 0,DI 0,DI 0,DI 0,DI 0,DI 0,DI 0,DI 0,DI 0,DI 0,DI 0,DI 0,DI 0,DI 0,DI 0] 91),(3, .blk [DI 0,DI 0,DI 0,DI 0,DI 0,DI 0,DI 0, .v (.string (⟨#[]⟩:ByteArray))] 38)],4⟩ (match ev52 with|(v8,v9,v10,x11,x12,x13,x14,x15,x16,x17,x18,x19,x20,x21,x22,x23,x24,x25,x26,x27,x28,x29,x30,x31,x32,x33,x34,x35,x36,x37,x38,x39,x40,x41,x42,x43,x44,x45,x46,x47)=>(⟨[(2, .own 0 0),(3, .own 1 0),(4, .own 2 0),(5, .own 3 0),(15, .own 8 0)], [(0, .blk (c8.c d) 91),(1, .blk (b9.c r_) 38),(2, .blk [DI 0,nS,nS,nS,DI 0,DI 0,DI 0,DI 0,DI 0,DI 0,DI 0,DI 0,DI 0,DI 0,DI 0,DI 0,DI 0,DI 0,DI 0,DI 0,DI 0,DI 0,DI 0,DI 0,DI 0,DI 0,DI 0,DI 0,DI 0,DI 0,DI 0,DI 0,DI 0,DI 0,DI 0,DI 0,DI 0,DI 0,DI 0,DI 0] 91),(3, .blk [DI 0,DI 0,DI 0,DI 0,DI 0,DI 0,DI 0, .v (.string (⟨#[]⟩:ByteArray))] 38),(5,rE 5 v8 e8.c 53),(6,rE 5 v9 e8.c 53),(7,rE 8 v10 b9.c 38),(8, .blk [DI x11, .row 5 5, .row 6 5, .row 7 8,DI x12,DI x13,DI x14,DI x15,DI x16,DI x17,DI x18,DI x19,DI x20,DI x21,DI x22,DI x23,DI x24,DI x25,DI x26,DI x27,DI x28,DI x29,DI x30,DI x31,DI x32,DI x33,DI x34,DI x35,DI x36,DI x37,DI x38,DI x39,DI x40,DI x41,DI x42,DI x43,DI x44,DI x45,DI x46,DI x47] 173)],9⟩:Sy):Sy) c5P [80,112,155,175] [102,137] [118,119] Tryz.func118 rfl rfl rfl (sb 4) (fun sv=> ?_) ?_
 have hm:=he53;refine⟨rfl, ?_⟩;obtain⟨x78,hx79,hm⟩:=d9 hm;refine .inr (b3U.mk ⟨_,_,a0U d.Box _ hx79, ?_⟩);obtain⟨x80,hx81,hm⟩:=d9 hm;refine .inl (a4s.mk ⟨_,_,_,_,l6 d.Written _ hx81, ?_⟩);cases hm;exact sb 9;obtain⟨v8,v9,v10,x11,x12,x13,x14,x15,x16,x17,x18,x19,x20,x21,x22,x23,x24,x25,x26,x27,x28,x29,x30,x31,x32,x33,x34,x35,x36,x37,x38,x39,x40,x41,x42,x43,x44,x45,x46,x47⟩:=ev52;refine⟨rfl, ?_⟩;refine cy hm (a1j d.Written) fun x54 hm=> ?_
 obtain⟨e56,hx57,hm⟩:=d9 hm;refine⟨a3k hx57,_,ldx (c:=cI) (z:=1) (pre:= []) (post:= []) (b:=0) (off:=0) (fun _=>rfl) hx57 rfl rfl (by omega) rfl, ?_⟩;obtain⟨ev70,he71,hm⟩:=d9 hm;refine a1T.ofZ pok ⟨[(0, .own 8 0),(1, .agg [DI d.Me,DI e56,DI r_.Kind,DI r_.Day,DI r_.Known,DI r_.Of.Depot,DI r_.Of.No, .v (.string r_.Text)]),(1000003, .own 1 0),(1000004, .own 2 0),(1000005, .own 3 0),(1000007, .own 8 0)], [(1, .blk [DI d.Me,DI e56,DI r_.Kind,DI r_.Day,DI r_.Known,DI r_.Of.Depot,DI r_.Of.No, .v (.string r_.Text)] 38),(2, .blk [DI 0,nS,nS,nS,DI 0,DI 0,DI 0,DI 0,DI 0,DI 0,DI 0,DI 0,DI 0,DI 0,DI 0,DI 0,DI 0,DI 0,DI 0,DI 0,DI 0,DI 0,DI 0,DI 0,DI 0,DI 0,DI 0,DI 0,DI 0,DI 0,DI 0,DI 0,DI 0,DI 0,DI 0,DI 0,DI 0,DI 0,DI 0,DI 0] 91),(3, .blk [DI 0,DI 0,DI 0,DI 0,DI 0,DI 0,DI 0, .v (.string (⟨#[]⟩:ByteArray))] 38),(5,rE 5 v8 e8.c 53),(6,rE 5 v9 e8.c 53),(7,rE 8 v10 b9.c 38),(8, .blk [DI x11, .row 5 5, .row 6 5, .row 7 8,DI x12,DI x13,DI x14,DI x15,DI x16,DI x17,DI x18,DI x19,DI x20,DI x21,DI x22,DI x23,DI x24,DI x25,DI x26,DI x27,DI x28,DI x29,DI x30,DI x31,DI x32,DI x33,DI x34,DI x35,DI x36,DI x37,DI x38,DI x39,DI x40,DI x41,DI x42,DI x43,DI x44,DI x45,DI x46,DI x47] 173)],9⟩ (match ev70 with|(v63,x64)=>(⟨[(3, .own 1 0),(4, .own 2 0),(5, .own 3 0),(7, .own 8 0),(28,DI x64)], [(1, .blk [DI d.Me,DI e56,DI r_.Kind,DI r_.Day,DI r_.Known,DI r_.Of.Depot,DI r_.Of.No, .v (.string r_.Text)] 38),(2, .blk [DI 0,nS,nS,nS,DI 0,DI 0,DI 0,DI 0,DI 0,DI 0,DI 0,DI 0,DI 0,DI 0,DI 0,DI 0,DI 0,DI 0,DI 0,DI 0,DI 0,DI 0,DI 0,DI 0,DI 0,DI 0,DI 0,DI 0,DI 0,DI 0,DI 0,DI 0,DI 0,DI 0,DI 0,DI 0,DI 0,DI 0,DI 0,DI 0] 91),(3, .blk [DI 0,DI 0,DI 0,DI 0,DI 0,DI 0,DI 0, .v (.string (⟨#[]⟩:ByteArray))] 38),(8, .blk (c8.c v63.Depot) 173)],9⟩:Sy):Sy) c8z [80,112,155,175] [102,137] [118,119] Tryz.func119 rfl rfl rfl (sb 9) (fun sv=> ?_) ?_
 have hm:=he71;refine⟨rfl, ?_⟩;refine co hm (a4W ((⟨v8,v9⟩:o4)) v10 ((⟨(⟨d.Me,e56⟩:p0),r_.Kind,r_.Day,r_.Known,r_.Of,r_.Text⟩:b9))) ?_;rintro⟨x73,x74,x75⟩ hm;apply vb hm<;>intro _ hm;cases hm;exact sb 9;cases hm;exact sb 9;obtain⟨v63,x64⟩:=ev70;apply vb hm<;>intro _ hm;cases hm;exact d2S (le7);refine⟨rfl, ?_⟩;cases hm;exact d2S (d2Q _)
def I1 (k:A3) (to_:Int):Option d8:=
 Option.bind (S8 k.Depot.Written) fun x1=>
 some (⟨k.Depot.Me,to_,x1, []⟩:d8)
theorem a1J (k:A3) (to_:Int) (r:d8) (hm:I1 k to_=some r):s9 Tryz.prog 122 [.ptr (A3.c k) 0,DI to_] (fun x=>x= .agg (d8.c r)):=by
 refine zy d0I [] [] [] Tryz.func122 rfl ?_;refine⟨rfl, ?_⟩;refine cy hm (a1j k.Depot.Written) fun x1 hm=> ?_
 cases hm;exact d2S (d2e)
def a2l (v12:(List e8)) (v13:(List e8)):Option ((List e8)×(List e8)):=
 Option.bind (R8 (⟨v12,v13⟩:o4)) fun x62=>
 some (x62.Thread,x62.Loose)
def a0p (d:c8) (to_:Int):Option (c8×d8×Int):=
 Option.bind (M2 d) fun x1=>
 if(!x1)=true then
  some ((⟨0,(⟨[], []⟩:o4), [],((0,0,0,0,0,0),(0,0,0,0,0,0),(0,0,0,0,0,0),(0,0,0,0,0,0),(0,0,0,0,0,0),(0,0,0,0,0,0))⟩:c8),(⟨0,0,(0,0,0,0,0,0), []⟩:d8),85)
 else
  Option.bind (E1 to_) fun x4=>
  if(!x4)=true then
   some ((⟨0,(⟨[], []⟩:o4), [],((0,0,0,0,0,0),(0,0,0,0,0,0),(0,0,0,0,0,0),(0,0,0,0,0,0),(0,0,0,0,0,0),(0,0,0,0,0,0))⟩:c8),(⟨0,0,(0,0,0,0,0,0), []⟩:d8),1)
  else
   if(to_==d.Me)=true then
    some ((⟨0,(⟨[], []⟩:o4), [],((0,0,0,0,0,0),(0,0,0,0,0,0),(0,0,0,0,0,0),(0,0,0,0,0,0),(0,0,0,0,0,0),(0,0,0,0,0,0))⟩:c8),(⟨0,0,(0,0,0,0,0,0), []⟩:d8),1)
   else
    Option.bind (S6 d) fun⟨v12,v13,v14,x15,x16,x17,x18,x19,x20,x21,x22,x23,x24,x25,x26,x27,x28,x29,x30,x31,x32,x33,x34,x35,x36,x37,x38,x39,x40,x41,x42,x43,x44,x45,x46,x47,x48,x49,x50,x51⟩=>
    Option.bind (a2l v12 v13) fun⟨x60,x61⟩=>
    Option.bind (I1 (⟨(⟨x15,(⟨x60,x61⟩:o4),v14,((x16,x17,x18,x19,x20,x21),(x22,x23,x24,x25,x26,x27),(x28,x29,x30,x31,x32,x33),(x34,x35,x36,x37,x38,x39),(x40,x41,x42,x43,x44,x45),(x46,x47,x48,x49,x50,x51))⟩:c8)⟩:A3) to_) fun x66=>
    some ((⟨x15,(⟨x60,x61⟩:o4),v14,((x16,x17,x18,x19,x20,x21),(x22,x23,x24,x25,x26,x27),(x28,x29,x30,x31,x32,x33),(x34,x35,x36,x37,x38,x39),(x40,x41,x42,x43,x44,x45),(x46,x47,x48,x49,x50,x51))⟩:c8),x66,0)
theorem a6C (d:c8) (to_:Int) (r:(c8×d8×Int)) (hm:a0p d to_=some r):s9 Tryz.prog 59 [.agg (c8.c d),DI to_] (fun x=>x= .tup [.agg (c8.c r.1), .agg (d8.c r.2.1),DI r.2.2]):=by
 refine zy d1Y [80,112,155,175] [102,137] [118,121] Tryz.func59 rfl ?_;refine cy hm (a0S d) fun x1 hm=> ?_
 apply vb hm<;>intro _ hm;cases hm;exact d2S (le8);refine cy hm (Q6 to_) fun x4 hm=> ?_
 apply vb hm<;>intro _ hm;cases hm;exact d2S (le8);apply vb hm<;>intro _ hm;cases hm;exact d2S (le8);obtain⟨ev56,he57,hm⟩:=d9 hm;refine a1T.ofZ pok ⟨[(0, .agg (c8.c d)),(1000001,DI to_),(1000004, .own 1 0),(1000005, .own 2 0)], [(1, .blk [DI 0,nS,nS,nS,DI 0,DI 0,DI 0,DI 0,DI 0,DI 0,DI 0,DI 0,DI 0,DI 0,DI 0,DI 0,DI 0,DI 0,DI 0,DI 0,DI 0,DI 0,DI 0,DI 0,DI 0,DI 0,DI 0,DI 0,DI 0,DI 0,DI 0,DI 0,DI 0,DI 0,DI 0,DI 0,DI 0,DI 0,DI 0,DI 0] 91),(2, .blk [DI 0,DI 0,DI 0,DI 0,DI 0,DI 0,DI 0,DI 0,nS] 86)],3⟩ (match ev56 with|(v12,v13,v14,x15,x16,x17,x18,x19,x20,x21,x22,x23,x24,x25,x26,x27,x28,x29,x30,x31,x32,x33,x34,x35,x36,x37,x38,x39,x40,x41,x42,x43,x44,x45,x46,x47,x48,x49,x50,x51)=>(⟨[(1,DI to_),(4, .own 1 0),(5, .own 2 0),(27, .own 7 0)], [(1, .blk [DI 0,nS,nS,nS,DI 0,DI 0,DI 0,DI 0,DI 0,DI 0,DI 0,DI 0,DI 0,DI 0,DI 0,DI 0,DI 0,DI 0,DI 0,DI 0,DI 0,DI 0,DI 0,DI 0,DI 0,DI 0,DI 0,DI 0,DI 0,DI 0,DI 0,DI 0,DI 0,DI 0,DI 0,DI 0,DI 0,DI 0,DI 0,DI 0] 91),(2, .blk [DI 0,DI 0,DI 0,DI 0,DI 0,DI 0,DI 0,DI 0,nS] 86),(4,rE 5 v12 e8.c 53),(5,rE 5 v13 e8.c 53),(6,rE 8 v14 b9.c 38),(7, .blk [DI x15, .row 4 5, .row 5 5, .row 6 8,DI x16,DI x17,DI x18,DI x19,DI x20,DI x21,DI x22,DI x23,DI x24,DI x25,DI x26,DI x27,DI x28,DI x29,DI x30,DI x31,DI x32,DI x33,DI x34,DI x35,DI x36,DI x37,DI x38,DI x39,DI x40,DI x41,DI x42,DI x43,DI x44,DI x45,DI x46,DI x47,DI x48,DI x49,DI x50,DI x51] 173)],8⟩:Sy):Sy) c5P [80,112,155,175] [102,137] [118,121] Tryz.func118 rfl rfl rfl (sb 3) (fun sv=> ?_) ?_
 have hm:=he57;refine⟨rfl, ?_⟩;obtain⟨x70,hx71,hm⟩:=d9 hm;refine .inr (b3U.mk ⟨_,_,a0U d.Box _ hx71, ?_⟩);obtain⟨x72,hx73,hm⟩:=d9 hm;refine .inl (a4s.mk ⟨_,_,_,_,l6 d.Written _ hx73, ?_⟩);cases hm;exact sb 8;obtain⟨v12,v13,v14,x15,x16,x17,x18,x19,x20,x21,x22,x23,x24,x25,x26,x27,x28,x29,x30,x31,x32,x33,x34,x35,x36,x37,x38,x39,x40,x41,x42,x43,x44,x45,x46,x47,x48,x49,x50,x51⟩:=ev56;obtain⟨ev64,he65,hm⟩:=d9 hm;refine a1T.ofZ pok ⟨[(0, .own 7 0),(1000001,DI to_),(1000004, .own 1 0),(1000005, .own 2 0),(1000007, .own 7 0)], [(1, .blk [DI 0,nS,nS,nS,DI 0,DI 0,DI 0,DI 0,DI 0,DI 0,DI 0,DI 0,DI 0,DI 0,DI 0,DI 0,DI 0,DI 0,DI 0,DI 0,DI 0,DI 0,DI 0,DI 0,DI 0,DI 0,DI 0,DI 0,DI 0,DI 0,DI 0,DI 0,DI 0,DI 0,DI 0,DI 0,DI 0,DI 0,DI 0,DI 0] 91),(2, .blk [DI 0,DI 0,DI 0,DI 0,DI 0,DI 0,DI 0,DI 0,nS] 86),(4,rE 5 v12 e8.c 53),(5,rE 5 v13 e8.c 53),(6,rE 8 v14 b9.c 38),(7, .blk [DI x15, .row 4 5, .row 5 5, .row 6 8,DI x16,DI x17,DI x18,DI x19,DI x20,DI x21,DI x22,DI x23,DI x24,DI x25,DI x26,DI x27,DI x28,DI x29,DI x30,DI x31,DI x32,DI x33,DI x34,DI x35,DI x36,DI x37,DI x38,DI x39,DI x40,DI x41,DI x42,DI x43,DI x44,DI x45,DI x46,DI x47,DI x48,DI x49,DI x50,DI x51] 173)],8⟩ (match ev64 with|(x60,x61)=>(⟨[(1,DI to_),(4, .own 1 0),(5, .own 2 0),(7, .own 7 0),(29, .tup [])], [(1, .blk [DI 0,nS,nS,nS,DI 0,DI 0,DI 0,DI 0,DI 0,DI 0,DI 0,DI 0,DI 0,DI 0,DI 0,DI 0,DI 0,DI 0,DI 0,DI 0,DI 0,DI 0,DI 0,DI 0,DI 0,DI 0,DI 0,DI 0,DI 0,DI 0,DI 0,DI 0,DI 0,DI 0,DI 0,DI 0,DI 0,DI 0,DI 0,DI 0] 91),(2, .blk [DI 0,DI 0,DI 0,DI 0,DI 0,DI 0,DI 0,DI 0,nS] 86),(6,rE 8 v14 b9.c 38),(7, .blk [DI x15,lD 5 x60 e8.c,lD 5 x61 e8.c, .row 6 8,DI x16,DI x17,DI x18,DI x19,DI x20,DI x21,DI x22,DI x23,DI x24,DI x25,DI x26,DI x27,DI x28,DI x29,DI x30,DI x31,DI x32,DI x33,DI x34,DI x35,DI x36,DI x37,DI x38,DI x39,DI x40,DI x41,DI x42,DI x43,DI x44,DI x45,DI x46,DI x47,DI x48,DI x49,DI x50,DI x51] 173)],8⟩:Sy):Sy) [] [80,112,155,175] [102,137] [118,121] Tryz.func121 rfl rfl rfl (sb 8) (fun sv=> ?_) ?_
 have hm:=he65;refine co hm (a6q ((⟨v12,v13⟩:o4))) fun x68 hm=> ?_
 cases hm;exact sb 8;obtain⟨x60,x61⟩:=ev64;refine⟨rfl, ?_⟩;refine co hm (a1J ((⟨(⟨x15,(⟨x60,x61⟩:o4),v14,((x16,x17,x18,x19,x20,x21),(x22,x23,x24,x25,x26,x27),(x28,x29,x30,x31,x32,x33),(x34,x35,x36,x37,x38,x39),(x40,x41,x42,x43,x44,x45),(x46,x47,x48,x49,x50,x51))⟩:c8)⟩:A3)) to_) fun x66 hm=> ?_
 cases hm;exact d2S (d2Q _)
def U6 (r_:b9):Option Bool:=
 Option.bind (s8 r_) fun x1=>
 some (!x1)
theorem a8t (r_:b9) (r:Bool) (hm:U6 r_=some r):s9 Tryz.prog 154 [.agg (b9.c r_)] (fun x=>x=DB r):=by
 refine zn Tryz.func154 rfl ?_;refine cy hm (B1 r_) fun x1 hm=> ?_
 exact hm.rr
def A0 (s:(List b9)):Int→Option (Sum Int (Sum Int Int)):=fun v7=>
 if(decide (v7<(s.length:Int)))=true then
  Option.bind (idx s v7) fun e15=>
  Option.bind (U6 e15) fun x17=>
  if x17=true then
   some (.inr (.inr v7))
  else
   some (.inl (W (v7+1)))
 else
  some (.inr (.inl v7))
def A8 (s:(List b9)):Option Int:=
 Option.bind (r6 (A0 s) 0) fun e=>
 match e with
 | .inl v20=>
  some (-1)
 | .inr rr21=>
  some rr21
theorem J5 (s:(List b9)) (r:Int) (hm:A8 s=some r):s9 Tryz.prog 171 [lD 8 s b9.c, .fn 154 [] []] (fun x=>x=DI r):=by
 refine zn Tryz.func171 rfl ?_;obtain⟨ev22,he,hk23⟩:=d9 hm;refine d2T (A0 s) (fun v7=>⟨[(0,lD 8 s b9.c),(1, .fn 154 [] []),(7,DI (s.length:Int)),(8,DI v7)], [],0⟩) 0 (sb 0) he ?_;rintro fu24 v7 b hm hi25;apply vb hm<;>intro _ hm;refine ei hm fun e27 hm=> ?_
 refine cy hm (a8t e27) fun x29 hm=> ?_
 apply vb hm<;>intro _ hm;cases hm;cases hi25;have hm:=hk23;exact hm.rr;cases hm;exact⟨(_,(W (v7+1))),sb 0,hi25,F6 _⟩;cases hm;cases hi25;have hm:=hk23;exact hm.rr
def r7 (s:(List b9)):Option Bool:=
 Option.bind (A8 s) fun x1=>
 some (decide (x1≥0))
theorem H9 (s:(List b9)) (r:Bool) (hm:r7 s=some r):s9 Tryz.prog 153 [lD 8 s b9.c, .fn 154 [] []] (fun x=>x=DB r):=by
 refine zn Tryz.func153 rfl ?_;refine cy hm (J5 s) fun x1 hm=> ?_
 exact hm.rr
def Z0 (m:d8):Option Bool:=
 Option.bind (E1 m.From) fun x1=>
 if x1=true then
  Option.bind (E1 m.To) fun x4=>
  if x4=true then
   if(m.From !=m.To)=true then
    Option.bind (R4 m.Have) fun x8=>
    if x8=true then
     if(decide ((m.Records.length:Int)≤6))=true then
      Option.bind (r7 m.Records) fun x12=>
      some (!x12)
     else
      some false
    else
     some false
   else
    some false
  else
   some false
 else
  some false
theorem a9Z (m:d8) (r:Bool) (hm:Z0 m=some r):s9 Tryz.prog 124 [.agg (d8.c m)] (fun x=>x=DB r):=by
 refine zn Tryz.func124 rfl ?_;refine cy hm (Q6 m.From) fun x1 hm=> ?_
 apply vb hm<;>intro _ hm;refine cy hm (Q6 m.To) fun x4 hm=> ?_
 apply vb hm<;>intro _ hm;apply vb hm<;>intro _ hm;refine cy hm (a4R m.Have) fun x8 hm=> ?_
 apply vb hm<;>intro _ hm;apply vb hm<;>intro _ hm;refine cy hm (H9 m.Records) fun x12 hm=> ?_
 exact hm.rr;exact hm.rr;exact hm.rr;exact hm.rr;exact hm.rr;exact hm.rr
def D5 (r_:b9) (c_0:(Int×Int×Int×Int×Int×Int)):Option Bool:=
 gd (0≤r_.At.Depot∧r_.At.Depot<6)<|
 Option.bind (idx [c_0.1,c_0.2.1,c_0.2.2.1,c_0.2.2.2.1,c_0.2.2.2.2.1,c_0.2.2.2.2.2] r_.At.Depot) fun e1=>
 some (decide (r_.At.No<e1))
theorem a1z (r_:b9) (c_0:(Int×Int×Int×Int×Int×Int)) (r:Bool) (hm:D5 r_ c_0=some r):s9 Tryz.prog 156 [.agg (b9.c r_), .ptr [DI c_0.1,DI c_0.2.1,DI c_0.2.2.1,DI c_0.2.2.2.1,DI c_0.2.2.2.2.1,DI c_0.2.2.2.2.2] 0] (fun x=>x=DB r):=by
 refine zy d0p [] [] [] Tryz.func156 rfl ?_;refine⟨rfl, ?_⟩;obtain⟨hg,hm⟩:=j4 hm;refine⟨hg, ?_⟩;obtain⟨e1,hx2,hm⟩:=d9 hm;refine c9M (ldx (r:= [DI e1]) (c:=cI) (z:=1) (pre:= []) (post:= []) (b:=0) (off:=0) (fun _=>rfl) hx2 rfl rfl (by omega) rfl) ?_;exact hm.rr
def y4 (s:(List b9)) (c1_0:(Int×Int×Int×Int×Int×Int)):Int→Option (Sum Int (Sum Int Int)):=fun v7=>
 if(decide (v7<(s.length:Int)))=true then
  Option.bind (idx s v7) fun e15=>
  Option.bind (D5 e15 c1_0) fun x17=>
  if x17=true then
   some (.inr (.inr v7))
  else
   some (.inl (W (v7+1)))
 else
  some (.inr (.inl v7))
def z8 (s:(List b9)) (c1_0:(Int×Int×Int×Int×Int×Int)):Option Int:=
 Option.bind (r6 (y4 s c1_0) 0) fun e=>
 match e with
 | .inl v20=>
  some (-1)
 | .inr rr21=>
  some rr21
theorem H8 (s:(List b9)) (c1_0:(Int×Int×Int×Int×Int×Int)) (r:Int) (hm:z8 s c1_0=some r):s9 Tryz.prog 171 [lD 8 s b9.c, .fn 156 [] [.ptr [DI c1_0.1,DI c1_0.2.1,DI c1_0.2.2.1,DI c1_0.2.2.2.1,DI c1_0.2.2.2.2.1,DI c1_0.2.2.2.2.2] 0]] (fun x=>x=DI r):=by
 refine zn Tryz.func171 rfl ?_;obtain⟨ev22,he,hk23⟩:=d9 hm;refine d2T (y4 s c1_0) (fun v7=>⟨[(0,lD 8 s b9.c),(1, .fn 156 [] [.ptr [DI c1_0.1,DI c1_0.2.1,DI c1_0.2.2.1,DI c1_0.2.2.2.1,DI c1_0.2.2.2.2.1,DI c1_0.2.2.2.2.2] 0]),(7,DI (s.length:Int)),(8,DI v7)], [],0⟩) 0 (sb 0) he ?_;rintro fu24 v7 b hm hi25;apply vb hm<;>intro _ hm;refine ei hm fun e27 hm=> ?_
 refine cy hm (a1z e27 c1_0) fun x29 hm=> ?_
 apply vb hm<;>intro _ hm;cases hm;cases hi25;have hm:=hk23;exact hm.rr;cases hm;exact⟨(_,(W (v7+1))),sb 0,hi25,F6 _⟩;cases hm;cases hi25;have hm:=hk23;exact hm.rr
def w6 (c1_0:(Int×Int×Int×Int×Int×Int)):(Int×Int×(List b9))→Option (Sum (Int×Int×(List b9)) (Int×Int×(List b9))):=fun(i16,j17,v18)=>
 if(decide (j17<(v18.length:Int)))=true then
  Option.bind (idx v18 j17) fun e32=>
  Option.bind (idx v18 j17) fun e34=>
  Option.bind (D5 e34 c1_0) fun x36=>
  if(!x36)=true then
   Option.bind (idx v18 i16) fun e39=>
   Option.bind (idx v18 i16) fun e41=>
   some (.inl ((W (i16+1)),(W (j17+1)),(v18.set i16.toNat e34)))
  else
   some (.inl (i16,(W (j17+1)),v18))
 else
  some (.inr (i16,j17,v18))
def o9 (s:(List b9)) (c1_0:(Int×Int×Int×Int×Int×Int)):Option (List b9):=
 Option.bind (z8 s c1_0) fun x1=>
 if(x1==(-1))=true then
  some s
 else
  Option.bind (r6 (w6 c1_0) (x1,(W (x1+1)),s)) fun(i43,j44,v45)=>
  gd (0≤i43∧i43.toNat≤v45.length∧0<v45.length) (some (v45.take i43.toNat))
theorem H3 (s:(List b9)) (c1_0:(Int×Int×Int×Int×Int×Int)) (r:(List b9)) (hm:o9 s c1_0=some r):b3c Tryz.prog 155 8 s.length (s.flatMap b9.c) 38 [.fn 156 [] [.ptr [DI c1_0.1,DI c1_0.2.1,DI c1_0.2.2.1,DI c1_0.2.2.2.1,DI c1_0.2.2.2.2.1,DI c1_0.2.2.2.2.2] 0]] 8 r.length (r.flatMap b9.c):=by
 refine c3S (X:=⟨Tryz.prog,tt,Tryz.f155.ntmps, [], [], [], [], [], []⟩) (t:=27) (ty:=38) (args:= [.fn 156 [] [.ptr [DI c1_0.1,DI c1_0.2.1,DI c1_0.2.2.1,DI c1_0.2.2.2.1,DI c1_0.2.2.2.2.1,DI c1_0.2.2.2.2.2] 0]]) pok Tryz.func155 rfl rfl (J1 rfl) .mk rfl rfl rfl rfl rfl rfl ?_;refine co hm (H8 s c1_0) fun x1 hm=> ?_
 apply vb hm<;>intro _ hm;cases hm;exact⟨rfl,rfl⟩;obtain⟨ev46,he,hk47⟩:=d9 hm;refine d2T (w6 c1_0) (fun(i16,j17,v18)=>⟨[(0, .row 0 8),(1, .fn 156 [] [.ptr [DI c1_0.1,DI c1_0.2.1,DI c1_0.2.2.1,DI c1_0.2.2.2.1,DI c1_0.2.2.2.2.1,DI c1_0.2.2.2.2.2] 0]),(5,DI i16),(6,DI j17)], [(0,rE 8 v18 b9.c 38)],1⟩) (x1,(W (x1+1)),s) (sb 1) he ?_;rintro fu48 ⟨i16,j17,v18⟩ b hm hi49;apply vb hm<;>intro _ hm;refine eb hm fun _ hm=> ?_
 refine er hm fun e53 hm=> ?_
 refine cy hm (a1z e53 c1_0) fun x55 hm=> ?_
 apply vb hm<;>intro _ hm;refine eb hm fun _ hm=> ?_
 obtain⟨e60,hx61,hm⟩:=d9 hm;refine⟨_,c1N (fun _=>rfl) hx61,_,c2o (y:=e53) (fun _=>rfl) hx61, ?_⟩;cases hm;exact⟨(_,((W (i16+1)),(W (j17+1)),(v18.set i16.toNat e53))),sb 1,hi49,F6 _⟩;cases hm;exact⟨(_,(i16,(W (j17+1)),v18)),sb 1,hi49,F6 _⟩;cases hm;cases hi49;have hm:=hk47;obtain⟨hg,hm⟩:=j4 hm;cases hm;exact d1H (fun _=>rfl) hg
def P0 (k:A3) (have_:(Int×Int×Int×Int×Int×Int)):Option (List b9):=
 Option.bind (u5 k.Depot.Written) fun x1=>
 Option.bind (o9 x1.Records have_) fun x3=>
 gd ((0≤(if 6<(x3.length:Int)then 6 else(x3.length:Int))∧(if 6<(x3.length:Int)then 6 else(x3.length:Int))≤(x3.length:Int)))<|
 Option.bind (some (sub x3 0 ((if 6<(x3.length:Int)then 6 else(x3.length:Int))).toNat)) fun sl5=>
 Option.bind (j1 sl5) fun x6=>
 some x6
theorem a6X (k:A3) (have_:(Int×Int×Int×Int×Int×Int)) (r:(List b9)) (hm:P0 k have_=some r):s9 Tryz.prog 125 [.ptr (A3.c k) 0, .agg [DI have_.1,DI have_.2.1,DI have_.2.2.1,DI have_.2.2.2.1,DI have_.2.2.2.2.1,DI have_.2.2.2.2.2]] (fun x=>x=lD 8 r b9.c):=by
 refine zy [] [80,112,155,175] [102,104] [] Tryz.func125 rfl ?_;obtain⟨x1,hx2,hm⟩:=d9 hm;refine .inr (b3U.mk ⟨_,_,b2r k.Depot.Written _ hx2, ?_⟩);obtain⟨x3,hx4,hm⟩:=d9 hm;refine .inl (c2s.mk ⟨_,_,_,_,_,_,_,rfl,H3 x1.Records have_ _ hx4, ?_⟩);refine Or.inr ⟨_,rfl, ?_⟩;obtain⟨hg,hm⟩:=j4 hm;obtain⟨sl5,hy,hm⟩:=d9 hm;refine⟨hg,_,(a0c (c:=b9.c) (z:=8) (fun _=>rfl) _ _ _).trans (m9 _ (G4 hy)), ?_⟩;have hl:sl5.length=((if 6<(x3.length:Int)then 6 else(x3.length:Int))).toNat-0:=by rw [←G4 hy];exact a1L (by omega)
 rw [←hl];obtain⟨x6,hx7,hm⟩:=d9 hm;refine .inl (a4s.mk ⟨_,_,_,_,l6 sl5 _ hx7, ?_⟩);cases hm;exact d2S (d2Q _)
def a2c (d:c8):Option A3:=
 Option.bind (D8 d.Box) fun x13=>
 Option.bind (j1 d.Written) fun x15=>
 some (⟨(⟨d.Me,x13,x15,d.Known⟩:c8)⟩:A3)
def a1y (v43:A3) (e68:b9):Option (A3×Int):=
 Option.bind (M9 v43.Depot.Box v43.Depot.Written e68) fun⟨x82,x83,x84⟩=>
 if(x84==0)=true then
  some ((⟨(⟨v43.Depot.Me,x82,x83,v43.Depot.Known⟩:c8)⟩:A3),x84)
 else
  some (v43,x84)
def a0H (v96:A3):Option A3:=
 Option.bind (R8 v96.Depot.Box) fun x100=>
 some (⟨(⟨v96.Depot.Me,x100,v96.Depot.Written,v96.Depot.Known⟩:c8)⟩:A3)
def G6 (m:d8):(Int×A3)→Option (Sum (Int×A3) (Sum (Int×A3) (c8×(List d8)×Int))):=fun(v42,v43)=>
 if(decide (v42<(m.Records.length:Int)))=true then
  Option.bind (idx m.Records v42) fun e68=>
  Option.bind (S8 v43.Depot.Written) fun x70=>
  Option.bind (idx [x70.1,x70.2.1,x70.2.2.1,x70.2.2.2.1,x70.2.2.2.2.1,x70.2.2.2.2.2] e68.At.Depot) fun e72=>
  if(decide (e72<e68.At.No))=true then
   some (.inl ((W (v42+1)),v43))
  else
   Option.bind (a1y v43 e68) fun⟨v80,x81⟩=>
   if(x81 !=0)=true then
    some (.inr (.inr ((⟨0,(⟨[], []⟩:o4), [],((0,0,0,0,0,0),(0,0,0,0,0,0),(0,0,0,0,0,0),(0,0,0,0,0,0),(0,0,0,0,0,0),(0,0,0,0,0,0))⟩:c8), [],x81)))
   else
    some (.inl ((W (v42+1)),v80))
 else
  some (.inr (.inl (v42,v43)))
def J9 (m:d8):(Bool×Int×A3)→Option (Sum (Bool×Int×A3) (Bool×Int×A3)):=fun(more128,v129,v130)=>
 if(decide (v129<6))=true then
  Option.bind (idx [m.Have.1,m.Have.2.1,m.Have.2.2.1,m.Have.2.2.2.1,m.Have.2.2.2.2.1,m.Have.2.2.2.2.2] v129) fun e162=>
  gd (0≤m.From∧m.From<6)<|
  gd (0≤v129∧v129<6)<|
  Option.bind (idx [v130.Depot.Known.1,v130.Depot.Known.2.1,v130.Depot.Known.2.2.1,v130.Depot.Known.2.2.2.1,v130.Depot.Known.2.2.2.2.1,v130.Depot.Known.2.2.2.2.2] m.From) fun e164=>
  Option.bind (idx [e164.1,e164.2.1,e164.2.2.1,e164.2.2.2.1,e164.2.2.2.2.1,e164.2.2.2.2.2] v129) fun e166=>
  gd (0≤m.From∧m.From<6)<|
  gd (0≤v129∧v129<6)<|
  Option.bind (idx [v130.Depot.Known.1,v130.Depot.Known.2.1,v130.Depot.Known.2.2.1,v130.Depot.Known.2.2.2.1,v130.Depot.Known.2.2.2.2.1,v130.Depot.Known.2.2.2.2.2] m.From) fun e168=>
  Option.bind (idx [e168.1,e168.2.1,e168.2.2.1,e168.2.2.2.1,e168.2.2.2.2.1,e168.2.2.2.2.2] v129) fun e170=>
  Option.bind (some (if e162>e166 then e162 else e166)) fun y172=>
  Option.bind (some (if(v129==0)=true then y172 else e168.1)) fun q174=>
  Option.bind (some (if(v129==1)=true then y172 else e168.2.1)) fun q175=>
  Option.bind (some (if(v129==2)=true then y172 else e168.2.2.1)) fun q176=>
  Option.bind (some (if(v129==3)=true then y172 else e168.2.2.2.1)) fun q177=>
  Option.bind (some (if(v129==4)=true then y172 else e168.2.2.2.2.1)) fun q178=>
  Option.bind (some (if(v129==5)=true then y172 else e168.2.2.2.2.2)) fun q179=>
  Option.bind (some (q174,q175,q176,q177,q178,q179)) fun y173=>
  Option.bind (some (if(m.From==0)=true then y173 else v130.Depot.Known.1)) fun q180=>
  Option.bind (some (if(m.From==1)=true then y173 else v130.Depot.Known.2.1)) fun q181=>
  Option.bind (some (if(m.From==2)=true then y173 else v130.Depot.Known.2.2.1)) fun q182=>
  Option.bind (some (if(m.From==3)=true then y173 else v130.Depot.Known.2.2.2.1)) fun q183=>
  Option.bind (some (if(m.From==4)=true then y173 else v130.Depot.Known.2.2.2.2.1)) fun q184=>
  Option.bind (some (if(m.From==5)=true then y173 else v130.Depot.Known.2.2.2.2.2)) fun q185=>
  if more128=true then
   some (.inl (true,(W (v129+1)),(⟨(⟨v130.Depot.Me,v130.Depot.Box,v130.Depot.Written,(q180,q181,q182,q183,q184,q185)⟩:c8)⟩:A3)))
  else
   Option.bind (S8 v130.Depot.Written) fun x187=>
   Option.bind (idx [x187.1,x187.2.1,x187.2.2.1,x187.2.2.2.1,x187.2.2.2.2.1,x187.2.2.2.2.2] v129) fun e189=>
   some (.inl ((decide (e162>e189)),(W (v129+1)),(⟨(⟨v130.Depot.Me,v130.Depot.Box,v130.Depot.Written,(q180,q181,q182,q183,q184,q185)⟩:c8)⟩:A3)))
 else
  some (.inr (more128,v129,v130))
def L9 (d:c8) (m:d8):Option (c8×(List d8)×Int):=
 Option.bind (M2 d) fun x1=>
 if(!x1)=true then
  some ((⟨0,(⟨[], []⟩:o4), [],((0,0,0,0,0,0),(0,0,0,0,0,0),(0,0,0,0,0,0),(0,0,0,0,0,0),(0,0,0,0,0,0),(0,0,0,0,0,0))⟩:c8), [],85)
 else
  Option.bind (Z0 m) fun x4=>
  if(!x4)=true then
   some ((⟨0,(⟨[], []⟩:o4), [],((0,0,0,0,0,0),(0,0,0,0,0,0),(0,0,0,0,0,0),(0,0,0,0,0,0),(0,0,0,0,0,0),(0,0,0,0,0,0))⟩:c8), [],86)
  else
   if(m.To !=d.Me)=true then
    some ((⟨0,(⟨[], []⟩:o4), [],((0,0,0,0,0,0),(0,0,0,0,0,0),(0,0,0,0,0,0),(0,0,0,0,0,0),(0,0,0,0,0,0),(0,0,0,0,0,0))⟩:c8), [],86)
   else
    Option.bind (a2c d) fun v12=>
    Option.bind (r6 (G6 m) (0,v12)) fun e=>
    match e with
    | .inl (v95,v96)=>
     Option.bind (a0H v96) fun v99=>
     Option.bind (r6 (J9 m) (false,0,v99)) fun(more191,v192,v193)=>
     Option.bind (I1 v193 m.From) fun x194=>
     Option.bind (P0 v193 m.Have) fun x196=>
     if((x196.length:Int)==0)=true then
      if((v193.Depot.Written.length:Int)==(d.Written.length:Int))=true then
       if(!more191)=true then
        some (v193.Depot, [],0)
       else
        some (v193.Depot,([(⟨x194.From,x194.To,x194.Have,x196⟩:d8)]:List d8),0)
      else
       some (v193.Depot,([(⟨x194.From,x194.To,x194.Have,x196⟩:d8)]:List d8),0)
     else
      some (v193.Depot,([(⟨x194.From,x194.To,x194.Have,x196⟩:d8)]:List d8),0)
    | .inr rr244=>
     some rr244
theorem a0R (d:c8) (m:d8) (r:(c8×(List d8)×Int)) (hm:L9 d m=some r):s9 Tryz.prog 61 [.agg (c8.c d), .agg (d8.c m)] (fun x=>x= .tup [.agg (c8.c r.1),lD 9 r.2.1 d8.c,DI r.2.2]):=by
 refine zy d2P [] [] [118,119,121] Tryz.func61 rfl ?_;refine cy hm (a0S d) fun x1 hm=> ?_
 apply vb hm<;>intro _ hm;cases hm;exact d2S (c7j);refine cy hm (a9Z m) fun x4 hm=> ?_
 apply vb hm<;>intro _ hm;cases hm;exact d2S (c7j);apply vb hm<;>intro _ hm;cases hm;exact d2S (c7j);obtain⟨v12,he18,hm⟩:=d9 hm;refine a1T.ofZ pok ⟨[(0, .agg (c8.c d)),(1000002, .own 0 0),(1000003, .own 1 0),(1000004, .own 2 0)], [(0, .blk (c8.c d) 91),(1, .blk (d8.c m) 86),(2, .blk [DI 0,nS,nS,nS,DI 0,DI 0,DI 0,DI 0,DI 0,DI 0,DI 0,DI 0,DI 0,DI 0,DI 0,DI 0,DI 0,DI 0,DI 0,DI 0,DI 0,DI 0,DI 0,DI 0,DI 0,DI 0,DI 0,DI 0,DI 0,DI 0,DI 0,DI 0,DI 0,DI 0,DI 0,DI 0,DI 0,DI 0,DI 0,DI 0] 91)],3⟩ (⟨[(2, .own 0 0),(3, .own 1 0),(4, .own 2 0),(33, .own 4 0)], [(0, .blk (c8.c d) 91),(1, .blk (d8.c m) 86),(2, .blk [DI 0,nS,nS,nS,DI 0,DI 0,DI 0,DI 0,DI 0,DI 0,DI 0,DI 0,DI 0,DI 0,DI 0,DI 0,DI 0,DI 0,DI 0,DI 0,DI 0,DI 0,DI 0,DI 0,DI 0,DI 0,DI 0,DI 0,DI 0,DI 0,DI 0,DI 0,DI 0,DI 0,DI 0,DI 0,DI 0,DI 0,DI 0,DI 0] 91),(4, .blk (c8.c v12.Depot) 173)],5⟩:Sy) c5P [] [] [118,119,121] Tryz.func118 rfl rfl rfl (sb 3) (fun sv=> ?_) ?_;have hm:=he18;refine⟨rfl, ?_⟩;refine cy hm (b3W d.Box) fun x424 hm=> ?_
 refine cy hm (a0C d.Written) fun x426 hm=> ?_
 cases hm;exact sb 5;obtain⟨ev245,he,hk246⟩:=d9 hm;refine d2T (G6 m) (fun(v42,v43)=>⟨[(2, .own 0 0),(3, .own 1 0),(4, .own 2 0),(7, .own 4 0),(35,lD 8 m.Records b9.c),(36,DI (m.Records.length:Int)),(37,DI v42)], [(0, .blk (c8.c d) 91),(1, .blk (d8.c m) 86),(2, .blk [DI 0,nS,nS,nS,DI 0,DI 0,DI 0,DI 0,DI 0,DI 0,DI 0,DI 0,DI 0,DI 0,DI 0,DI 0,DI 0,DI 0,DI 0,DI 0,DI 0,DI 0,DI 0,DI 0,DI 0,DI 0,DI 0,DI 0,DI 0,DI 0,DI 0,DI 0,DI 0,DI 0,DI 0,DI 0,DI 0,DI 0,DI 0,DI 0] 91),(4, .blk (c8.c v43.Depot) 173)],5⟩) (0,v12) (sb 5) he ?_;rintro fu247 ⟨v42,v43⟩ b hm hi248;apply vb hm<;>intro _ hm;refine ei hm fun e250 hm=> ?_
 refine⟨rfl, ?_⟩;refine cy hm (a1j v43.Depot.Written) fun x252 hm=> ?_
 obtain⟨e254,hx255,hm⟩:=d9 hm;refine⟨a3k hx255,_,ldx (c:=cI) (z:=1) (pre:= []) (post:= []) (b:=0) (off:=0) (fun _=>rfl) hx255 rfl rfl (by omega) rfl, ?_⟩;apply vb hm<;>intro _ hm;cases hm;exact⟨(_,((W (v42+1)),v43)),sb 5,hi248,F6 _⟩;obtain⟨ev269,he270,hm⟩:=d9 hm;refine a1T.ofZ pok ⟨[(0, .own 4 0),(1, .agg (b9.c e250)),(1000002, .own 0 0),(1000003, .own 1 0),(1000004, .own 2 0),(1000007, .own 4 0),(1000009, .own 5 0),(1000035,lD 8 m.Records b9.c),(1000036,DI (m.Records.length:Int)),(1000037,DI v42),(1000039, .ptr (b9.c e250) 0),(1000040, .agg (b9.c e250)),(1000041, .own 4 0),(1000042, .own 4 0),(1000043, .own 4 0),(1000044, .own 4 3),(1000045,lD 8 v43.Depot.Written b9.c),(1000046, .agg [DI x252.1,DI x252.2.1,DI x252.2.2.1,DI x252.2.2.2.1,DI x252.2.2.2.2.1,DI x252.2.2.2.2.2]),(1000047, .own 5 0),(1000048, .own 5 0),(1000049,DI e250.At.Depot),(1000050,DI e254),(1000051, .own 5 0),(1000052, .own 5 1),(1000053,DI e250.At.No),(1000055, .own 4 0),(1000056, .agg (b9.c e250))], [(0, .blk (c8.c d) 91),(1, .blk (d8.c m) 86),(2, .blk [DI 0,nS,nS,nS,DI 0,DI 0,DI 0,DI 0,DI 0,DI 0,DI 0,DI 0,DI 0,DI 0,DI 0,DI 0,DI 0,DI 0,DI 0,DI 0,DI 0,DI 0,DI 0,DI 0,DI 0,DI 0,DI 0,DI 0,DI 0,DI 0,DI 0,DI 0,DI 0,DI 0,DI 0,DI 0,DI 0,DI 0,DI 0,DI 0] 91),(4, .blk (c8.c v43.Depot) 173),(5, .blk (b9.c e250) 38)],6⟩ (match ev269 with|(v262,x263)=>(⟨[(2, .own 0 0),(3, .own 1 0),(4, .own 2 0),(7, .own 4 0),(9, .own 5 0),(35,lD 8 m.Records b9.c),(36,DI (m.Records.length:Int)),(37,DI v42),(39, .ptr (b9.c e250) 0),(40, .agg (b9.c e250)),(41, .own 4 0),(42, .own 4 0),(43, .own 4 0),(44, .own 4 3),(45,lD 8 v43.Depot.Written b9.c),(46, .agg [DI x252.1,DI x252.2.1,DI x252.2.2.1,DI x252.2.2.2.1,DI x252.2.2.2.2.1,DI x252.2.2.2.2.2]),(47, .own 5 0),(48, .own 5 0),(49,DI e250.At.Depot),(50,DI e254),(51, .own 5 0),(52, .own 5 1),(53,DI e250.At.No),(55, .own 4 0),(56, .agg (b9.c e250)),(57,DI x263)], [(0, .blk (c8.c d) 91),(1, .blk (d8.c m) 86),(2, .blk [DI 0,nS,nS,nS,DI 0,DI 0,DI 0,DI 0,DI 0,DI 0,DI 0,DI 0,DI 0,DI 0,DI 0,DI 0,DI 0,DI 0,DI 0,DI 0,DI 0,DI 0,DI 0,DI 0,DI 0,DI 0,DI 0,DI 0,DI 0,DI 0,DI 0,DI 0,DI 0,DI 0,DI 0,DI 0,DI 0,DI 0,DI 0,DI 0] 91),(4, .blk (c8.c v262.Depot) 173),(5, .blk (b9.c e250) 38)],6⟩:Sy):Sy) c8z [] [] [118,119,121] Tryz.func119 rfl rfl rfl (sb 6) (fun sv=> ?_) ?_
 have hm:=he270;refine⟨rfl, ?_⟩;refine cy hm (a4W v43.Depot.Box v43.Depot.Written e250) ?_;rintro⟨x272,x273,x274⟩ hm;apply vb hm<;>intro _ hm;cases hm;exact sb 6;cases hm;exact sb 6;obtain⟨v262,x263⟩:=ev269;apply vb hm<;>intro _ hm;cases hm;cases hi248;have hm:=hk246;cases hm;exact d2S (c7j);cases hm;exact⟨(_,((W (v42+1)),v262)),sb 5,hi248,F6 _⟩;cases hm;cases hi248;have hm:=hk246;obtain⟨v279,he283,hm⟩:=d9 hm;refine a1T.ofZ pok ⟨[(0, .own 4 0),(1000002, .own 0 0),(1000003, .own 1 0),(1000004, .own 2 0),(1000007, .own 4 0)], [(0, .blk (c8.c d) 91),(1, .blk (d8.c m) 86),(2, .blk [DI 0,nS,nS,nS,DI 0,DI 0,DI 0,DI 0,DI 0,DI 0,DI 0,DI 0,DI 0,DI 0,DI 0,DI 0,DI 0,DI 0,DI 0,DI 0,DI 0,DI 0,DI 0,DI 0,DI 0,DI 0,DI 0,DI 0,DI 0,DI 0,DI 0,DI 0,DI 0,DI 0,DI 0,DI 0,DI 0,DI 0,DI 0,DI 0] 91),(4, .blk (c8.c v43.Depot) 173)],5⟩ (⟨[(2, .own 0 0),(3, .own 1 0),(4, .own 2 0),(7, .own 4 0),(64, .tup [])], [(0, .blk (c8.c d) 91),(1, .blk (d8.c m) 86),(2, .blk [DI 0,nS,nS,nS,DI 0,DI 0,DI 0,DI 0,DI 0,DI 0,DI 0,DI 0,DI 0,DI 0,DI 0,DI 0,DI 0,DI 0,DI 0,DI 0,DI 0,DI 0,DI 0,DI 0,DI 0,DI 0,DI 0,DI 0,DI 0,DI 0,DI 0,DI 0,DI 0,DI 0,DI 0,DI 0,DI 0,DI 0,DI 0,DI 0] 91),(4, .blk (c8.c v279.Depot) 173)],5⟩:Sy) [] [] [] [118,119,121] Tryz.func121 rfl rfl rfl (sb 5) (fun sv=> ?_) ?_;have hm:=he283;refine cy hm (a6q v43.Depot.Box) fun x422 hm=> ?_
 cases hm;exact sb 5;obtain⟨ev381,he,hk382⟩:=d9 hm;refine d2T (J9 m) (fun(more308,v309,v310)=>⟨[(2, .own 0 0),(3, .own 1 0),(4, .own 2 0),(7, .own 4 0),(11,DB more308),(66, .agg [DI m.Have.1,DI m.Have.2.1,DI m.Have.2.2.1,DI m.Have.2.2.2.1,DI m.Have.2.2.2.2.1,DI m.Have.2.2.2.2.2]),(67,DI v309)], [(0, .blk (c8.c d) 91),(1, .blk (d8.c m) 86),(2, .blk [DI 0,nS,nS,nS,DI 0,DI 0,DI 0,DI 0,DI 0,DI 0,DI 0,DI 0,DI 0,DI 0,DI 0,DI 0,DI 0,DI 0,DI 0,DI 0,DI 0,DI 0,DI 0,DI 0,DI 0,DI 0,DI 0,DI 0,DI 0,DI 0,DI 0,DI 0,DI 0,DI 0,DI 0,DI 0,DI 0,DI 0,DI 0,DI 0] 91),(4, .blk (c8.c v310.Depot) 173)],5⟩) (false,0,v279) (sb 5) he ?_;rintro fu383 ⟨more308,v309,v310⟩ b hm hi384;apply vb hm<;>intro _ hm;obtain⟨e386,hx387,hm⟩:=d9 hm;refine⟨a3k hx387,_,ldx (c:=cI) (z:=1) (pre:= []) (post:= []) (b:=0) (off:=0) (fun _=>rfl) hx387 rfl rfl (by omega) rfl, ?_⟩;refine⟨rfl, ?_⟩;obtain⟨hg,hm⟩:=j4 hm;refine⟨hg, ?_⟩;obtain⟨hg,hm⟩:=j4 hm;refine⟨hg, ?_⟩;obtain⟨e388,hx389,hm⟩:=d9 hm;obtain⟨e390,hx391,hm⟩:=d9 hm;refine⟨_,ldx (r:= [DI e390]) (c:=cf1) (z:=6) (pre:= [DI v310.Depot.Me,lD 5 v310.Depot.Box.Thread e8.c,lD 5 v310.Depot.Box.Loose e8.c,lD 8 v310.Depot.Written b9.c]) (post:= []) (b:=4) (off:=(v309).toNat*1) (fun _=>rfl) hx389 rfl rfl (by omega) (ldx (r:= [DI e390]) (c:=cI) (z:=1) (pre:= []) (post:= []) (b:=0) (off:=0) (fun _=>rfl) hx391 rfl rfl (by omega) rfl), ?_⟩;obtain⟨hg,hm⟩:=j4 hm;refine⟨hg, ?_⟩;obtain⟨hg,hm⟩:=j4 hm;refine⟨hg, ?_⟩;obtain⟨e392,hx393,hm⟩:=d9 hm;obtain⟨e394,hx395,hm⟩:=d9 hm;obtain⟨y396,hv,hm⟩:=d9 hm;obtain⟨q398,hp0,hm⟩:=d9 hm;obtain⟨q399,hp1,hm⟩:=d9 hm;obtain⟨q400,hp2,hm⟩:=d9 hm;obtain⟨q401,hp3,hm⟩:=d9 hm;obtain⟨q402,hp4,hm⟩:=d9 hm;obtain⟨q403,hp5,hm⟩:=d9 hm;obtain⟨y397,hy,hm⟩:=d9 hm;obtain⟨q404,hq0,hm⟩:=d9 hm;obtain⟨q405,hq1,hm⟩:=d9 hm;obtain⟨q406,hq2,hm⟩:=d9 hm;obtain⟨q407,hq3,hm⟩:=d9 hm;obtain⟨q408,hq4,hm⟩:=d9 hm;obtain⟨q409,hq5,hm⟩:=d9 hm;refine⟨[DI v310.Depot.Me,lD 5 v310.Depot.Box.Thread e8.c,lD 5 v310.Depot.Box.Loose e8.c,lD 8 v310.Depot.Written b9.c,DI q404.1,DI q404.2.1,DI q404.2.2.1,DI q404.2.2.2.1,DI q404.2.2.2.2.1,DI q404.2.2.2.2.2,DI q405.1,DI q405.2.1,DI q405.2.2.1,DI q405.2.2.2.1,DI q405.2.2.2.2.1,DI q405.2.2.2.2.2,DI q406.1,DI q406.2.1,DI q406.2.2.1,DI q406.2.2.2.1,DI q406.2.2.2.2.1,DI q406.2.2.2.2.2,DI q407.1,DI q407.2.1,DI q407.2.2.1,DI q407.2.2.2.1,DI q407.2.2.2.2.1,DI q407.2.2.2.2.2,DI q408.1,DI q408.2.1,DI q408.2.2.1,DI q408.2.2.2.1,DI q408.2.2.2.2.1,DI q408.2.2.2.2.2,DI q409.1,DI q409.2.1,DI q409.2.2.1,DI q409.2.2.2.1,DI q409.2.2.2.2.1,DI q409.2.2.2.2.2],stx (y:=y397) (ys:= [q404,q405,q406,q407,q408,q409]) (c:=cf1) (z:=6) (pre:= [DI v310.Depot.Me,lD 5 v310.Depot.Box.Thread e8.c,lD 5 v310.Depot.Box.Loose e8.c,lD 8 v310.Depot.Written b9.c]) (post:= []) (b:=4) (off:=(v309).toNat*1) (fun _=>rfl) hx393 rfl rfl (by omega) (stx (y:=y396) (ys:= [q398,q399,q400,q401,q402,q403]) (c:=cI) (z:=1) (pre:= []) (post:= []) (b:=0) (off:=0) (fun _=>rfl) hx395 rfl rfl (by omega) (by cases hv;rfl) (by cases hy;rfl) (by cases hp0;cases hp1;cases hp2;cases hp3;cases hp4;cases hp5;exact S7 hx395)) rfl (by cases hq0;cases hq1;cases hq2;cases hq3;cases hq4;cases hq5;exact S7 hx393), ?_⟩;clear hv hy hp0 hp1 hp2 hp3 hp4 hp5 hq0 hq1 hq2 hq3 hq4 hq5;apply vb hm<;>intro _ hm;cases hm;exact⟨(_,(true,(W (v309+1)),(⟨(⟨v310.Depot.Me,v310.Depot.Box,v310.Depot.Written,(q404,q405,q406,q407,q408,q409)⟩:c8)⟩:A3))),sb 5,hi384,F6 _⟩;refine cy hm (a1j v310.Depot.Written) fun x411 hm=> ?_
 obtain⟨e413,hx414,hm⟩:=d9 hm;refine⟨a3k hx414,_,ldx (c:=cI) (z:=1) (pre:= []) (post:= []) (b:=0) (off:=0) (fun _=>rfl) hx414 rfl rfl (by omega) rfl, ?_⟩;cases hm;exact⟨(_,((decide (e386>e413)),(W (v309+1)),(⟨(⟨v310.Depot.Me,v310.Depot.Box,v310.Depot.Written,(q404,q405,q406,q407,q408,q409)⟩:c8)⟩:A3))),sb 5,hi384,F6 _⟩;cases hm;cases hi384;have hm:=hk382;refine co hm (a1J v310 m.From) fun x415 hm=> ?_
 refine cy hm (a6X v310 m.Have) fun x417 hm=> ?_
 refine⟨rfl, ?_⟩;apply vb hm<;>intro _ hm;apply vb hm<;>intro _ hm;apply vb hm<;>intro _ hm;cases hm;exact d2S (d2B);refine⟨rfl, ?_⟩;refine⟨?_, ?_⟩;refine⟨([(⟨x415.From,x415.To,x415.Have,x417⟩:d8)]:List d8).flatMap d8.c,([(⟨x415.From,x415.To,x415.Have,x417⟩:d8)]:List d8).length,⟨rfl,rfl⟩, ?_⟩;cases hm;exact d2S (d2Q _);refine⟨([(⟨x415.From,x415.To,x415.Have,x417⟩:d8)]:List d8).flatMap d8.c,([(⟨x415.From,x415.To,x415.Have,x417⟩:d8)]:List d8).length,⟨rfl,rfl⟩, ?_⟩;cases hm;exact d2S (d2Q _);refine⟨rfl, ?_⟩;refine⟨?_, ?_⟩;refine⟨([(⟨x415.From,x415.To,x415.Have,x417⟩:d8)]:List d8).flatMap d8.c,([(⟨x415.From,x415.To,x415.Have,x417⟩:d8)]:List d8).length,⟨rfl,rfl⟩, ?_⟩;cases hm;exact d2S (d2Q _);refine⟨([(⟨x415.From,x415.To,x415.Have,x417⟩:d8)]:List d8).flatMap d8.c,([(⟨x415.From,x415.To,x415.Have,x417⟩:d8)]:List d8).length,⟨rfl,rfl⟩, ?_⟩;cases hm;exact d2S (d2Q _);refine⟨rfl, ?_⟩;refine⟨?_, ?_⟩;refine⟨([(⟨x415.From,x415.To,x415.Have,x417⟩:d8)]:List d8).flatMap d8.c,([(⟨x415.From,x415.To,x415.Have,x417⟩:d8)]:List d8).length,⟨rfl,rfl⟩, ?_⟩;cases hm;exact d2S (d2Q _);refine⟨([(⟨x415.From,x415.To,x415.Have,x417⟩:d8)]:List d8).flatMap d8.c,([(⟨x415.From,x415.To,x415.Have,x417⟩:d8)]:List d8).length,⟨rfl,rfl⟩, ?_⟩;cases hm;exact d2S (d2Q _)
def a0T (d:c8) (picks:(List Int)):Option (c8×Int):=
 Option.bind (M2 d) fun x1=>
 if(!x1)=true then
  some ((⟨0,(⟨[], []⟩:o4), [],((0,0,0,0,0,0),(0,0,0,0,0,0),(0,0,0,0,0,0),(0,0,0,0,0,0),(0,0,0,0,0,0),(0,0,0,0,0,0))⟩:c8),85)
 else
  Option.bind (D3 d.Box picks) fun x4=>
  Option.bind (D0 x4) fun⟨x6,x7⟩=>
  some ((⟨d.Me,x6,x7,((0,0,0,0,0,0),(0,0,0,0,0,0),(0,0,0,0,0,0),(0,0,0,0,0,0),(0,0,0,0,0,0),(0,0,0,0,0,0))⟩:c8),0)
theorem b2t (d:c8) (picks:(List Int)) (r:(c8×Int)) (hm:a0T d picks=some r):s9 Tryz.prog 63 [.agg (c8.c d),lD 1 picks cI] (fun x=>x= .tup [.agg (c8.c r.1),DI r.2]):=by
 refine zn Tryz.func63 rfl ?_;refine cy hm (a0S d) fun x1 hm=> ?_
 apply vb hm<;>intro _ hm;cases hm;exact d2S (le6);refine cy hm (a0o d.Box picks) fun x4 hm=> ?_
 refine cy hm (a0n x4) ?_;rintro⟨x6,x7⟩ hm;cases hm;exact d2S (d2Q _)
def Y2:(Int×(c8×c8×c8))→Option (Sum (Int×(c8×c8×c8)) (Sum (Int×(c8×c8×c8)) ((c8×c8×c8)×Bool))):=fun(i11,v12)=>
 if(decide (i11<3))=true then
  Option.bind (a5v i11) fun⟨x25,x26⟩=>
  if(x26 !=0)=true then
   some (.inr (.inr (v12,false)))
  else
   gd (0≤i11∧i11<3)<|
   Option.bind (idx [v12.1,v12.2.1,v12.2.2] i11) fun e29=>
   Option.bind (some x25) fun y31=>
   Option.bind (some (if(i11==0)=true then y31 else v12.1)) fun q32=>
   Option.bind (some (if(i11==1)=true then y31 else v12.2.1)) fun q33=>
   Option.bind (some (if(i11==2)=true then y31 else v12.2.2)) fun q34=>
   some (.inl ((W (i11+1)),(q32,q33,q34)))
 else
  some (.inr (.inl (i11,v12)))
def L8 (l:(List a1c)):((List d8)×Int×(c8×c8×c8)×(List d8))→Option (Sum ((List d8)×Int×(c8×c8×c8)×(List d8)) (Sum ((List d8)×Int×(c8×c8×c8)×(List d8)) ((c8×c8×c8)×Bool))):=fun(messages107,i108,v109,messages110)=>
 if(decide (i108<(l.length:Int)))=true then
  if(decide (i108<14))=true then
   Option.bind (idx l i108) fun e242=>
   Option.bind (J8 e242.Depot 3) fun x244=>
   Option.bind (J8 e242.Kind 8) fun x246=>
   if(x246==3)=true then
    gd (0≤x244∧x244<3)<|
    Option.bind (idx [v109.1,v109.2.1,v109.2.2] x244) fun e249=>
    Option.bind (J8 e242.To 2) fun x251=>
    Option.bind (a0p e249 ((W ((W (x244+1))+x251)).tmod 3)) fun⟨x253,x254,x255⟩=>
    if(x255 !=0)=true then
     some (.inr (.inr (v109,false)))
    else
     gd (0≤x244∧x244<3)<|
     Option.bind (idx [v109.1,v109.2.1,v109.2.2] x244) fun e258=>
     Option.bind (some x253) fun y260=>
     Option.bind (some (if(x244==0)=true then y260 else v109.1)) fun q261=>
     Option.bind (some (if(x244==1)=true then y260 else v109.2.1)) fun q262=>
     Option.bind (some (if(x244==2)=true then y260 else v109.2.2)) fun q263=>
     gd ((messages110.length+([x254]:List d8).length)*88≤140737488355328∧messages110.length+([x254]:List d8).length≤9223372036854775807)<|
     some (.inl (messages107,(W (i108+1)),(q261,q262,q263),(messages110++([x254]:List d8))))
   else
    if(x246==4)=true then
     gd (0≤x244∧x244<3)<|
     Option.bind (idx [v109.1,v109.2.1,v109.2.2] x244) fun e265=>
     Option.bind (J8 e242.To 2) fun x267=>
     Option.bind (a0p e265 ((W ((W (x244+1))+x267)).tmod 3)) fun⟨x269,x270,x271⟩=>
     if(x271 !=0)=true then
      some (.inr (.inr (v109,false)))
     else
      gd (0≤x244∧x244<3)<|
      Option.bind (idx [v109.1,v109.2.1,v109.2.2] x244) fun e274=>
      Option.bind (some x269) fun y276=>
      Option.bind (some (if(x244==0)=true then y276 else v109.1)) fun q277=>
      Option.bind (some (if(x244==1)=true then y276 else v109.2.1)) fun q278=>
      Option.bind (some (if(x244==2)=true then y276 else v109.2.2)) fun q279=>
      gd ((messages110.length+([x270]:List d8).length)*88≤140737488355328∧messages110.length+([x270]:List d8).length≤9223372036854775807)<|
      some (.inl (messages107,(W (i108+1)),(q277,q278,q279),(messages110++([x270]:List d8))))
    else
     if(x246==5)=true then
      if((messages110.length:Int)==0)=true then
       some (.inl (messages107,(W (i108+1)),v109,messages110))
      else
       Option.bind (J8 e242.To (messages110.length:Int)) fun x282=>
       Option.bind (idx messages110 x282) fun e284=>
       Option.bind (idx messages110 x282) fun e286=>
       if(decide (e286.To<0))=true then
        some (.inr (.inr (v109,false)))
       else
        if(decide (e286.To>2))=true then
         some (.inr (.inr (v109,false)))
        else
         gd (0≤e286.To∧e286.To<3)<|
         Option.bind (idx [v109.1,v109.2.1,v109.2.2] e286.To) fun e290=>
         Option.bind (L9 e290 e286) fun⟨x292,x293,x294⟩=>
         if(x294 !=0)=true then
          some (.inr (.inr (v109,false)))
         else
          if(decide ((x293.length:Int)>1))=true then
           some (.inr (.inr (v109,false)))
          else
           gd (0≤e286.To∧e286.To<3)<|
           Option.bind (idx [v109.1,v109.2.1,v109.2.2] e286.To) fun e298=>
           Option.bind (some x292) fun y300=>
           Option.bind (some (if(e286.To==0)=true then y300 else v109.1)) fun q301=>
           Option.bind (some (if(e286.To==1)=true then y300 else v109.2.1)) fun q302=>
           Option.bind (some (if(e286.To==2)=true then y300 else v109.2.2)) fun q303=>
           if((e242.Depot.tmod 2)==0)=true then
            gd ((0<messages110.length)∧(0≤x282∧x282≤(messages110.length:Int)))<|
            Option.bind (some (sub messages110 0 (x282).toNat)) fun sl305=>
            gd ((0<messages110.length)∧(0≤(W (x282+1))∧(W (x282+1))≤(messages110.length:Int)))<|
            Option.bind (some (sub messages110 ((W (x282+1))).toNat messages110.length)) fun sl307=>
            gd ((([]:List d8).length+((x282).toNat-0))*88≤140737488355328∧([]:List d8).length+((x282).toNat-0)≤9223372036854775807)<|
            gd ((sl305.length+(messages110.length-((W (x282+1))).toNat))*88≤140737488355328∧sl305.length+(messages110.length-((W (x282+1))).toNat)≤9223372036854775807)<|
            gd (((sl305++sl307).length+x293.length)*88≤140737488355328∧(sl305++sl307).length+x293.length≤9223372036854775807)<|
            some (.inl (messages107,(W (i108+1)),(q301,q302,q303),((sl305++sl307)++x293)))
           else
            gd ((messages110.length+x293.length)*88≤140737488355328∧messages110.length+x293.length≤9223372036854775807)<|
            some (.inl (messages107,(W (i108+1)),(q301,q302,q303),(messages110++x293)))
     else
      if(x246==6)=true then
       if((messages110.length:Int)==0)=true then
        some (.inl (messages107,(W (i108+1)),v109,messages110))
       else
        Option.bind (J8 e242.To (messages110.length:Int)) fun x312=>
        Option.bind (idx messages110 x312) fun e314=>
        Option.bind (idx messages110 x312) fun e316=>
        if(decide (e316.To<0))=true then
         some (.inr (.inr (v109,false)))
        else
         if(decide (e316.To>2))=true then
          some (.inr (.inr (v109,false)))
         else
          gd (0≤e316.To∧e316.To<3)<|
          Option.bind (idx [v109.1,v109.2.1,v109.2.2] e316.To) fun e320=>
          Option.bind (L9 e320 e316) fun⟨x322,x323,x324⟩=>
          if(x324 !=0)=true then
           some (.inr (.inr (v109,false)))
          else
           if(decide ((x323.length:Int)>1))=true then
            some (.inr (.inr (v109,false)))
           else
            gd (0≤e316.To∧e316.To<3)<|
            Option.bind (idx [v109.1,v109.2.1,v109.2.2] e316.To) fun e328=>
            Option.bind (some x322) fun y330=>
            Option.bind (some (if(e316.To==0)=true then y330 else v109.1)) fun q331=>
            Option.bind (some (if(e316.To==1)=true then y330 else v109.2.1)) fun q332=>
            Option.bind (some (if(e316.To==2)=true then y330 else v109.2.2)) fun q333=>
            if((e242.Depot.tmod 2)==0)=true then
             gd ((0<messages110.length)∧(0≤x312∧x312≤(messages110.length:Int)))<|
             Option.bind (some (sub messages110 0 (x312).toNat)) fun sl335=>
             gd ((0<messages110.length)∧(0≤(W (x312+1))∧(W (x312+1))≤(messages110.length:Int)))<|
             Option.bind (some (sub messages110 ((W (x312+1))).toNat messages110.length)) fun sl337=>
             gd ((([]:List d8).length+((x312).toNat-0))*88≤140737488355328∧([]:List d8).length+((x312).toNat-0)≤9223372036854775807)<|
             gd ((sl335.length+(messages110.length-((W (x312+1))).toNat))*88≤140737488355328∧sl335.length+(messages110.length-((W (x312+1))).toNat)≤9223372036854775807)<|
             gd (((sl335++sl337).length+x323.length)*88≤140737488355328∧(sl335++sl337).length+x323.length≤9223372036854775807)<|
             some (.inl (messages107,(W (i108+1)),(q331,q332,q333),((sl335++sl337)++x323)))
            else
             gd ((messages110.length+x323.length)*88≤140737488355328∧messages110.length+x323.length≤9223372036854775807)<|
             some (.inl (messages107,(W (i108+1)),(q331,q332,q333),(messages110++x323)))
      else
       if(x246==7)=true then
        gd (0≤x244∧x244<3)<|
        Option.bind (idx [v109.1,v109.2.1,v109.2.2] x244) fun e341=>
        Option.bind (a0T e341 e242.Picks) fun⟨x343,x344⟩=>
        if(x344 !=0)=true then
         some (.inr (.inr (v109,false)))
        else
         gd (0≤x244∧x244<3)<|
         Option.bind (idx [v109.1,v109.2.1,v109.2.2] x244) fun e347=>
         Option.bind (some x343) fun y349=>
         Option.bind (some (if(x244==0)=true then y349 else v109.1)) fun q350=>
         Option.bind (some (if(x244==1)=true then y349 else v109.2.1)) fun q351=>
         Option.bind (some (if(x244==2)=true then y349 else v109.2.2)) fun q352=>
         some (.inl (messages107,(W (i108+1)),(q350,q351,q352),messages110))
       else
        gd (0≤x244∧x244<3)<|
        Option.bind (idx [v109.1,v109.2.1,v109.2.2] x244) fun e353=>
        Option.bind (a4S e242.Record) fun x355=>
        Option.bind (a3z e353 x355) fun⟨x357,x358,x359⟩=>
        if(x359 !=0)=true then
         some (.inr (.inr (v109,false)))
        else
         if(x358.At.Depot !=x244)=true then
          some (.inr (.inr (v109,false)))
         else
          gd (0≤x244∧x244<3)<|
          Option.bind (idx [v109.1,v109.2.1,v109.2.2] x244) fun e363=>
          Option.bind (some x357) fun y365=>
          Option.bind (some (if(x244==0)=true then y365 else v109.1)) fun q366=>
          Option.bind (some (if(x244==1)=true then y365 else v109.2.1)) fun q367=>
          Option.bind (some (if(x244==2)=true then y365 else v109.2.2)) fun q368=>
          some (.inl (messages107,(W (i108+1)),(q366,q367,q368),messages110))
  else
   some (.inr (.inl (messages107,i108,v109,messages110)))
 else
  some (.inr (.inl (messages107,i108,v109,messages110)))
def a3y (l:(List a1c)):Option ((c8×c8×c8)×Bool):=
 Option.bind (r6 Y2 (0,((⟨0,(⟨[], []⟩:o4), [],((0,0,0,0,0,0),(0,0,0,0,0,0),(0,0,0,0,0,0),(0,0,0,0,0,0),(0,0,0,0,0,0),(0,0,0,0,0,0))⟩:c8),(⟨0,(⟨[], []⟩:o4), [],((0,0,0,0,0,0),(0,0,0,0,0,0),(0,0,0,0,0,0),(0,0,0,0,0,0),(0,0,0,0,0,0),(0,0,0,0,0,0))⟩:c8),(⟨0,(⟨[], []⟩:o4), [],((0,0,0,0,0,0),(0,0,0,0,0,0),(0,0,0,0,0,0),(0,0,0,0,0,0),(0,0,0,0,0,0),(0,0,0,0,0,0))⟩:c8)))) fun e=>
 match e with
 | .inl (i35,v36)=>
  Option.bind (r6 (L8 l) ([],0,v36, [])) fun e=>
  match e with
  | .inl (messages369,i370,v371,messages372)=>
   some (v371,true)
  | .inr rr373=>
   some rr373
 | .inr rr507=>
  some rr507
theorem b7k (l:(List a1c)) (r:((c8×c8×c8)×Bool)) (hm:a3y l=some r):s9 Tryz.prog 68 [lD 9 l a1c.c] (fun x=>x= .tup [.agg (c8.c r.1.1++(c8.c r.1.2.1++c8.c r.1.2.2)),DB r.2]):=by
 refine zy d2p [] [] [] Tryz.func68 rfl ?_;obtain⟨ev508,he,hk509⟩:=d9 hm;refine d2T Y2 (fun(i11,v12)=>⟨[(0,lD 9 l a1c.c),(2, .own 0 0),(4, .own 1 0),(5,DI i11)], [(0, .blk [DI 0,nS,nS,nS,DI 0,DI 0,DI 0,DI 0,DI 0,DI 0,DI 0,DI 0,DI 0,DI 0,DI 0,DI 0,DI 0,DI 0,DI 0,DI 0,DI 0,DI 0,DI 0,DI 0,DI 0,DI 0,DI 0,DI 0,DI 0,DI 0,DI 0,DI 0,DI 0,DI 0,DI 0,DI 0,DI 0,DI 0,DI 0,DI 0,DI 0,nS,nS,nS,DI 0,DI 0,DI 0,DI 0,DI 0,DI 0,DI 0,DI 0,DI 0,DI 0,DI 0,DI 0,DI 0,DI 0,DI 0,DI 0,DI 0,DI 0,DI 0,DI 0,DI 0,DI 0,DI 0,DI 0,DI 0,DI 0,DI 0,DI 0,DI 0,DI 0,DI 0,DI 0,DI 0,DI 0,DI 0,DI 0,DI 0,nS,nS,nS,DI 0,DI 0,DI 0,DI 0,DI 0,DI 0,DI 0,DI 0,DI 0,DI 0,DI 0,DI 0,DI 0,DI 0,DI 0,DI 0,DI 0,DI 0,DI 0,DI 0,DI 0,DI 0,DI 0,DI 0,DI 0,DI 0,DI 0,DI 0,DI 0,DI 0,DI 0,DI 0,DI 0,DI 0,DI 0,DI 0] 92),(1, .blk (c8.c v12.1++(c8.c v12.2.1++c8.c v12.2.2)) 92)],2⟩) (0,((⟨0,(⟨[], []⟩:o4), [],((0,0,0,0,0,0),(0,0,0,0,0,0),(0,0,0,0,0,0),(0,0,0,0,0,0),(0,0,0,0,0,0),(0,0,0,0,0,0))⟩:c8),(⟨0,(⟨[], []⟩:o4), [],((0,0,0,0,0,0),(0,0,0,0,0,0),(0,0,0,0,0,0),(0,0,0,0,0,0),(0,0,0,0,0,0),(0,0,0,0,0,0))⟩:c8),(⟨0,(⟨[], []⟩:o4), [],((0,0,0,0,0,0),(0,0,0,0,0,0),(0,0,0,0,0,0),(0,0,0,0,0,0),(0,0,0,0,0,0),(0,0,0,0,0,0))⟩:c8))) (I5.of 2 rfl (tA rfl) ⟨hR rfl,⟨_,rfl,⟨d2Q _,d2R,d2R,d2R,d2Q _,d2Q _,d2Q _,d2Q _,d2Q _,d2Q _,d2Q _,d2Q _,d2Q _,d2Q _,d2Q _,d2Q _,d2Q _,d2Q _,d2Q _,d2Q _,d2Q _,d2Q _,d2Q _,d2Q _,d2Q _,d2Q _,d2Q _,d2Q _,d2Q _,d2Q _,d2Q _,d2Q _,d2Q _,d2Q _,d2Q _,d2Q _,d2Q _,d2Q _,d2Q _,d2Q _,d2Q _,d2R,d2R,d2R,d2Q _,d2Q _,d2Q _,d2Q _,d2Q _,d2Q _,d2Q _,d2Q _,d2Q _,d2Q _,d2Q _,d2Q _,d2Q _,d2Q _,d2Q _,d2Q _,d2Q _,d2Q _,d2Q _,d2Q _,d2Q _,d2Q _,d2Q _,d2Q _,d2Q _,d2Q _,d2Q _,d2Q _,d2Q _,d2Q _,d2Q _,d2Q _,d2Q _,d2Q _,d2Q _,d2Q _,d2Q _,d2R,d2R,d2R,d2Q _,d2Q _,d2Q _,d2Q _,d2Q _,d2Q _,d2Q _,d2Q _,d2Q _,d2Q _,d2Q _,d2Q _,d2Q _,d2Q _,d2Q _,d2Q _,d2Q _,d2Q _,d2Q _,d2Q _,d2Q _,d2Q _,d2Q _,d2Q _,d2Q _,d2Q _,d2Q _,d2Q _,d2Q _,d2Q _,d2Q _,d2Q _,d2Q _,d2Q _,d2Q _,d2Q _,trivial⟩⟩,trivial⟩) he ?_;rintro fu510 ⟨i11,v12⟩ b hm hi511;apply vb hm<;>intro _ hm;refine cy hm (b1x i11) ?_;rintro⟨x513,x514⟩ hm;apply vb hm<;>intro _ hm;cases hm;cases hi511;have hm:=hk509;cases hm;exact d2S (d2Q _);obtain⟨hg,hm⟩:=j4 hm;refine⟨hg, ?_⟩;obtain⟨e517,hx518,hm⟩:=d9 hm;obtain⟨y519,hy,hm⟩:=d9 hm;obtain⟨q520,hq0,hm⟩:=d9 hm;obtain⟨q521,hq1,hm⟩:=d9 hm;obtain⟨q522,hq2,hm⟩:=d9 hm;refine⟨(c8.c q520++(c8.c q521++c8.c q522)),stx (y:=y519) (ys:= [q520,q521,q522]) (c:=c8.c) (z:=40) (pre:= []) (post:= []) (b:=0) (off:=0) (fun _=>rfl) hx518 rfl rfl (by omega) (by cases hy;rfl) rfl (by cases hq0;cases hq1;cases hq2;exact S7 hx518), ?_⟩;clear hy hq0 hq1 hq2;cases hm;exact⟨(_,((W (i11+1)),(q520,q521,q522))),sb 2,hi511,F6 _⟩;cases hm;cases hi511;have hm:=hk509;obtain⟨ev860,he,hk861⟩:=d9 hm;refine d2T (L8 l) (fun(messages593,i594,v595,messages596)=>⟨[(0,lD 9 l a1c.c),(2, .own 0 0),(4, .own 1 0),(8, .row 3 9),(9,DI i594)], [(0, .blk [DI 0,nS,nS,nS,DI 0,DI 0,DI 0,DI 0,DI 0,DI 0,DI 0,DI 0,DI 0,DI 0,DI 0,DI 0,DI 0,DI 0,DI 0,DI 0,DI 0,DI 0,DI 0,DI 0,DI 0,DI 0,DI 0,DI 0,DI 0,DI 0,DI 0,DI 0,DI 0,DI 0,DI 0,DI 0,DI 0,DI 0,DI 0,DI 0,DI 0,nS,nS,nS,DI 0,DI 0,DI 0,DI 0,DI 0,DI 0,DI 0,DI 0,DI 0,DI 0,DI 0,DI 0,DI 0,DI 0,DI 0,DI 0,DI 0,DI 0,DI 0,DI 0,DI 0,DI 0,DI 0,DI 0,DI 0,DI 0,DI 0,DI 0,DI 0,DI 0,DI 0,DI 0,DI 0,DI 0,DI 0,DI 0,DI 0,nS,nS,nS,DI 0,DI 0,DI 0,DI 0,DI 0,DI 0,DI 0,DI 0,DI 0,DI 0,DI 0,DI 0,DI 0,DI 0,DI 0,DI 0,DI 0,DI 0,DI 0,DI 0,DI 0,DI 0,DI 0,DI 0,DI 0,DI 0,DI 0,DI 0,DI 0,DI 0,DI 0,DI 0,DI 0,DI 0,DI 0,DI 0] 92),(1, .blk (c8.c v595.1++(c8.c v595.2.1++c8.c v595.2.2)) 92),(2,rE 9 messages593 d8.c 86),(3,rE 9 messages596 d8.c 86)],4⟩) ([],0,v12, []) (sb 2) he ?_;rintro fu862 ⟨messages593,i594,v595,messages596⟩ b hm hi863;apply vb hm<;>intro _ hm;apply vb hm<;>intro _ hm;refine ei hm fun e866 hm=> ?_
 refine cy hm (Q2 e866.Depot 3) fun x868 hm=> ?_
 refine cy hm (Q2 e866.Kind 8) fun x870 hm=> ?_
 apply vb hm<;>intro h872 hm;refine VIf.t h872 ?_;refine⟨rfl, ?_⟩;obtain⟨hg,hm⟩:=j4 hm;refine⟨hg, ?_⟩;obtain⟨e873,hx874,hm⟩:=d9 hm;refine⟨_,ldx (r:=(c8.c e873)) (c:=c8.c) (z:=40) (pre:= []) (post:= []) (b:=0) (off:=0) (fun _=>rfl) hx874 rfl rfl (by omega) rfl, ?_⟩;refine cy hm (Q2 e866.To 2) fun x875 hm=> ?_
 refine⟨by decide, ?_⟩;refine cy hm (a6C e873 ((W ((W (x868+1))+x875)).tmod 3)) ?_;rintro⟨x877,x878,x879⟩ hm;apply vb hm<;>intro _ hm;cases hm;cases hi863;have hm:=hk861;cases hm;exact d2S (d2Q _);obtain⟨hg,hm⟩:=j4 hm;refine⟨hg, ?_⟩;obtain⟨e882,hx883,hm⟩:=d9 hm;obtain⟨y884,hy,hm⟩:=d9 hm;obtain⟨q885,hq0,hm⟩:=d9 hm;obtain⟨q886,hq1,hm⟩:=d9 hm;obtain⟨q887,hq2,hm⟩:=d9 hm;refine⟨(c8.c q885++(c8.c q886++c8.c q887)),stx (y:=y884) (ys:= [q885,q886,q887]) (c:=c8.c) (z:=40) (pre:= []) (post:= []) (b:=0) (off:=0) (fun _=>rfl) hx883 rfl rfl (by omega) (by cases hy;rfl) rfl (by cases hq0;cases hq1;cases hq2;exact S7 hx883), ?_⟩;clear hy hq0 hq1 hq2;refine⟨([x878]:List d8).flatMap d8.c,([x878]:List d8).length,⟨rfl,rfl⟩, ?_⟩;obtain⟨hg,hm⟩:=j4 hm;refine⟨hg,_,_,u0 (c:=d8.c) (l:=(messages596:List d8)) (r:=(([x878]:List d8):List d8)), ?_⟩;cases hm;exact⟨(_,(messages593,(W (i594+1)),(q885,q886,q887),(messages596++([x878]:List d8)))),sb 4,hi863,F6 _⟩;apply vb hm<;>intro _ hm;refine⟨rfl, ?_⟩;obtain⟨hg,hm⟩:=j4 hm;refine⟨hg, ?_⟩;obtain⟨e889,hx890,hm⟩:=d9 hm;refine⟨_,ldx (r:=(c8.c e889)) (c:=c8.c) (z:=40) (pre:= []) (post:= []) (b:=0) (off:=0) (fun _=>rfl) hx890 rfl rfl (by omega) rfl, ?_⟩;refine cy hm (Q2 e866.To 2) fun x891 hm=> ?_
 refine⟨by decide, ?_⟩;refine cy hm (a6C e889 ((W ((W (x868+1))+x891)).tmod 3)) ?_;rintro⟨x893,x894,x895⟩ hm;apply vb hm<;>intro _ hm;cases hm;cases hi863;have hm:=hk861;cases hm;exact d2S (d2Q _);obtain⟨hg,hm⟩:=j4 hm;refine⟨hg, ?_⟩;obtain⟨e898,hx899,hm⟩:=d9 hm;obtain⟨y900,hy,hm⟩:=d9 hm;obtain⟨q901,hq0,hm⟩:=d9 hm;obtain⟨q902,hq1,hm⟩:=d9 hm;obtain⟨q903,hq2,hm⟩:=d9 hm;refine⟨(c8.c q901++(c8.c q902++c8.c q903)),stx (y:=y900) (ys:= [q901,q902,q903]) (c:=c8.c) (z:=40) (pre:= []) (post:= []) (b:=0) (off:=0) (fun _=>rfl) hx899 rfl rfl (by omega) (by cases hy;rfl) rfl (by cases hq0;cases hq1;cases hq2;exact S7 hx899), ?_⟩;clear hy hq0 hq1 hq2;refine⟨([x894]:List d8).flatMap d8.c,([x894]:List d8).length,⟨rfl,rfl⟩, ?_⟩;obtain⟨hg,hm⟩:=j4 hm;refine⟨hg,_,_,u0 (c:=d8.c) (l:=(messages596:List d8)) (r:=(([x894]:List d8):List d8)), ?_⟩;cases hm;exact⟨(_,(messages593,(W (i594+1)),(q901,q902,q903),(messages596++([x894]:List d8)))),sb 4,hi863,F6 _⟩;apply vb hm<;>intro h904 hm;refine VIf.t h904 ?_;apply vb hm<;>intro _ hm;cases hm;exact⟨(_,(messages593,(W (i594+1)),v595,messages596)),sb 4,hi863,F6 _⟩;refine cy hm (Q2 e866.To ((messages596.length:Int))) fun x906 hm=> ?_
 refine eb hm fun _ hm=> ?_
 refine er hm fun e910 hm=> ?_
 apply vb hm<;>intro _ hm;cases hm;cases hi863;have hm:=hk861;cases hm;exact d2S (d2Q _);apply vb hm<;>intro _ hm;cases hm;cases hi863;have hm:=hk861;cases hm;exact d2S (d2Q _);refine⟨rfl, ?_⟩;obtain⟨hg,hm⟩:=j4 hm;refine⟨hg, ?_⟩;obtain⟨e914,hx915,hm⟩:=d9 hm;refine⟨_,ldx (r:=(c8.c e914)) (c:=c8.c) (z:=40) (pre:= []) (post:= []) (b:=0) (off:=0) (fun _=>rfl) hx915 rfl rfl (by omega) rfl, ?_⟩;refine cy hm (a0R e914 e910) ?_;rintro⟨x916,x917,x918⟩ hm;apply vb hm<;>intro _ hm;cases hm;cases hi863;have hm:=hk861;cases hm;exact d2S (d2Q _);apply vb hm<;>intro _ hm;cases hm;cases hi863;have hm:=hk861;cases hm;exact d2S (d2Q _);obtain⟨hg,hm⟩:=j4 hm;refine⟨hg, ?_⟩;obtain⟨e922,hx923,hm⟩:=d9 hm;obtain⟨y924,hy,hm⟩:=d9 hm;obtain⟨q925,hq0,hm⟩:=d9 hm;obtain⟨q926,hq1,hm⟩:=d9 hm;obtain⟨q927,hq2,hm⟩:=d9 hm;refine⟨(c8.c q925++(c8.c q926++c8.c q927)),stx (y:=y924) (ys:= [q925,q926,q927]) (c:=c8.c) (z:=40) (pre:= []) (post:= []) (b:=0) (off:=0) (fun _=>rfl) hx923 rfl rfl (by omega) (by cases hy;rfl) rfl (by cases hq0;cases hq1;cases hq2;exact S7 hx923), ?_⟩;clear hy hq0 hq1 hq2;refine⟨by decide, ?_⟩;apply vb hm<;>intro _ hm;refine⟨rfl, ?_⟩;obtain⟨hg,hm⟩:=j4 hm;obtain⟨sl929,hy,hm⟩:=d9 hm;refine⟨hg.1,hg.2,fun o ho=> ?_⟩;obtain rfl:o=0:=ho.2 rfl;have hr930:=b0p (c:=d8.c) (z:=9) (a:=0) (b:=(x906).toNat) (fun _=>rfl) ho hg.1 (by omega) (by omega) hy;clear ho hy;obtain⟨hg,hm⟩:=j4 hm;obtain⟨sl931,hy,hm⟩:=d9 hm;refine⟨hg.1,hg.2,fun o932 ho=> ?_⟩;have hr933:=b0p (c:=d8.c) (z:=9) (a:=((W (x906+1))).toNat) (b:=messages596.length) (fun _=>rfl) ho hg.1 (by omega) (by omega) hy;clear ho hy;refine⟨([]:List d8).flatMap d8.c,([]:List d8).length,⟨rfl,rfl⟩, ?_⟩;obtain⟨hg,hm⟩:=j4 hm;refine⟨hr930.2.2.1,hg,_,_,b8w (c:=d8.c) hr930, ?_⟩;obtain⟨hg,hm⟩:=j4 hm;refine⟨hr933.2.2.1,hg,_,_,c2t (c:=d8.c) hr933, ?_⟩;obtain⟨hg,hm⟩:=j4 hm;refine⟨hg,_,_,u0 (c:=d8.c) (l:=((sl929++sl931):List d8)) (r:=(x917:List d8)), ?_⟩;cases hm;exact⟨(_,(messages593,(W (i594+1)),(q925,q926,q927),((sl929++sl931)++x917))),I5.rn 3 7 8 [] rfl rfl 8 rfl (tA rfl) ⟨hR rfl,hR rfl,hW rfl,hW rfl,trivial⟩ 4 rfl (tA rfl) ⟨hR rfl,hR rfl,hW rfl,hW rfl,trivial⟩,hi863,F6 _⟩;obtain⟨hg,hm⟩:=j4 hm;refine⟨hg,_,_,u0 (c:=d8.c) (l:=(messages596:List d8)) (r:=(x917:List d8)), ?_⟩;cases hm;exact⟨(_,(messages593,(W (i594+1)),(q925,q926,q927),(messages596++x917))),sb 4,hi863,F6 _⟩;apply vb hm<;>intro _ hm;apply vb hm<;>intro _ hm;cases hm;exact⟨(_,(messages593,(W (i594+1)),v595,messages596)),sb 4,hi863,F6 _⟩;refine cy hm (Q2 e866.To ((messages596.length:Int))) fun x936 hm=> ?_
 refine eb hm fun _ hm=> ?_
 refine er hm fun e940 hm=> ?_
 apply vb hm<;>intro _ hm;cases hm;cases hi863;have hm:=hk861;cases hm;exact d2S (d2Q _);apply vb hm<;>intro _ hm;cases hm;cases hi863;have hm:=hk861;cases hm;exact d2S (d2Q _);refine⟨rfl, ?_⟩;obtain⟨hg,hm⟩:=j4 hm;refine⟨hg, ?_⟩;obtain⟨e944,hx945,hm⟩:=d9 hm;refine⟨_,ldx (r:=(c8.c e944)) (c:=c8.c) (z:=40) (pre:= []) (post:= []) (b:=0) (off:=0) (fun _=>rfl) hx945 rfl rfl (by omega) rfl, ?_⟩;refine cy hm (a0R e944 e940) ?_;rintro⟨x946,x947,x948⟩ hm;apply vb hm<;>intro _ hm;cases hm;cases hi863;have hm:=hk861;cases hm;exact d2S (d2Q _);apply vb hm<;>intro _ hm;cases hm;cases hi863;have hm:=hk861;cases hm;exact d2S (d2Q _);obtain⟨hg,hm⟩:=j4 hm;refine⟨hg, ?_⟩;obtain⟨e952,hx953,hm⟩:=d9 hm;obtain⟨y954,hy,hm⟩:=d9 hm;obtain⟨q955,hq0,hm⟩:=d9 hm;obtain⟨q956,hq1,hm⟩:=d9 hm;obtain⟨q957,hq2,hm⟩:=d9 hm;refine⟨(c8.c q955++(c8.c q956++c8.c q957)),stx (y:=y954) (ys:= [q955,q956,q957]) (c:=c8.c) (z:=40) (pre:= []) (post:= []) (b:=0) (off:=0) (fun _=>rfl) hx953 rfl rfl (by omega) (by cases hy;rfl) rfl (by cases hq0;cases hq1;cases hq2;exact S7 hx953), ?_⟩;clear hy hq0 hq1 hq2;refine⟨by decide, ?_⟩;apply vb hm<;>intro _ hm;refine⟨rfl, ?_⟩;obtain⟨hg,hm⟩:=j4 hm;obtain⟨sl959,hy,hm⟩:=d9 hm;refine⟨hg.1,hg.2,fun o ho=> ?_⟩;obtain rfl:o=0:=ho.2 rfl;have hr960:=b0p (c:=d8.c) (z:=9) (a:=0) (b:=(x936).toNat) (fun _=>rfl) ho hg.1 (by omega) (by omega) hy;clear ho hy;obtain⟨hg,hm⟩:=j4 hm;obtain⟨sl961,hy,hm⟩:=d9 hm;refine⟨hg.1,hg.2,fun o962 ho=> ?_⟩;have hr963:=b0p (c:=d8.c) (z:=9) (a:=((W (x936+1))).toNat) (b:=messages596.length) (fun _=>rfl) ho hg.1 (by omega) (by omega) hy;clear ho hy;refine⟨([]:List d8).flatMap d8.c,([]:List d8).length,⟨rfl,rfl⟩, ?_⟩;obtain⟨hg,hm⟩:=j4 hm;refine⟨hr960.2.2.1,hg,_,_,b8w (c:=d8.c) hr960, ?_⟩;obtain⟨hg,hm⟩:=j4 hm;refine⟨hr963.2.2.1,hg,_,_,c2t (c:=d8.c) hr963, ?_⟩;obtain⟨hg,hm⟩:=j4 hm;refine⟨hg,_,_,u0 (c:=d8.c) (l:=((sl959++sl961):List d8)) (r:=(x947:List d8)), ?_⟩;cases hm;exact⟨(_,(messages593,(W (i594+1)),(q955,q956,q957),((sl959++sl961)++x947))),I5.rn 3 7 8 [] rfl rfl 8 rfl (tA rfl) ⟨hR rfl,hR rfl,hW rfl,hW rfl,trivial⟩ 4 rfl (tA rfl) ⟨hR rfl,hR rfl,hW rfl,hW rfl,trivial⟩,hi863,F6 _⟩;obtain⟨hg,hm⟩:=j4 hm;refine⟨hg,_,_,u0 (c:=d8.c) (l:=(messages596:List d8)) (r:=(x947:List d8)), ?_⟩;cases hm;exact⟨(_,(messages593,(W (i594+1)),(q955,q956,q957),(messages596++x947))),sb 4,hi863,F6 _⟩;apply vb hm<;>intro _ hm;refine⟨rfl, ?_⟩;obtain⟨hg,hm⟩:=j4 hm;refine⟨hg, ?_⟩;obtain⟨e965,hx966,hm⟩:=d9 hm;refine⟨_,ldx (r:=(c8.c e965)) (c:=c8.c) (z:=40) (pre:= []) (post:= []) (b:=0) (off:=0) (fun _=>rfl) hx966 rfl rfl (by omega) rfl, ?_⟩;refine cy hm (b2t e965 e866.Picks) ?_;rintro⟨x967,x968⟩ hm;apply vb hm<;>intro _ hm;cases hm;cases hi863;have hm:=hk861;cases hm;exact d2S (d2Q _);obtain⟨hg,hm⟩:=j4 hm;refine⟨hg, ?_⟩;obtain⟨e971,hx972,hm⟩:=d9 hm;obtain⟨y973,hy,hm⟩:=d9 hm;obtain⟨q974,hq0,hm⟩:=d9 hm;obtain⟨q975,hq1,hm⟩:=d9 hm;obtain⟨q976,hq2,hm⟩:=d9 hm;refine⟨(c8.c q974++(c8.c q975++c8.c q976)),stx (y:=y973) (ys:= [q974,q975,q976]) (c:=c8.c) (z:=40) (pre:= []) (post:= []) (b:=0) (off:=0) (fun _=>rfl) hx972 rfl rfl (by omega) (by cases hy;rfl) rfl (by cases hq0;cases hq1;cases hq2;exact S7 hx972), ?_⟩;clear hy hq0 hq1 hq2;cases hm;exact⟨(_,(messages593,(W (i594+1)),(q974,q975,q976),messages596)),sb 4,hi863,F6 _⟩;refine⟨rfl, ?_⟩;obtain⟨hg,hm⟩:=j4 hm;refine⟨hg, ?_⟩;obtain⟨e977,hx978,hm⟩:=d9 hm;refine⟨_,ldx (r:=(c8.c e977)) (c:=c8.c) (z:=40) (pre:= []) (post:= []) (b:=0) (off:=0) (fun _=>rfl) hx978 rfl rfl (by omega) rfl, ?_⟩;refine cy hm (b8U e866.Record) fun x979 hm=> ?_
 refine cy hm (b8d e977 x979) ?_;rintro⟨x981,x982,x983⟩ hm;apply vb hm<;>intro _ hm;cases hm;cases hi863;have hm:=hk861;cases hm;exact d2S (d2Q _);apply vb hm<;>intro _ hm;cases hm;cases hi863;have hm:=hk861;cases hm;exact d2S (d2Q _);obtain⟨hg,hm⟩:=j4 hm;refine⟨hg, ?_⟩;obtain⟨e987,hx988,hm⟩:=d9 hm;obtain⟨y989,hy,hm⟩:=d9 hm;obtain⟨q990,hq0,hm⟩:=d9 hm;obtain⟨q991,hq1,hm⟩:=d9 hm;obtain⟨q992,hq2,hm⟩:=d9 hm;refine⟨(c8.c q990++(c8.c q991++c8.c q992)),stx (y:=y989) (ys:= [q990,q991,q992]) (c:=c8.c) (z:=40) (pre:= []) (post:= []) (b:=0) (off:=0) (fun _=>rfl) hx988 rfl rfl (by omega) (by cases hy;rfl) rfl (by cases hq0;cases hq1;cases hq2;exact S7 hx988), ?_⟩;clear hy hq0 hq1 hq2;cases hm;exact⟨(_,(messages593,(W (i594+1)),(q990,q991,q992),messages596)),sb 4,hi863,F6 _⟩;cases hm;cases hi863;have hm:=hk861;cases hm;exact d2S (d2Q _);cases hm;cases hi863;have hm:=hk861;cases hm;exact d2S (d2Q _)
def G8:(Int×Int×(c8×c8)×(List d8))→Option (Sum (Int×Int×(c8×c8)×(List d8)) (Sum (Int×Int×(c8×c8)×(List d8)) Bool)):=fun(moved1447,i1448,v1449,v1450)=>
 if(decide (i1448<(v1450.length:Int)))=true then
  if(decide (i1448<30))=true then
   Option.bind (idx v1450 i1448) fun e1500=>
   Option.bind (idx v1450 i1448) fun e1502=>
   if(e1502.To==v1449.2.Me)=true then
    gd (0≤(1:Int)∧(1:Int)<2)<|
    Option.bind (idx [v1449.1,v1449.2] 1) fun e1505=>
    Option.bind (idx v1450 i1448) fun e1507=>
    Option.bind (idx v1450 i1448) fun e1509=>
    Option.bind (L9 e1505 e1509) fun⟨x1511,x1512,x1513⟩=>
    if(x1513 !=0)=true then
     some (.inr (.inr false))
    else
     gd (0≤(1:Int)∧(1:Int)<2)<|
     Option.bind (idx [v1449.1,v1449.2] 1) fun e1516=>
     Option.bind (some x1511) fun y1518=>
     Option.bind (some (if(1==0)=true then y1518 else v1449.1)) fun q1519=>
     Option.bind (some (if(1==1)=true then y1518 else v1449.2)) fun q1520=>
     Option.bind (idx v1450 i1448) fun e1521=>
     Option.bind (idx v1450 i1448) fun e1523=>
     gd ((v1450.length+x1512.length)*88≤140737488355328∧v1450.length+x1512.length≤9223372036854775807)<|
     some (.inl ((W (moved1447+(e1523.Records.length:Int))),(W (i1448+1)),(q1519,q1520),(v1450++x1512)))
   else
    gd (0≤(0:Int)∧(0:Int)<2)<|
    Option.bind (idx [v1449.1,v1449.2] 0) fun e1525=>
    Option.bind (idx v1450 i1448) fun e1527=>
    Option.bind (idx v1450 i1448) fun e1529=>
    Option.bind (L9 e1525 e1529) fun⟨x1531,x1532,x1533⟩=>
    if(x1533 !=0)=true then
     some (.inr (.inr false))
    else
     gd (0≤(0:Int)∧(0:Int)<2)<|
     Option.bind (idx [v1449.1,v1449.2] 0) fun e1536=>
     Option.bind (some x1531) fun y1538=>
     Option.bind (some (if(0==0)=true then y1538 else v1449.1)) fun q1539=>
     Option.bind (some (if(0==1)=true then y1538 else v1449.2)) fun q1540=>
     Option.bind (idx v1450 i1448) fun e1541=>
     Option.bind (idx v1450 i1448) fun e1543=>
     gd ((v1450.length+x1532.length)*88≤140737488355328∧v1450.length+x1532.length≤9223372036854775807)<|
     some (.inl ((W (moved1447+(e1543.Records.length:Int))),(W (i1448+1)),(q1539,q1540),(v1450++x1532)))
  else
   some (.inr (.inl (moved1447,i1448,v1449,v1450)))
 else
  some (.inr (.inl (moved1447,i1448,v1449,v1450)))
def B5:(Int×Int×(c8×c8))→Option (Sum (Int×Int×(c8×c8)) (Sum (Int×Int×(c8×c8)) Bool)):=fun(moved1219,side1220,v1221)=>
 if(decide (side1220<2))=true then
  gd (0≤side1220∧side1220<2)<|
  Option.bind (idx [v1221.1,v1221.2] side1220) fun e1387=>
  gd (0≤(W (1-side1220))∧(W (1-side1220))<2)<|
  Option.bind (idx [v1221.1,v1221.2] (W (1-side1220))) fun e1389=>
  Option.bind (a0p e1387 e1389.Me) fun⟨x1391,x1392,x1393⟩=>
  if(x1393 !=0)=true then
   some (.inr (.inr false))
  else
   gd (0≤side1220∧side1220<2)<|
   Option.bind (idx [v1221.1,v1221.2] side1220) fun e1396=>
   Option.bind (some x1391) fun y1398=>
   Option.bind (some (if(side1220==0)=true then y1398 else v1221.1)) fun q1399=>
   Option.bind (some (if(side1220==1)=true then y1398 else v1221.2)) fun q1400=>
   Option.bind (r6 G8 (moved1219,0,(q1399,q1400),([x1392]:List d8))) fun e=>
   match e with
   | .inl (moved1545,i1546,v1547,v1548)=>
    some (.inl (moved1545,(W (side1220+1)),v1547))
   | .inr rr1549=>
    some (.inr (.inr rr1549))
 else
  some (.inr (.inl (moved1219,side1220,v1221)))
def M5 (x22:y0):(Int×(c8×c8))→Option (Sum (Int×(c8×c8)) (Sum (Int×(c8×c8)) Bool)):=fun(turn540,v541)=>
 if(decide (turn540<8))=true then
  Option.bind (r6 B5 (0,0,v541)) fun e=>
  match e with
  | .inl (moved1601,side1602,v1603)=>
   if(decide (moved1601>0))=true then
    some (.inl ((W (turn540+1)),v1603))
   else
    Option.bind (O9 v1603.1.Written) fun⟨x1605,x1606⟩=>
    Option.bind (O9 v1603.2.Written) fun⟨x1608,x1609⟩=>
    Option.bind (R3 x1605.Records x22.Records) fun x1611=>
    Option.bind (R3 x1608.Records x22.Records) fun x1613=>
    if(x1606==0)=true then
     if(x1609==0)=true then
      if x1611=true then
       some (.inr (.inr x1613))
      else
       some (.inr (.inr false))
     else
      some (.inr (.inr false))
    else
     some (.inr (.inr false))
  | .inr rr1618=>
   some (.inr (.inr rr1618))
 else
  some (.inr (.inl (turn540,v541)))
def a2v (l:(List a1c)) (n:Int):Option Bool:=
 Option.bind (a6l) fun x1=>
 Option.bind (a3y l) fun⟨x3,x4⟩=>
 if(!x1)=true then
  some false
 else
  if(!x4)=true then
   some false
  else
   Option.bind (J8 n 3) fun x8=>
   gd (0≤x8∧x8<3)<|
   Option.bind (idx [x3.1,x3.2.1,x3.2.2] x8) fun e10=>
   Option.bind (J8 n 3) fun x12=>
   gd (0≤((W (x12+1)).tmod 3)∧((W (x12+1)).tmod 3)<3)<|
   Option.bind (idx [x3.1,x3.2.1,x3.2.2] ((W (x12+1)).tmod 3)) fun e14=>
   Option.bind (O9 e10.Written) fun⟨x16,x17⟩=>
   Option.bind (O9 e14.Written) fun⟨x19,x20⟩=>
   Option.bind (a3D x16 x19) fun⟨x22,x23⟩=>
   if(x17 !=0)=true then
    some false
   else
    if(x20 !=0)=true then
     some false
    else
     if(x23 !=0)=true then
      some false
     else
      Option.bind (r6 (M5 x22) (0,(e10,e14))) fun e=>
      match e with
      | .inl (turn1852,v1853)=>
       some false
      | .inr rr1854=>
       some rr1854
theorem b1v (l:(List a1c)) (n:Int) (r:Bool) (hm:a2v l n=some r):s9 Tryz.prog 13 [lD 9 l a1c.c,DI n] (fun x=>x=DB r):=by
 refine zy d2f [] [] [] Tryz.func13 rfl ?_;refine cy hm (c1P) fun x1 hm=> ?_
 refine cy hm (b7k l) ?_;rintro⟨x3,x4⟩ hm;apply vb hm<;>intro _ hm;exact hm.rr;apply vb hm<;>intro _ hm;exact hm.rr;refine⟨rfl, ?_⟩;refine cy hm (Q2 n 3) fun x8 hm=> ?_
 obtain⟨hg,hm⟩:=j4 hm;refine⟨hg, ?_⟩;obtain⟨e10,hx11,hm⟩:=d9 hm;refine⟨_,ldx (r:=(c8.c e10)) (c:=c8.c) (z:=40) (pre:= []) (post:= []) (b:=0) (off:=0) (fun _=>rfl) hx11 rfl rfl (by first|omega|(simp only [W]at hg⊢<;>omega)) rfl, ?_⟩
 refine cy hm (Q2 n 3) fun x12 hm=> ?_
 refine⟨by decide, ?_⟩;obtain⟨hg,hm⟩:=j4 hm;refine⟨hg, ?_⟩;obtain⟨e14,hx15,hm⟩:=d9 hm;refine⟨_,ldx (r:=(c8.c e14)) (c:=c8.c) (z:=40) (pre:= []) (post:= []) (b:=0) (off:=0) (fun _=>rfl) hx15 rfl rfl (by first|omega|(simp only [W]at hg⊢<;>omega)) rfl, ?_⟩
 refine⟨by decide, ?_⟩;refine cy hm (a1Y e10.Written) ?_;rintro⟨x16,x17⟩ hm;refine⟨by decide, ?_⟩;refine cy hm (a1Y e14.Written) ?_;rintro⟨x19,x20⟩ hm;refine cy hm (b7q x16 x19) ?_;rintro⟨x22,x23⟩ hm;apply vb hm<;>intro _ hm;exact hm.rr;apply vb hm<;>intro _ hm;exact hm.rr;apply vb hm<;>intro _ hm;exact hm.rr;obtain⟨ev1855,he,hk1856⟩:=d9 hm;refine d2T (M5 x22) (fun(turn540,v541)=>⟨[(8, .own 1 0),(13, .own 4 0),(15,DI turn540)], [(1, .blk (c8.c v541.1++c8.c v541.2) 112),(4, .blk [lD 8 x22.Records b9.c] 70)],5⟩) (0,(e10,e14)) (sb 5) he ?_;rintro fu1857 ⟨turn540,v541⟩ b hm hi1858;apply vb hm<;>intro _ hm;obtain⟨ev2423,he,hk2424⟩:=d9 hm;refine d2T B5 (fun(moved2023,side2024,v2025)=>⟨[(8, .own 1 0),(13, .own 4 0),(15,DI turn540),(16,DI moved2023),(17,DI side2024)], [(1, .blk (c8.c v2025.1++c8.c v2025.2) 112),(4, .blk [lD 8 x22.Records b9.c] 70)],5⟩) (0,0,v541) (sb 5) he ?_;rintro fu2425 ⟨moved2023,side2024,v2025⟩ b hm hi2426;apply vb hm<;>intro _ hm;refine⟨rfl, ?_⟩;obtain⟨hg,hm⟩:=j4 hm;refine⟨hg, ?_⟩;obtain⟨e2428,hx2429,hm⟩:=d9 hm;refine⟨_,ldx (r:=(c8.c e2428)) (c:=c8.c) (z:=40) (pre:= []) (post:= []) (b:=0) (off:=0) (fun _=>rfl) hx2429 rfl rfl (by first|omega|(simp only [W]at hg⊢<;>omega)) rfl, ?_⟩
 obtain⟨hg,hm⟩:=j4 hm;refine⟨hg, ?_⟩;obtain⟨e2430,hx2431,hm⟩:=d9 hm;refine⟨_,ldx (r:= [DI e2430.Me]) (c:=c8.c) (z:=40) (pre:= []) (post:= []) (b:=0) (off:=0) (fun _=>rfl) hx2431 rfl rfl (by first|omega|(simp only [W]at hg⊢<;>omega)) rfl, ?_⟩
 refine cy hm (a6C e2428 e2430.Me) ?_;rintro⟨x2432,x2433,x2434⟩ hm;apply vb hm<;>intro _ hm;cases hm;cases hi2426;have hm:=hk2424;cases hm;cases hi1858;have hm:=hk1856;exact hm.rr;obtain⟨hg,hm⟩:=j4 hm;refine⟨hg, ?_⟩;obtain⟨e2437,hx2438,hm⟩:=d9 hm;obtain⟨y2439,hy,hm⟩:=d9 hm;obtain⟨q2440,hq0,hm⟩:=d9 hm;obtain⟨q2441,hq1,hm⟩:=d9 hm;refine⟨(c8.c q2440++c8.c q2441),stx (y:=y2439) (ys:= [q2440,q2441]) (c:=c8.c) (z:=40) (pre:= []) (post:= []) (b:=0) (off:=0) (fun _=>rfl) hx2438 rfl rfl (by first|omega|(simp only [W]at hg⊢<;>omega)) (by cases hy;rfl) rfl (by cases hq0;cases hq1;exact S7 hx2438), ?_⟩
 clear hy hq0 hq1;refine⟨([x2433]:List d8).flatMap d8.c,([x2433]:List d8).length,⟨rfl,rfl⟩, ?_⟩;obtain⟨ev2591,he,hk2592⟩:=d9 hm;refine d2T G8 (fun(moved2488,i2489,v2490,v2491)=>⟨[(8, .own 1 0),(13, .own 4 0),(15,DI turn540),(16,DI moved2488),(17,DI side2024),(18, .own 5 0),(19, .own 6 0),(21, .row 7 9),(22,DI i2489)], [(1, .blk (c8.c v2490.1++c8.c v2490.2) 112),(4, .blk [lD 8 x22.Records b9.c] 70),(5, .blk (c8.c x2432) 91),(6, .blk (d8.c x2433) 86),(7,rE 9 v2491 d8.c 86)],8⟩) (moved2023,0,(q2440,q2441),([x2433]:List d8)) (sb 8) he ?_;rintro fu2593 ⟨moved2488,i2489,v2490,v2491⟩ b hm hi2594;apply vb hm<;>intro _ hm;apply vb hm<;>intro _ hm;refine⟨rfl, ?_⟩;refine eb hm fun _ hm=> ?_
 refine er hm fun _ hm=> ?_
 refine⟨by decide, ?_⟩;apply vb hm<;>intro _ hm;refine⟨rfl, ?_⟩;obtain⟨hg,hm⟩:=j4 hm;refine⟨hg, ?_⟩;obtain⟨e2602,hx2603,hm⟩:=d9 hm;refine⟨_,ldx (r:=(c8.c e2602)) (c:=c8.c) (z:=40) (pre:= []) (post:= []) (b:=0) (off:=0) (fun _=>rfl) hx2603 rfl rfl (by first|omega|(simp only [W]at hg⊢<;>omega)) rfl, ?_⟩
 refine eb hm fun _ hm=> ?_
 refine er hm fun e2606 hm=> ?_
 refine cy hm (a0R e2602 e2606) ?_;rintro⟨x2608,x2609,x2610⟩ hm;apply vb hm<;>intro _ hm;cases hm;cases hi2594;have hm:=hk2592;cases hm;cases hi2426;have hm:=hk2424;cases hm;cases hi1858;have hm:=hk1856;exact hm.rr;obtain⟨hg,hm⟩:=j4 hm;refine⟨hg, ?_⟩;obtain⟨e2613,hx2614,hm⟩:=d9 hm;obtain⟨y2615,hy,hm⟩:=d9 hm;obtain⟨q2616,hq0,hm⟩:=d9 hm;obtain⟨q2617,hq1,hm⟩:=d9 hm;refine⟨(c8.c q2616++c8.c q2617),stx (y:=y2615) (ys:= [q2616,q2617]) (c:=c8.c) (z:=40) (pre:= []) (post:= []) (b:=0) (off:=0) (fun _=>rfl) hx2614 rfl rfl (by first|omega|(simp only [W]at hg⊢<;>omega)) (by cases hy;rfl) rfl (by cases hq0;cases hq1;exact S7 hx2614), ?_⟩
 clear hy hq0 hq1;refine eb hm fun _ hm=> ?_
 refine er hm fun e2620 hm=> ?_
 obtain⟨hg,hm⟩:=j4 hm;refine⟨hg,_,_,u0 (c:=d8.c) (l:=(v2491:List d8)) (r:=(x2609:List d8)), ?_⟩;cases hm;exact⟨(_,((W (moved2488+(e2620.Records.length:Int))),(W (i2489+1)),(q2616,q2617),(v2491++x2609))),sb 8,hi2594,F6 _⟩;refine⟨rfl, ?_⟩;obtain⟨hg,hm⟩:=j4 hm;refine⟨hg, ?_⟩;obtain⟨e2622,hx2623,hm⟩:=d9 hm;refine⟨_,ldx (r:=(c8.c e2622)) (c:=c8.c) (z:=40) (pre:= []) (post:= []) (b:=0) (off:=0) (fun _=>rfl) hx2623 rfl rfl (by first|omega|(simp only [W]at hg⊢<;>omega)) rfl, ?_⟩
 refine eb hm fun _ hm=> ?_
 refine er hm fun e2626 hm=> ?_
 refine cy hm (a0R e2622 e2626) ?_;rintro⟨x2628,x2629,x2630⟩ hm;apply vb hm<;>intro _ hm;cases hm;cases hi2594;have hm:=hk2592;cases hm;cases hi2426;have hm:=hk2424;cases hm;cases hi1858;have hm:=hk1856;exact hm.rr;obtain⟨hg,hm⟩:=j4 hm;refine⟨hg, ?_⟩;obtain⟨e2633,hx2634,hm⟩:=d9 hm;obtain⟨y2635,hy,hm⟩:=d9 hm;obtain⟨q2636,hq0,hm⟩:=d9 hm;obtain⟨q2637,hq1,hm⟩:=d9 hm;refine⟨(c8.c q2636++c8.c q2637),stx (y:=y2635) (ys:= [q2636,q2637]) (c:=c8.c) (z:=40) (pre:= []) (post:= []) (b:=0) (off:=0) (fun _=>rfl) hx2634 rfl rfl (by first|omega|(simp only [W]at hg⊢<;>omega)) (by cases hy;rfl) rfl (by cases hq0;cases hq1;exact S7 hx2634), ?_⟩
 clear hy hq0 hq1;refine eb hm fun _ hm=> ?_
 refine er hm fun e2640 hm=> ?_
 obtain⟨hg,hm⟩:=j4 hm;refine⟨hg,_,_,u0 (c:=d8.c) (l:=(v2491:List d8)) (r:=(x2629:List d8)), ?_⟩;cases hm;exact⟨(_,((W (moved2488+(e2640.Records.length:Int))),(W (i2489+1)),(q2636,q2637),(v2491++x2629))),sb 8,hi2594,F6 _⟩;cases hm;cases hi2594;have hm:=hk2592;cases hm;exact⟨(_,(moved2488,(W (side2024+1)),v2490)),sb 5,hi2426,F6 _⟩;cases hm;cases hi2594;have hm:=hk2592;cases hm;exact⟨(_,(moved2488,(W (side2024+1)),v2490)),sb 5,hi2426,F6 _⟩;cases hm;cases hi2426;have hm:=hk2424;apply vb hm<;>intro _ hm;cases hm;exact⟨(_,((W (turn540+1)),v2025)),sb 5,hi1858,F6 _⟩;refine⟨by decide, ?_⟩;refine cy hm (a1Y v2025.1.Written) ?_;rintro⟨x2643,x2644⟩ hm;refine⟨by decide, ?_⟩;refine cy hm (a1Y v2025.2.Written) ?_;rintro⟨x2646,x2647⟩ hm;refine cy hm (a4A x2643.Records x22.Records) fun x2649 hm=> ?_
 refine cy hm (a4A x2646.Records x22.Records) fun x2651 hm=> ?_
 apply vb hm<;>intro _ hm;apply vb hm<;>intro _ hm;apply vb hm<;>intro _ hm;cases hm;cases hi1858;have hm:=hk1856;exact hm.rr;cases hm;cases hi1858;have hm:=hk1856;exact hm.rr;cases hm;cases hi1858;have hm:=hk1856;exact hm.rr;cases hm;cases hi1858;have hm:=hk1856;exact hm.rr;cases hm;cases hi1858;have hm:=hk1856;exact hm.rr
end Go.Proofs.YtggdlgclohnbaaaGreatDoor
