/- Functions as Lean functions. -/
import Derived.Test.YtggdlgclohnbaaaGreatDoorI1
set_option linter.unusedVariables false
set_option linter.unusedSimpArgs false
namespace Go.Proofs.YtggdlgclohnbaaaGreatDoor
open Go Go.RowKit Go.Sx Go.Proofs.Tryz
set_option maxRecDepth 100000
set_option maxHeartbeats 20000000
def l8(slices:(List (List d8))):(Int×Int)→Option (Sum (Int×Int) (Int×Int)):=fun(size5,v6)=>
 if(decide (v6<(slices.length:Int)))=true then
  (idx slices v6).bind fun x1=>
  if(decide ((W (size5+(x1.length:Int)))<0))=true then
   none
  else
   some (.inl ((W (size5+(x1.length:Int))),(W (v6+1))))
 else
  some (.inr (size5,v6))
def l7(slices:(List (List d8))):(Int×(List d8))→Option (Sum (Int×(List d8)) (Int×(List d8))):=fun(x1,z1)=>
 if(decide (x1<(slices.length:Int)))=true then
  (idx slices x1).bind fun u1=>
  gd ((z1.length+u1.length)*48≤140737488355328∧z1.length+u1.length≤9223372036854775807)<|
  some (.inl ((W (x1+1)),(z1++u1)))
 else
  some (.inr (x1,z1))
def J5(slices:(List (List d8))):Option (List d8):=
 (o8 (l8 slices) (0,0)).bind fun(size15,z1)=>
 gd (0≤size15∧size15*48≤140737488355328)<|
 (o8 (l7 slices) (0,([]:List d8))).bind fun(u1,x1)=>
 some x1
theorem a2V(slices:(List (List d8)))(r:(List d8))(hm:J5 slices=some r):p0 Tryz.prog 131 [lD 1 slices cf2] (fun x=>x=lD 5 r d8.c):=by
 refine zy [] [80,112,155,175] [159] [] func131 rfl ?_;obtain⟨p1,he,s1⟩:=d9 hm;refine d5w (l8 slices) (fun(size5,v6)=>⟨[(0,lD 1 slices cf2),(3,DI size5),(9,lD 1 slices cf2),(10,DI (slices.length:Int)),(11,DI v6)],[],0⟩) (0,0) (sb 0) he ?_;rintro n1 ⟨size5,v6⟩ b hm u1;apply vb hm<;>intro _ hm;refine ei hm fun t1 hm=>?_
 apply vb hm<;>intro _ hm;cases hm;cases hm;exact⟨(_,((W (size5+(t1.length:Int))),(W (v6+1)))),sb 0,u1,D6 _⟩;cases hm;cases u1;have hm:=s1;obtain⟨hg,hm⟩:=j0 hm;refine .inl (a5X.mk ⟨_,_,_,_,a3x size5 hg,?_⟩);obtain⟨k1,he,q1⟩:=d9 hm;refine d5w (l7 slices) (fun(z1,x1)=>⟨[(6,.row 0 5),(25,lD 1 slices cf2),(26,DI (slices.length:Int)),(27,DI z1)],[(0,rE 5 x1 d8.c 53)],1⟩) (0,([]:List d8)) (sb 1) he ?_;rintro j1 ⟨z1,x1⟩ b hm v1;apply vb hm<;>intro _ hm;refine ei hm fun w1 hm=>?_
 obtain⟨hg,hm⟩:=j0 hm;refine⟨hg,_,_,l6 (c:=d8.c) (l:=(x1:List d8)) (r:=(w1:List d8)),?_⟩;cases hm;exact⟨(_,((W (z1+1)),(x1++w1))),sb 1,v1,D6 _⟩;cases hm;cases v1;have hm:=q1;cases hm;exact d5v (d5t _)
def a2H(b_:n9):Option (List d8):=
 (J5 ([b_.Thread,b_.Loose]:List (List d8))).bind fun x1=>
 some x1
theorem a9m(b_:n9)(r:(List d8))(hm:a2H b_=some r):p0 Tryz.prog 77 [.agg (n9.c b_)] (fun x=>x=lD 5 r d8.c):=by
 refine zn func77 rfl ?_;refine⟨([b_.Thread,b_.Loose]:List (List d8)).flatMap cf2,([b_.Thread,b_.Loose]:List (List d8)).length,⟨rfl,rfl⟩,?_⟩;refine co hm (a2V (([b_.Thread,b_.Loose]:List (List d8)))) fun x1 hm=>?_
 cases hm;exact d5v (d5t _)
def a2b(c:d8):Option Bool:=
 (D0 c.No 0 59).bind fun x1=>
 if x1=true then
  (D0 c.Parts 1 10).bind fun x4=>
  if x4=true then
   (D0 c.Part 0 (W (c.Parts-1))).bind fun x7=>
   if x7=true then
    (D0 c.Size 1 24).bind fun z1=>
    if z1=true then
     some ((c.Text.size:Int)==c.Size)
    else
     some false
   else
    some false
  else
   some false
 else
  some false
theorem b4c(c:d8)(r:Bool)(hm:a2b c=some r):p0 Tryz.prog 100 [.agg (d8.c c)] (fun x=>x=DB r):=by
 refine zn func100 rfl ?_;refine cy hm (H8 c.No 0 59) fun x1 hm=>?_
 apply vb hm<;>intro _ hm;refine cy hm (H8 c.Parts 1 10) fun x4 hm=>?_
 apply vb hm<;>intro _ hm;refine cy hm (H8 c.Part 0 (W (c.Parts-1))) fun x7 hm=>?_
 apply vb hm<;>intro _ hm;refine cy hm (H8 c.Size 1 24) fun z1 hm=>?_
 apply vb hm<;>intro _ hm;exact hm.rr;exact hm.rr;exact hm.rr;exact hm.rr;exact hm.rr
def a6x(b_:n9):Option n9:=
 some b_
theorem b6W(b_:n9)(r:n9)(hm:a6x b_=some r):p0 Tryz.prog 69 [.agg (n9.c b_)] (fun x=>x=.fn 128 [] [.ptr [lD 5 r.Thread d8.c,lD 5 r.Loose d8.c] 0]):=by
 refine zn func69 rfl ?_;cases hm;exact d5v (d5t _)
def P1(s:ByteArray):Option ByteArray:=gd (s.size≤281474976710656) (some s)
theorem a4A(s:ByteArray)(r:ByteArray)(hm:P1 s=some r):p0 Tryz.prog 134 [.v (.string s)] (fun x=>x=.v (.string r)):=by
 obtain⟨hg,hm⟩:=j0 hm;cases hm;exact c0n c3L s hg
def a0c(l:(List b9)):(Int×Int×Int×Int×Int×Int×Int)→Option (Sum (Int×Int×Int×Int×Int×Int×Int) (Int×Int×Int×Int×Int×Int×Int)):=fun(u1,v1,w1,s1,t1,q1,p1)=>
 if(decide (u1<(l.length:Int)))=true then
  (idx l u1).bind fun x1=>
  gd (0≤x1.At.Depot∧x1.At.Depot<6)<|
  (idx [v1,w1,s1,t1,q1,p1] x1.At.Depot).bind fun n1=>
  gd (0≤x1.At.Depot∧x1.At.Depot<6)<|
  (idx [v1,w1,s1,t1,q1,p1] x1.At.Depot).bind fun c1=>
  Option.bind (some (W (n1+1))) fun z1=>
  Option.bind (some (if(x1.At.Depot==0)=true then z1 else v1)) fun k1=>
  Option.bind (some (if(x1.At.Depot==1)=true then z1 else w1)) fun j1=>
  Option.bind (some (if(x1.At.Depot==2)=true then z1 else s1)) fun h1=>
  Option.bind (some (if(x1.At.Depot==3)=true then z1 else t1)) fun g1=>
  Option.bind (some (if(x1.At.Depot==4)=true then z1 else q1)) fun f1=>
  Option.bind (some (if(x1.At.Depot==5)=true then z1 else p1)) fun e1=>
  some (.inl ((W (u1+1)),k1,j1,h1,g1,f1,e1))
 else
  some (.inr (u1,v1,w1,s1,t1,q1,p1))
def V8(l:(List b9)):Option (Int×Int×Int×Int×Int×Int):=
 (o8 (a0c l) (0,0,0,0,0,0,0)).bind fun(t1,x1,z1,u1,v1,w1,s1)=>
 some (x1,z1,u1,v1,w1,s1)
theorem a2O(l:(List b9))(r:(Int×Int×Int×Int×Int×Int))(hm:V8 l=some r):p0 Tryz.prog 109 [lD 8 l b9.c] (fun x=>x=.agg [DI r.1,DI r.2.1,DI r.2.2.1,DI r.2.2.2.1,DI r.2.2.2.2.1,DI r.2.2.2.2.2]):=by
 refine zn func109 rfl ?_;obtain⟨x2,he,e1⟩:=d9 hm;refine d5w (a0c l) (fun(x1,q1,p1,n1,k1,j1,h1)=>⟨[(2,.own 0 0),(3,.own 1 0),(6,lD 8 l b9.c),(7,DI (l.length:Int)),(8,DI x1)],[(0,.blk [DI 0,DI 0,DI 0,DI 0,DI 0,DI 0] 78),(1,.blk [DI q1,DI p1,DI n1,DI k1,DI j1,DI h1] 78)],2⟩) (0,0,0,0,0,0,0) (sb 2) he ?_;rintro y2 ⟨x1,q1,p1,n1,k1,j1,h1⟩ b hm g1;apply vb hm<;>intro _ hm;refine ei hm fun _ hm=>?_
 obtain⟨hg,hm⟩:=j0 hm;refine⟨hg,?_⟩;obtain⟨c1,b1,hm⟩:=d9 hm;refine⟨_,a3K (r:=[DI c1]) (c:=cI) (z:=1) (fun _=>rfl) b1 rfl (by omega) rfl,?_⟩;obtain⟨hg,hm⟩:=j0 hm;refine⟨hg,?_⟩;obtain⟨z2,f1,hm⟩:=d9 hm;obtain⟨a1,hy,hm⟩:=d9 hm;obtain⟨z1,hq0,hm⟩:=d9 hm;obtain⟨u1,hq1,hm⟩:=d9 hm;obtain⟨v1,hq2,hm⟩:=d9 hm;obtain⟨w1,hq3,hm⟩:=d9 hm;obtain⟨s1,hq4,hm⟩:=d9 hm;obtain⟨t1,hq5,hm⟩:=d9 hm;refine⟨[DI z1,DI u1,DI v1,DI w1,DI s1,DI t1],b0L (y:=a1) (ys:=[z1,u1,v1,w1,s1,t1]) (c:=cI) (z:=1) (fun _=>rfl) f1 rfl (by omega) (by cases hy;rfl) rfl (by cases hq0;cases hq1;cases hq2;cases hq3;cases hq4;cases hq5;exact L7 f1),?_⟩;clear hy hq0 hq1 hq2 hq3 hq4 hq5;cases hm;exact⟨(_,((W (x1+1)),z1,u1,v1,w1,s1,t1)),sb 2,g1,D6 _⟩;cases hm;cases g1;have hm:=e1;cases hm;exact d5v (d5t _)
def a3k(l:(List b9))(r_:b9):Option Bool:=
 if(decide ((l.length:Int)<60))=true then
  (V8 l).bind fun x2=>
  (idx [x2.1,x2.2.1,x2.2.2.1,x2.2.2.2.1,x2.2.2.2.2.1,x2.2.2.2.2.2] r_.At.Depot).bind fun e4=>
  some (e4==r_.At.No)
 else
  some false
theorem b2k(l:(List b9))(r_:b9)(r:Bool)(hm:a3k l r_=some r):p0 Tryz.prog 71 [lD 8 l b9.c,.agg (b9.c r_)] (fun x=>x=DB r):=by
 refine zy d5l [] [] [] func71 rfl ?_;refine⟨rfl,?_⟩;apply vb hm<;>intro _ hm;refine cy hm (a2O l) fun x2 hm=>?_
 obtain⟨e4,hx5,hm⟩:=d9 hm;refine⟨a2x hx5,_,a3K (c:=cI) (z:=1) (fun _=>rfl) hx5 rfl (by omega) rfl,?_⟩;exact hm.rr;exact hm.rr
def Y1(s:(List Int))(n:Int):Option ((List Int)×Int):=
 if(decide (n<1))=true then
  none
 else
  some (s,n)
theorem a6u(s:(List Int))(n:Int)(r:((List Int)×Int))(hm:Y1 s n=some r):p0 Tryz.prog 144 [lD 1 s b0i,DI n] (fun x=>x=.fn 164 [] [.ptr [lD 1 r.1 b0i] 0,.ptr [DI r.2] 0]):=by
 refine zn func144 rfl ?_;apply vb hm<;>intro _ hm;cases hm;cases hm;exact d5v (d5t _)
def B9(x:(List Int)):List D:=[lD 1 x b0i]
def A2(c_0:(List Int))(c_1:Int):Int→Option (List (List Int)×Sum Int Int):=fun i5=>
 if(decide (i5<(c_0.length:Int)))=true then
  gd ((0≤i5∧i5≤(c_0.length:Int)))<|
  Option.bind (some (sub c_0 (i5).toNat c_0.length)) fun x1=>
  gd ((0≤(W (i5+(if(x1.length:Int)<c_1 then(x1.length:Int)else c_1)))∧(W (i5+(if(x1.length:Int)<c_1 then(x1.length:Int)else c_1)))≤(c_0.length:Int))∧(0≤(W (i5+(if(x1.length:Int)<c_1 then(x1.length:Int)else c_1)))∧(W (i5+(if(x1.length:Int)<c_1 then(x1.length:Int)else c_1)))≤(W (i5+(if(x1.length:Int)<c_1 then(x1.length:Int)else c_1))))∧(0≤i5∧i5≤(W (i5+(if(x1.length:Int)<c_1 then(x1.length:Int)else c_1)))))<|
  Option.bind (some (sub c_0 (i5).toNat ((W (i5+(if(x1.length:Int)<c_1 then(x1.length:Int)else c_1)))).toNat)) fun z1=>
  emit z1<|
  some ([],.inl (W (i5+c_1)))
 else
  some ([],.inr i5)
def J1(c_0:(List Int))(c_1:Int):Option (List (List Int)×Unit):=
 b8f (b5D (A2 c_0 c_1) 0) fun x1=>
 some ([],())
theorem a5t(c_0:(List Int))(c_1:Int)(xs:List (List Int))(hm:J1 c_0 c_1=some (xs,())):a8W Tryz.prog 164 [.ptr [lD 1 c_0 b0i] 0,.ptr [DI c_1] 0] (xs.map B9):=by
 refine c2t (X:=⟨Tryz.prog,tt,Tryz.f164.ntmps,d2q,[],[],[],[],[]⟩) pok _ _ [] func164 rfl rfl (J6 rfl) rfl ?_;intro l;obtain⟨r,hr⟩:∃r:List (List Int)×Unit,r=(xs,()):=⟨_,rfl⟩;rw[←hr]at hm;have hp:Hp3 B9 [] r.1 [] (xs.map B9):=⟨by rw[hr];simp⟩;clear hr;obtain⟨s1,q1,he,t1,hb1,hb2⟩:=b5F hm;replace hp:=hp.in1 hb1;clear hb1 hb2;refine b3N.of (fun(lpx:Nat×Int)=>match lpx with|(z1,i5)=>(⟨[(0,.v (.func (.yield l) #[] #[])),(1,.ptr [lD 1 c_0 b0i] 0),(2,.ptr [DI c_1] 0),(4,DI i5)],[],0⟩:Sy)) (fun lpx q=>∃e,a6w (A2 c_0 c_1) lpx.1 lpx.2=some e∧Hp3 B9 q e.1 _ _∧e.2=s1.2) (fun lpx=>lpx.1) (a0X,0) ⟨_,he,hp,rfl⟩ (sb 0) ?_
 clear hp he;rintro⟨z1,i5⟩ q ⟨p1,x1,hp,v1⟩;obtain⟨z1,b,tl,rfl,hm,hb1,x1⟩:=b6g x1;replace hp:=hp.in1 hb1;clear hb1;have hq:b.2=b.2:=rfl;apply vb hm<;>intro _ hm;refine⟨rfl,?_⟩;obtain⟨hg,hm⟩:=j0 hm;obtain⟨u1,hy,hm⟩:=d9 hm;refine⟨hg,_,(S1 (c:=b0i) (z:=1) (fun _=>rfl) _ _ _).trans (Y7 _ (E0 hy)),?_⟩;have hl:u1.length=c_0.length-(i5).toNat:=by rw[←E0 hy];exact a0r (by omega)
 rw[←hl];obtain⟨hg,hm⟩:=j0 hm;obtain⟨w1,hy,hm⟩:=d9 hm;refine⟨hg.1,hg.2.1,hg.2.2,_,(S1 (c:=b0i) (z:=1) (fun _=>rfl) _ _ _).trans (Y7 _ (E0 hy)),?_⟩;have hl:w1.length=((W (i5+(if(u1.length:Int)<c_1 then(u1.length:Int)else c_1)))).toNat-(i5).toNat:=by rw[←E0 hy];exact a0r (by omega)
 rw[←hl];obtain⟨n1,hm,hb1,hb2⟩:=b8R hm;refine a6M.of (x':=B9 w1) rfl rfl (d5v (d5t _)) (hp.pre hb1) ?_ ?_;replace hp:=hp.emit hb1;replace hq:=hq.trans hb2;cases hm;rw[hq]at x1;obtain⟨e2,hm,rfl,ht⟩:=x1;exact⟨(z1,(W (i5+c_1))),_,sb 0,rfl,⟨_,hm,hp.out rfl,ht.symm.trans v1⟩,D6 _⟩;exact .inl rfl;cases hm;rw[hq]at x1;obtain⟨rfl,ht⟩:=x1;replace hp:=(hp.out (l':=[]) rfl).out rfl;have hm:=t1
 try rw[←v1,ht]at hm
 clear hq;cases hm;exact .inr (Y7 some (hp.done rfl))
def a1K(no:Int):(List d8)→(List Int)→Option (Sum (List d8) Unit):=fun v8 y7=>
 gd ((v8.length+([(⟨no,(v8.length:Int),0,(y7.length:Int),(a4y y7)⟩:d8)]:List d8).length)*48≤140737488355328∧v8.length+([(⟨no,(v8.length:Int),0,(y7.length:Int),(a4y y7)⟩:d8)]:List d8).length≤9223372036854775807)<|
 some (.inl (v8++([(⟨no,(v8.length:Int),0,(y7.length:Int),(a4y y7)⟩:d8)]:List d8)))
def Q8(v1:(List d8)):(Int×(List d8))→Option (Sum (Int×(List d8)) (Int×(List d8))):=fun(x1,z1)=>
 if(decide (x1<(v1.length:Int)))=true then
  (idx z1 x1).bind fun w1=>
  (idx z1 x1).bind fun u1=>
  some (.inl ((W (x1+1)),(z1.set x1.toNat (⟨u1.No,u1.Part,(z1.length:Int),u1.Size,u1.Text⟩:d8))))
 else
  some (.inr (x1,z1))
def a0L(r_:b9)(no:Int):Option (List d8):=
 (N3 r_).bind fun x1=>
 gd (x1.size≤9223372036854775807)<|
 Option.bind (some (J2 x1)) fun by3=>
 (Y1 by3 24).bind fun⟨x4,x5⟩=>
 (J1 x4 x5).bind fun l9=>
 (U4 (a1K no) l9.1 []).bind fun e=>
 match e with
 |.inl z1=>
  (o8 (Q8 z1) (0,z1)).bind fun(v1,u1)=>
  some u1
 |.inr _=>none
theorem a6D(r_:b9)(no:Int)(r:(List d8))(hm:a0L r_ no=some r):p0 Tryz.prog 96 [.agg (b9.c r_),DI no] (fun x=>x=lD 5 r d8.c):=by
 refine c5i (X:=⟨Tryz.prog,tt,Tryz.f96.ntmps,[],[],[],[],[],[]⟩) pok _ func96 rfl rfl (J6 rfl) ?_;intro ds;intro ds;intro ds;refine cy hm (a8U r_) fun x1 hm=>?_
 obtain⟨hg,hm⟩:=j0 hm;obtain⟨by3,hy,hm⟩:=d9 hm;refine⟨⟨5,.string,by kernel_rfl,by kernel_rfl,by kernel_rfl⟩,hg,_,_,b5b (fun _=>rfl) hy,?_⟩;clear hy;refine cy hm (a6u by3 24) ?_;rintro⟨x4,x5⟩ hm;obtain⟨l9,q1,hm⟩:=d9 hm;obtain⟨p1,he,hm⟩:=d9 hm;refine a6A.ofZ (E:=Unit) B9 l9.1 (a1K no) (fun(lpx:(List d8))=>match lpx with|v8=>(⟨[(0,.agg (b9.c r_)),(1,DI no),(2,.own 0 0),(3,.own 1 0),(4,nS),(5,.own 2 0)],[(0,.blk (b9.c r_) 38),(1,.blk [DI no] 3),(2,.blk [.row 3 5] 22),(3,rE 5 v8 d8.c 53)],4⟩:Sy)) (fun(_:Unit)=>(⟨[],[],0⟩:Sy)) (fun _=>.ret) [] p1 [0,1,2,3,4,5] (a5t x4 x5 l9.1 q1) he (c1s pok func164 rfl) rfl rfl (fun _=>rfl) rfl rfl rfl (by rintro v8;rfl) (by intro _;rfl) (sb 3) ?_ ?_ (fun _=>.inl rfl) ?_
 rintro w1 rfl;intro ds;intro ds;obtain⟨k1,he,n1⟩:=d9 hm;refine d5w (Q8 w1) (fun(v1,u1)=>⟨[(5,.own 2 0),(25,DI (w1.length:Int)),(26,DI v1)],[(2,.blk [.row 3 5] 22),(3,rE 5 u1 d8.c 53)],4⟩) (0,w1) (sb 4) he ?_;rintro j1 ⟨v1,u1⟩ b hm s1;apply vb hm<;>intro _ hm;refine eb hm fun _ hm=>?_
 obtain⟨z1,t1,hm⟩:=d9 hm;refine⟨_,c3T (fun _=>rfl) t1,_,c4H (y:=(⟨z1.No,z1.Part,(u1.length:Int),z1.Size,z1.Text⟩:d8)) (fun _=>rfl) t1,?_⟩;cases hm;exact⟨(_,((W (v1+1)),(u1.set v1.toNat (⟨z1.No,z1.Part,(u1.length:Int),z1.Size,z1.Text⟩:d8)))),sb 4,s1,D6 _⟩;cases hm;cases s1;have hm:=n1;intro ds;intro ds;cases hm;exact d5v (d5t _);rintro _ rfl;cases hm;clear he hm;rintro v8 y7 b hm;refine⟨⟨rfl,5,by kernel_rfl,by kernel_rfl,by kernel_rfl⟩,y7,b9f (fun _=>rfl) _,?_⟩;refine⟨([(⟨no,(v8.length:Int),0,(y7.length:Int),(a4y y7)⟩:d8)]:List d8).flatMap d8.c,([(⟨no,(v8.length:Int),0,(y7.length:Int),(a4y y7)⟩:d8)]:List d8).length,⟨rfl,rfl⟩,?_⟩;obtain⟨hg,hm⟩:=j0 hm;refine⟨hg,_,_,l6 (c:=d8.c) (l:=(v8:List d8)) (r:=(([(⟨no,(v8.length:Int),0,(y7.length:Int),(a4y y7)⟩:d8)]:List d8):List d8)),?_⟩;cases hm;exact⟨(v8++([(⟨no,(v8.length:Int),0,(y7.length:Int),(a4y y7)⟩:d8)]:List d8)),rfl,sb 4⟩
def a0O(l:(List b9)):((List d8)×Int)→Option (Sum ((List d8)×Int) ((List d8)×Int)):=fun(out6,v7)=>
 if(decide (v7<(l.length:Int)))=true then
  (idx l v7).bind fun z1=>
  (a0L z1 v7).bind fun x1=>
  gd ((out6.length+x1.length)*48≤140737488355328∧out6.length+x1.length≤9223372036854775807)<|
  some (.inl ((out6++x1),(W (v7+1))))
 else
  some (.inr (out6,v7))
def a5L(l:(List b9)):Option (List d8):=
 (o8 (a0O l) ([],0)).bind fun(x1,z1)=>
 some x1
theorem a8f(l:(List b9))(r:(List d8))(hm:a5L l=some r):p0 Tryz.prog 72 [lD 8 l b9.c] (fun x=>x=lD 5 r d8.c):=by
 refine zn func72 rfl ?_;obtain⟨w1,he,u1⟩:=d9 hm;refine d5w (a0O l) (fun(out6,v7)=>⟨[(3,.row 0 5),(6,lD 8 l b9.c),(7,DI (l.length:Int)),(8,DI v7)],[(0,rE 5 out6 d8.c 53)],1⟩) ([],0) (sb 0) he ?_;rintro s1 ⟨out6,v7⟩ b hm x1;apply vb hm<;>intro _ hm;refine ei hm fun v1 hm=>?_
 refine cy hm (a6D v1 v7) fun z1 hm=>?_
 obtain⟨hg,hm⟩:=j0 hm;refine⟨hg,_,_,l6 (c:=d8.c) (l:=(out6:List d8)) (r:=(z1:List d8)),?_⟩;cases hm;exact⟨(_,((out6++z1),(W (v7+1)))),sb 1,x1,D6 _⟩;cases hm;cases x1;have hm:=u1;cases hm;exact d5v (d5t _)
abbrev b0H:MTy:=⟨114,119,9,[.int .i64,.int .i64,.int .i64],true,.string (⟨#[]⟩:ByteArray)⟩
theorem a7Z:b1q Tryz.prog tt b0H:=⟨by kernel_rfl,rfl,by kernel_rfl,by kernel_rfl,rfl⟩
abbrev a1y(k:E5):List Value:=[.int .i64 k.no,.int .i64 k.part,.int .i64 k.parts]
abbrev a4S(x:ByteArray):Value:=.string x
theorem a3n(a b:E5):a0j (a1y a) (D5 (H3 true (a1y b)))=decide (a=b):=by
 cases a;cases b;simp[a0j,eqV,D5,H3,and_assoc];rfl
abbrev a7Y(l:List (E5×ByteArray)):E:=.mp (mpE true a1y a4S l) b0H
abbrev b0G:MTy:=⟨115,3,3,[.int .i64],false,.int .i64 0⟩
theorem a1h:b1q Tryz.prog tt b0G:=⟨by kernel_rfl,rfl,by kernel_rfl,by kernel_rfl,rfl⟩
abbrev N2(k:Int):List Value:=[.int .i64 k]
abbrev X8(x:Int):Value:=.int .i64 x
theorem I0(a b:Int):a0j (N2 a) (D5 (H3 false (N2 b)))=decide (a=b):=by
 simp[a0j,eqV,D5,H3];rfl
abbrev a8i(l:List (Int×Int)):E:=.mp (mpE false N2 X8 l) b0G
def Q9(x:d8):List D:=[.agg (d8.c x)]
def L2(x1:(List d8)):Int→Option (List d8×Sum Int Int):=fun z1=>
 if(decide (z1<(x1.length:Int)))=true then
  (idx x1 z1).bind fun u1=>
  (a2b u1).bind fun v1=>
  if v1=true then
   emit u1<|
   some ([],.inl (W (z1+1)))
  else
   some ([],.inl (W (z1+1)))
 else
  some ([],.inr z1)
def a1I(c_0:n9):Option (List d8×Unit):=
 (a2H c_0).bind fun x1=>
 b8f (b5D (L2 x1) 0) fun z1=>
 some ([],())
theorem b4h(c_0:n9)(xs:List d8)(hm:a1I c_0=some (xs,())):a8W Tryz.prog 128 [.ptr [lD 5 c_0.Thread d8.c,lD 5 c_0.Loose d8.c] 0] (xs.map Q9):=by
 refine c2t (X:=⟨Tryz.prog,tt,Tryz.f128.ntmps,[],[],[],[],[],[]⟩) pok _ _ [] func128 rfl rfl (J6 rfl) rfl ?_;intro l;obtain⟨r,hr⟩:∃r:List d8×Unit,r=(xs,()):=⟨_,rfl⟩;rw[←hr]at hm;have hp:Hp3 Q9 [] r.1 [] (xs.map Q9):=⟨by rw[hr];simp⟩;clear hr;refine cy hm (a9m c_0) fun x1 hm=>?_
 obtain⟨t1,p1,he,q1,hb1,hb2⟩:=b5F hm;replace hp:=hp.in1 hb1;clear hb1 hb2;refine b3N.of (fun(lpx:Nat×Int)=>match lpx with|(u1,v1)=>(⟨[(0,.v (.func (.yield l) #[] #[])),(1,.ptr [lD 5 c_0.Thread d8.c,lD 5 c_0.Loose d8.c] 0),(6,lD 5 x1 d8.c),(7,DI (x1.length:Int)),(8,DI v1)],[],0⟩:Sy)) (fun lpx q=>∃e,a6w (L2 x1) lpx.1 lpx.2=some e∧Hp3 Q9 q e.1 _ _∧e.2=t1.2) (fun lpx=>lpx.1) (a0X,0) ⟨_,he,hp,rfl⟩ (sb 0) ?_
 clear hp he;rintro⟨u1,v1⟩ q ⟨n1,z1,hp,w1⟩;obtain⟨u1,b,tl,rfl,hm,hb1,z1⟩:=b6g z1;replace hp:=hp.in1 hb1;clear hb1;have hq:b.2=b.2:=rfl;apply vb hm<;>intro _ hm;refine ei hm fun s1 hm=>?_
 refine cy hm (b4c s1) fun k1 hm=>?_
 apply vb hm<;>intro _ hm;obtain⟨j1,hm,hb1,hb2⟩:=b8R hm;refine a6M.of (x':=Q9 s1) rfl rfl (d5v (d5t _)) (hp.pre hb1) ?_ ?_;replace hp:=hp.emit hb1;replace hq:=hq.trans hb2;cases hm;rw[hq]at z1;obtain⟨e2,hm,rfl,ht⟩:=z1;exact⟨(u1,(W (v1+1))),_,sb 0,rfl,⟨_,hm,hp.out rfl,ht.symm.trans w1⟩,D6 _⟩;exact .inl rfl;cases hm;rw[hq]at z1;obtain⟨e2,hm,rfl,ht⟩:=z1;exact⟨(u1,(W (v1+1))),_,sb 0,rfl,⟨_,hm,hp.out rfl,ht.symm.trans w1⟩,D6 _⟩;cases hm;rw[hq]at z1;obtain⟨rfl,ht⟩:=z1;replace hp:=(hp.out (l':=[]) rfl).out rfl;have hm:=q1
 try rw[←w1,ht]at hm
 clear hq;cases hm;exact .inr (Y7 some (hp.done rfl))
def U7:((List (E5×ByteArray))×(List (Int×Int)))→d8→Option (Sum ((List (E5×ByteArray))×(List (Int×Int))) Unit):=fun(v9,x1) y3=>
 if(!((E2 v9 (⟨y3.No,y3.Part,y3.Parts⟩:E5)).isSome))=true then
  if(!((E2 x1 y3.No).isSome))=true then
   if(y3.Part==0)=true then
    some (.inl ((a8C v9 (⟨y3.No,y3.Part,y3.Parts⟩:E5) y3.Text),(a8C x1 y3.No y3.Parts)))
   else
    some (.inl ((a8C v9 (⟨y3.No,y3.Part,y3.Parts⟩:E5) y3.Text),x1))
  else
   some (.inl ((a8C v9 (⟨y3.No,y3.Part,y3.Parts⟩:E5) y3.Text),x1))
 else
  if(!((E2 x1 y3.No).isSome))=true then
   if(y3.Part==0)=true then
    some (.inl (v9,(a8C x1 y3.No y3.Parts)))
   else
    some (.inl (v9,x1))
  else
   some (.inl (v9,x1))
def F8(v1:(List (E5×ByteArray)))(u1:(List (Int×Int)))(x1:Int):(ByteArray×Bool×Int)→Option (Sum (ByteArray×Bool×Int) (ByteArray×Bool×Int)):=fun(text68,fine69,z1)=>
 if(decide (z1<((E2 u1 x1).getD 0)))=true then
  gd (((text68.size+((E2 v1 (⟨x1,z1,((E2 u1 x1).getD 0)⟩:E5)).getD (⟨#[]⟩:ByteArray)).size:Nat):Int)≤9223372036854775807)<|
  if fine69=true then
   some (.inl ((text68++((E2 v1 (⟨x1,z1,((E2 u1 x1).getD 0)⟩:E5)).getD (⟨#[]⟩:ByteArray))),(E2 v1 (⟨x1,z1,((E2 u1 x1).getD 0)⟩:E5)).isSome,(W (z1+1))))
  else
   some (.inl ((text68++((E2 v1 (⟨x1,z1,((E2 u1 x1).getD 0)⟩:E5)).getD (⟨#[]⟩:ByteArray))),false,(W (z1+1))))
 else
  some (.inr (text68,fine69,z1))
def V3(w1:(List (E5×ByteArray)))(v1:(List (Int×Int))):((List b9)×Int)→Option (Sum ((List b9)×Int) ((List b9)×Int)):=fun(x1,z1)=>
 (o8 (F8 w1 v1 z1) ((⟨#[]⟩:ByteArray),(decide (((E2 v1 z1).getD 0)>0)),0)).bind fun(text75,fine76,q1)=>
 if(!fine76)=true then
  some (.inr (x1,z1))
 else
  (N6 text75).bind fun⟨u1,s1⟩=>
  if(!s1)=true then
   some (.inr (x1,z1))
  else
   (a3k x1 u1).bind fun t1=>
   if(!t1)=true then
    some (.inr (x1,z1))
   else
    gd ((x1.length+([u1]:List b9).length)*72≤140737488355328∧x1.length+([u1]:List b9).length≤9223372036854775807)<|
    some (.inl ((x1++([u1]:List b9)),(W (z1+1))))
def E9(b_:n9):Option (n9×(List b9)):=
 (a6x b_).bind fun x1=>
 (a1I x1).bind fun u1=>
 (U4 U7 u1.1 (([]:List (E5×ByteArray)),([]:List (Int×Int)))).bind fun e=>
 match e with
 |.inl (v1,w1)=>
  (o8 (V3 v1 w1) ([],0)).bind fun(z1,t1)=>
  (a5L z1).bind fun s1=>
  some ((⟨s1,[]⟩:n9),z1)
 |.inr _=>none
theorem a1E(b_:n9)(r:(n9×(List b9)))(hm:E9 b_=some r):p0 Tryz.prog 15 [.agg (n9.c b_)] (fun x=>x=.tup [.agg (n9.c r.1),lD 8 r.2 b9.c]):=by
 refine c5i (X:=⟨Tryz.prog,tt,Tryz.f15.ntmps,d5d,[],[],[],[],[]⟩) pok _ func15 rfl rfl (J6 rfl) ?_;intro ds;intro ds;refine⟨b0H,⟨rfl,a7Z⟩,?_⟩;intro ds;refine⟨b0G,⟨rfl,a1h⟩,?_⟩;intro ds;refine cy hm (b6W b_) fun x1 hm=>?_
 obtain⟨j1,h1,hm⟩:=d9 hm;obtain⟨g1,he,hm⟩:=d9 hm;refine a6A.ofZ (E:=Unit) Q9 j1.1 U7 (fun(lpx:((List (E5×ByteArray))×(List (Int×Int))))=>match lpx with|(v9,v1)=>(⟨[(0,.agg [lD 5 b_.Thread d8.c,lD 5 b_.Loose d8.c]),(1,.own 0 0),(2,.own 1 0),(3,nS),(4,.own 3 0),(5,.own 5 0)],[(0,.blk [lD 5 b_.Thread d8.c,lD 5 b_.Loose d8.c] 24),(1,.blk [nS,nS] 24),(2,a7Y v9),(3,.blk [.row 2 0] 114),(4,a8i v1),(5,.blk [.row 4 0] 115)],6⟩:Sy)) (fun(_:Unit)=>(⟨[],[],0⟩:Sy)) (fun _=>.ret) (([]:List (E5×ByteArray)),([]:List (Int×Int))) g1 [0,1,2,3,4,5] (b4h x1 j1.1 h1) he (c1s pok func128 rfl) rfl rfl (fun _=>rfl) rfl rfl rfl (by rintro⟨v9,v1⟩;rfl) (by intro _;rfl) (I1.of 6 rfl (tA rfl) ⟨hR rfl,hR rfl,⟨_,rfl,rfl⟩,hR rfl,⟨_,rfl,rfl⟩,hR rfl,trivial⟩) ?_ ?_ (fun _=>.inl rfl) ?_
 rintro⟨t1,u1⟩ rfl;intro ds;intro ds;intro ds;obtain⟨e1,he,n1⟩:=d9 hm;refine d5w (V3 t1 u1) (fun(w1,z1)=>⟨[(2,.own 1 0),(4,.own 3 0),(5,.own 5 0),(12,.row 6 8),(13,DI z1)],[(1,.blk [nS,nS] 24),(2,a7Y t1),(3,.blk [.row 2 0] 114),(4,a8i u1),(5,.blk [.row 4 0] 115),(6,rE 8 w1 b9.c 38)],7⟩) ([],0) (I1.of 6 rfl (tA rfl) ⟨hR rfl,⟨_,rfl,rfl⟩,hR rfl,⟨_,rfl,rfl⟩,hR rfl,⟨rfl,rfl⟩,trivial⟩) he ?_;rintro c1 ⟨w1,z1⟩ b hm p1;refine⟨rfl,?_⟩;refine⟨⟨a1h,rfl⟩,N2 z1,_,_,⟨rfl,⟨rfl,trivial⟩,a5o (ev:=X8) (z':=0) I0 rfl,a5E I0,rfl⟩,?_⟩;refine⟨⟨a1h,rfl⟩,N2 z1,_,_,⟨rfl,⟨rfl,trivial⟩,a5o (ev:=X8) (z':=0) I0 rfl,a5E I0,rfl⟩,?_⟩;obtain⟨b1,he,f1⟩:=d9 hm;refine d5w (F8 t1 u1 z1) (fun(text110,fine111,s1)=>⟨[(2,.own 1 0),(4,.own 3 0),(5,.own 5 0),(12,.row 6 8),(13,DI z1),(14,.v (.string text110)),(15,DB fine111),(72,DI ((E2 u1 z1).getD 0)),(73,DI s1)],[(1,.blk [nS,nS] 24),(2,a7Y t1),(3,.blk [.row 2 0] 114),(4,a8i u1),(5,.blk [.row 4 0] 115),(6,rE 8 w1 b9.c 38)],7⟩) ((⟨#[]⟩:ByteArray),(decide (((E2 u1 z1).getD 0)>0)),0) (I1.of 7 rfl (tA rfl) ⟨hR rfl,⟨_,rfl,rfl⟩,hR rfl,⟨_,rfl,rfl⟩,hR rfl,hW rfl,trivial⟩) he ?_;rintro a1 ⟨text110,fine111,s1⟩ b hm k1;apply vb hm<;>intro _ hm;refine⟨⟨a1h,rfl⟩,N2 z1,_,_,⟨rfl,⟨rfl,trivial⟩,a5o (ev:=X8) (z':=0) I0 rfl,a5E I0,rfl⟩,?_⟩;refine⟨⟨a7Z,rfl⟩,a1y (⟨z1,s1,((E2 u1 z1).getD 0)⟩:E5),_,_,⟨rfl,⟨rfl,rfl,rfl,trivial⟩,a5o (ev:=a4S) (z':=(⟨#[]⟩:ByteArray)) a3n rfl,a5E a3n,rfl⟩,?_⟩;obtain⟨hg,hm⟩:=j0 hm;refine⟨hg,?_⟩;apply vb hm<;>intro _ hm;cases hm;exact⟨(_,((text110++((E2 t1 (⟨z1,s1,((E2 u1 z1).getD 0)⟩:E5)).getD (⟨#[]⟩:ByteArray))),(E2 t1 (⟨z1,s1,((E2 u1 z1).getD 0)⟩:E5)).isSome,(W (s1+1)))),I1.of 7 rfl (tA rfl) ⟨hR rfl,⟨_,rfl,rfl⟩,hR rfl,⟨_,rfl,rfl⟩,hR rfl,hW rfl,trivial⟩,k1,D6 _⟩;cases hm;exact⟨(_,((text110++((E2 t1 (⟨z1,s1,((E2 u1 z1).getD 0)⟩:E5)).getD (⟨#[]⟩:ByteArray))),false,(W (s1+1)))),I1.of 7 rfl (tA rfl) ⟨hR rfl,⟨_,rfl,rfl⟩,hR rfl,⟨_,rfl,rfl⟩,hR rfl,hW rfl,trivial⟩,k1,D6 _⟩;cases hm;cases k1;have hm:=f1;apply vb hm<;>intro _ hm;cases hm;cases p1;have hm:=n1;intro ds;refine co hm (a8f w1) fun x2 hm=>?_
 intro ds;cases hm;exact d5v (le1);refine cy hm (b6O text110) ?_;rintro⟨q1,y2⟩ hm;apply vb hm<;>intro _ hm;cases hm;cases p1;have hm:=n1;intro ds;refine co hm (a8f w1) fun z2 hm=>?_
 intro ds;cases hm;exact d5v (le1);refine co hm (b2k w1 q1) fun u2 hm=>?_
 apply vb hm<;>intro _ hm;cases hm;cases p1;have hm:=n1;intro ds;refine co hm (a8f w1) fun v2 hm=>?_
 intro ds;cases hm;exact d5v (le1);refine⟨([q1]:List b9).flatMap b9.c,([q1]:List b9).length,⟨rfl,rfl⟩,?_⟩;obtain⟨hg,hm⟩:=j0 hm;refine⟨hg,_,_,l6 (c:=b9.c) (l:=(w1:List b9)) (r:=(([q1]:List b9):List b9)),?_⟩;cases hm;exact⟨(_,((w1++([q1]:List b9)),(W (z1+1)))),I1.of 7 rfl (tA rfl) ⟨hR rfl,⟨_,rfl,rfl⟩,hR rfl,⟨_,rfl,rfl⟩,hR rfl,hW rfl,trivial⟩,p1,D6 _⟩;rintro _ rfl;cases hm;clear he hm;rintro⟨v9,v1⟩ y3 b hm;refine⟨⟨a7Z,rfl⟩,a1y (⟨y3.No,y3.Part,y3.Parts⟩:E5),_,_,⟨rfl,⟨rfl,rfl,rfl,trivial⟩,a5o (ev:=a4S) (z':=(⟨#[]⟩:ByteArray)) a3n rfl,a5E a3n,rfl⟩,?_⟩;apply vb hm<;>intro _ hm;refine⟨⟨a7Z,rfl,rfl⟩,a1y (⟨y3.No,y3.Part,y3.Parts⟩:E5),_,⟨rfl,⟨rfl,rfl,rfl,trivial⟩,b9P (ev:=a4S) (v:=y3.Text) a3n⟩,?_⟩;refine⟨⟨a1h,rfl⟩,N2 y3.No,_,_,⟨rfl,⟨rfl,trivial⟩,a5o (ev:=X8) (z':=0) I0 rfl,a5E I0,rfl⟩,?_⟩;apply vb hm<;>intro _ hm;apply vb hm<;>intro _ hm;refine⟨⟨a1h,rfl,rfl⟩,N2 y3.No,_,⟨rfl,⟨rfl,trivial⟩,b9P (ev:=X8) (v:=y3.Parts) I0⟩,?_⟩;cases hm;exact⟨((a8C v9 (⟨y3.No,y3.Part,y3.Parts⟩:E5) y3.Text),(a8C v1 y3.No y3.Parts)),rfl,I1.of 6 rfl (tA rfl) ⟨hR rfl,hR rfl,⟨_,rfl,rfl⟩,hR rfl,⟨_,rfl,rfl⟩,hR rfl,trivial⟩⟩;cases hm;exact⟨((a8C v9 (⟨y3.No,y3.Part,y3.Parts⟩:E5) y3.Text),v1),rfl,I1.of 6 rfl (tA rfl) ⟨hR rfl,hR rfl,⟨_,rfl,rfl⟩,hR rfl,⟨_,rfl,rfl⟩,hR rfl,trivial⟩⟩;cases hm;exact⟨((a8C v9 (⟨y3.No,y3.Part,y3.Parts⟩:E5) y3.Text),v1),rfl,I1.of 6 rfl (tA rfl) ⟨hR rfl,hR rfl,⟨_,rfl,rfl⟩,hR rfl,⟨_,rfl,rfl⟩,hR rfl,trivial⟩⟩;refine⟨⟨a1h,rfl⟩,N2 y3.No,_,_,⟨rfl,⟨rfl,trivial⟩,a5o (ev:=X8) (z':=0) I0 rfl,a5E I0,rfl⟩,?_⟩;apply vb hm<;>intro _ hm;apply vb hm<;>intro _ hm;refine⟨⟨a1h,rfl,rfl⟩,N2 y3.No,_,⟨rfl,⟨rfl,trivial⟩,b9P (ev:=X8) (v:=y3.Parts) I0⟩,?_⟩;cases hm;exact⟨(v9,(a8C v1 y3.No y3.Parts)),rfl,I1.of 6 rfl (tA rfl) ⟨hR rfl,hR rfl,⟨_,rfl,rfl⟩,hR rfl,⟨_,rfl,rfl⟩,hR rfl,trivial⟩⟩;cases hm;exact⟨(v9,v1),rfl,I1.of 6 rfl (tA rfl) ⟨hR rfl,hR rfl,⟨_,rfl,rfl⟩,hR rfl,⟨_,rfl,rfl⟩,hR rfl,trivial⟩⟩;cases hm;exact⟨(v9,v1),rfl,I1.of 6 rfl (tA rfl) ⟨hR rfl,hR rfl,⟨_,rfl,rfl⟩,hR rfl,⟨_,rfl,rfl⟩,hR rfl,trivial⟩⟩
def X5(b_:n9):Option n9:=
 (a2H b_).bind fun x1=>
 some (⟨x1,[]⟩:n9)
theorem a7O(b_:n9)(r:n9)(hm:X5 b_=some r):p0 Tryz.prog 19 [.agg (n9.c b_)] (fun x=>x=.agg (n9.c r)):=by
 refine zn func19 rfl ?_;refine cy hm (a9m b_) fun x1 hm=>?_
 cases hm;exact d5v (le2)
def m8(s:List d8):Option (List d8):=gd (s.length*48≤140737488355328∧s.length≤9223372036854775807) (some s)
theorem X4(s:List d8)(r:List d8)(hm:m8 s=some r):p0 Tryz.prog 78 [.lst 5 s.length (s.flatMap d8.c)] (fun x=>x=.lst 5 r.length (r.flatMap d8.c)):=by
 obtain⟨hg,hm⟩:=j0 hm;cases hm;refine zn func78 rfl ?_;intro b hb;refine VIf.mk (fun h=>?_) (fun h=>?_)
 ·have h0:=hb h;have h1:s=[]:=a5Q h0;subst h1;exact d5v d5u
 ·refine⟨[],0,⟨rfl,rfl⟩,?_⟩;exact⟨by omega,s.flatMap d8.c,s.length,⟨rfl,a0k _⟩,d5v (d5t _)⟩
theorem K9(s:List d8)(r:List d8)(hm:m8 s=some r):b8M Tryz.prog 78 [.lst 5 s.length (s.flatMap d8.c)] 5 r.length (r.flatMap d8.c) 53:=by
 obtain⟨hg,hm⟩:=j0 hm;cases hm;refine c5h (X:=⟨Tryz.prog,tt,Tryz.f78.ntmps,[],[],[],[],[],[]⟩) pok _ func78 rfl rfl (J6 rfl) ?_;intro b hb;refine VIf.mk (fun h=>?_) (fun h=>?_)
 ·have h0:=hb h;have h1:s=[]:=a5Q h0;subst h1;exact⟨rfl,rfl⟩
 ·refine⟨[],0,⟨rfl,rfl⟩,?_⟩;exact⟨by omega,s.flatMap d8.c,s.length,⟨rfl,a0k _⟩,⟨rfl,rfl⟩⟩
def a2Y(picks:(List Int))(i:Int)(n:Int):Option Int:=
 if((picks.length:Int)==0)=true then
  some 0
 else
  gd ((picks.length:Int)≠0)<|
  (idx picks (i.tmod (picks.length:Int))).bind fun e2=>
  gd (n≠0)<|
  gd (n≠0)<|
  some ((W ((e2.tmod n)+n)).tmod n)
theorem b1U(picks:(List Int))(i:Int)(n:Int)(r:Int)(hm:a2Y picks i n=some r):p0 Tryz.prog 79 [lD 1 picks cI,DI i,DI n] (fun x=>x=DI r):=by
 refine zn func79 rfl ?_;apply vb hm<;>intro _ hm;exact hm.rr;obtain⟨hg,hm⟩:=j0 hm;refine⟨hg,?_⟩;refine ei hm fun _ hm=>?_
 obtain⟨hg,hm⟩:=j0 hm;refine⟨hg,?_⟩;obtain⟨hg,hm⟩:=j0 hm;refine⟨hg,?_⟩;exact hm.rr
def J4(s:(List d8))(i:Int)(v:(List d8)):Option (List d8):=
 gd (0≤i∧i.toNat≤s.length)<|
 if((v.length:Int)==0)=true then
  some s
 else
  if(i==(s.length:Int))=true then
   gd ((s.length+v.length)*48≤140737488355328∧s.length+v.length≤9223372036854775807)<|
   some (s++v)
  else
   gd (0≤i∧i.toNat<s.length∧0<v.length∧(s.length+v.length)*48≤140737488355328∧s.length+v.length≤9223372036854775807) (some (s.take i.toNat++v++s.drop i.toNat))
theorem a2X(s:(List d8))(i:Int)(v:(List d8))(r:(List d8))(hm:J4 s i v=some r):b5E Tryz.prog 80 5 s.length (s.flatMap d8.c) 53 [DI i,lD 5 v d8.c] 5 r.length (r.flatMap d8.c):=by
 obtain⟨hg0,hm⟩:=j0 hm;refine c6n (X:=⟨Tryz.prog,tt,Tryz.f80.ntmps,[],[],[],[],[],[]⟩) (t:=22) (tI:=3) (tB:=4) (ov:=132) (ty:=53) (args:=[lD 5 v d8.c]) pok func80 rfl rfl .mk .mk (J6 rfl) hg0 rfl rfl rfl rfl rfl rfl (by kernel_rfl) ⟨⟨_,4,func132,by kernel_rfl,by kernel_rfl,by kernel_rfl,by kernel_rfl⟩⟩ (by decide) ?_;apply vb hm<;>intro _ hm;cases hm;exact⟨rfl,rfl⟩;apply vb hm<;>intro _ hm;obtain⟨hg,hm⟩:=j0 hm;refine⟨hg,_,_,l6 (c:=d8.c) (l:=(s:List d8)) (r:=(v:List d8)),?_⟩;cases hm;exact⟨rfl,rfl⟩;obtain⟨hg,hm⟩:=j0 hm;cases hm;exact d4m (fun _=>rfl) hg
def a4z(s:ByteArray):Option ByteArray:=
 (P1 s).bind fun x1=>
 some x1
theorem b4l(s:ByteArray)(r:ByteArray)(hm:a4z s=some r):p0 Tryz.prog 81 [.v (.string s)] (fun x=>x=.v (.string r)):=by
 refine zn func81 rfl ?_;refine cy hm (a4A s) fun x1 hm=>?_
 cases hm;exact d5v (d5t _)
def V1(b_:n9)(picks:(List Int)):(Int×(List d8)×(List d8)×(List d8)×(List d8))→Option (Sum (Int×(List d8)×(List d8)×(List d8)×(List d8)) (Int×(List d8)×(List d8)×(List d8)×(List d8))):=fun(u1,v1,w1,s1,z1)=>
 if(decide (u1<(b_.Loose.length:Int)))=true then
  (idx b_.Loose u1).bind fun x1=>
  (a2Y picks (W (2*u1)) 4).bind fun t1=>
  if(t1==0)=true then
   some (.inl ((W (u1+1)),v1,w1,s1,z1))
  else
   if(t1==3)=true then
    (J4 z1 0 ([x1]:List d8)).bind fun n1=>
    some (.inl ((W (u1+1)),v1,w1,s1,n1))
   else
    if(t1==1)=true then
     if(decide ((x1.Text.size:Int)>0))=true then
      (a2Y picks (W ((W (2*u1))+1)) (x1.Text.size:Int)).bind fun q1=>
      gd ((0≤q1∧q1≤(x1.Text.size:Int)))<|
      (a4z (x1.Text.extract 0 ((q1).toNat))).bind fun p1=>
      gd ((z1.length+([(⟨x1.No,x1.Part,x1.Parts,x1.Size,p1⟩:d8)]:List d8).length)*48≤140737488355328∧z1.length+([(⟨x1.No,x1.Part,x1.Parts,x1.Size,p1⟩:d8)]:List d8).length≤9223372036854775807)<|
      some (.inl ((W (u1+1)),v1,w1,s1,(z1++([(⟨x1.No,x1.Part,x1.Parts,x1.Size,p1⟩:d8)]:List d8))))
     else
      gd ((z1.length+([x1]:List d8).length)*48≤140737488355328∧z1.length+([x1]:List d8).length≤9223372036854775807)<|
      some (.inl ((W (u1+1)),v1,w1,s1,(z1++([x1]:List d8))))
    else
     gd ((z1.length+([x1]:List d8).length)*48≤140737488355328∧z1.length+([x1]:List d8).length≤9223372036854775807)<|
     some (.inl ((W (u1+1)),v1,w1,s1,(z1++([x1]:List d8))))
 else
  some (.inr (u1,v1,w1,s1,z1))
def E6(b_:n9)(picks:(List Int)):Option n9:=
 (m8 b_.Thread).bind fun x1=>
 (o8 (V1 b_ picks) (0,[],[],[],[])).bind fun(u1,v1,w1,s1,z1)=>
 some (⟨x1,z1⟩:n9)
theorem a1A(b_:n9)(picks:(List Int))(r:n9)(hm:E6 b_ picks=some r):p0 Tryz.prog 21 [.agg (n9.c b_),lD 1 picks cI] (fun x=>x=.agg (n9.c r)):=by
 refine zy d4x [80,112,155,175] [78] [] func21 rfl ?_;obtain⟨x1,hx2,hm⟩:=d9 hm;refine .inl (a5X.mk ⟨_,_,_,_,K9 b_.Thread _ hx2,?_⟩);obtain⟨g1,he,n1⟩:=d9 hm;refine d5w (V1 b_ picks) (fun(v1,w1,s1,t1,u1)=>⟨[(1,lD 1 picks cI),(4,.own 1 0),(5,.own 3 0),(14,lD 5 b_.Loose d8.c),(15,DI (b_.Loose.length:Int)),(16,DI v1)],[(1,.blk [nS,nS] 24),(2,rE 5 x1 d8.c 53),(3,.blk [.row 2 5,.row 7 5] 24),(4,rE 5 w1 d8.c 53),(5,rE 5 s1 d8.c 53),(6,rE 5 t1 d8.c 53),(7,rE 5 u1 d8.c 53)],8⟩) (0,[],[],[],[]) (sb 4) he ?_;rintro f1 ⟨v1,w1,s1,t1,u1⟩ b hm q1;apply vb hm<;>intro _ hm;refine ei hm fun z1 hm=>?_
 refine cy hm (b1U picks (W (2*v1)) 4) fun e1 hm=>?_
 apply vb hm<;>intro _ hm;cases hm;exact⟨(_,((W (v1+1)),w1,s1,t1,u1)),sb 8,q1,D6 _⟩;apply vb hm<;>intro _ hm;refine⟨([z1]:List d8).flatMap d8.c,([z1]:List d8).length,⟨rfl,rfl⟩,?_⟩;obtain⟨k1,j1,hm⟩:=d9 hm;refine .inl (c4p.mk ⟨_,_,_,_,_,_,_,rfl,a2X u1 0 (([z1]:List d8)) _ j1,?_⟩);cases hm;exact⟨(_,((W (v1+1)),w1,s1,t1,k1)),sb 8,q1,D6 _⟩;apply vb hm<;>intro _ hm;apply vb hm<;>intro _ hm;refine⟨rfl,?_⟩;refine cy hm (b1U picks (W ((W (2*v1))+1)) ((z1.Text.size:Int))) fun h1 hm=>?_
 obtain⟨hg,hm⟩:=j0 hm;refine⟨hg,?_⟩;refine cy hm (b4l (z1.Text.extract 0 ((h1).toNat))) fun p1 hm=>?_
 refine⟨([(⟨z1.No,z1.Part,z1.Parts,z1.Size,p1⟩:d8)]:List d8).flatMap d8.c,([(⟨z1.No,z1.Part,z1.Parts,z1.Size,p1⟩:d8)]:List d8).length,⟨rfl,rfl⟩,?_⟩;obtain⟨hg,hm⟩:=j0 hm;refine⟨hg,_,_,l6 (c:=d8.c) (l:=(u1:List d8)) (r:=(([(⟨z1.No,z1.Part,z1.Parts,z1.Size,p1⟩:d8)]:List d8):List d8)),?_⟩;cases hm;exact⟨(_,((W (v1+1)),w1,s1,t1,(u1++([(⟨z1.No,z1.Part,z1.Parts,z1.Size,p1⟩:d8)]:List d8)))),sb 8,q1,D6 _⟩;refine⟨([z1]:List d8).flatMap d8.c,([z1]:List d8).length,⟨rfl,rfl⟩,?_⟩;obtain⟨hg,hm⟩:=j0 hm;refine⟨hg,_,_,l6 (c:=d8.c) (l:=(u1:List d8)) (r:=(([z1]:List d8):List d8)),?_⟩;cases hm;exact⟨(_,((W (v1+1)),w1,s1,t1,(u1++([z1]:List d8)))),sb 8,q1,D6 _⟩;refine⟨([z1]:List d8).flatMap d8.c,([z1]:List d8).length,⟨rfl,rfl⟩,?_⟩;obtain⟨hg,hm⟩:=j0 hm;refine⟨hg,_,_,l6 (c:=d8.c) (l:=(u1:List d8)) (r:=(([z1]:List d8):List d8)),?_⟩;cases hm;exact⟨(_,((W (v1+1)),w1,s1,t1,(u1++([z1]:List d8)))),sb 8,q1,D6 _⟩;cases hm;cases q1;have hm:=n1;cases hm;exact d5v (d5t _)
def S8(l:(List b9)):Int→Option (Sum Int (Sum Int Bool)):=fun x1=>
 if(decide (x1<(l.length:Int)))=true then
  (idx l x1).bind fun z1=>
  (w7 z1).bind fun u1=>
  if(!u1)=true then
   some (.inr (.inr false))
  else
   gd ((0≤x1∧x1≤(l.length:Int)))<|
   Option.bind (some (sub l 0 (x1).toNat)) fun v1=>
   (a3k v1 z1).bind fun w1=>
   if(!w1)=true then
    some (.inr (.inr false))
   else
    some (.inl (W (x1+1)))
 else
  some (.inr (.inl x1))
def a0o(l:(List b9)):Option Bool:=
 (o8 (S8 l) 0).bind fun e=>
 match e with
 |.inl z1=>
  some true
 |.inr x1=>
  some x1
theorem b0F(l:(List b9))(r:Bool)(hm:a0o l=some r):p0 Tryz.prog 107 [lD 8 l b9.c] (fun x=>x=DB r):=by
 refine zy d2P [] [] [] func107 rfl ?_;obtain⟨s1,he,u1⟩:=d9 hm;refine d5w (S8 l) (fun x1=>⟨[(0,lD 8 l b9.c),(5,lD 8 l b9.c),(6,DI (l.length:Int)),(7,DI x1)],[],0⟩) 0 (sb 0) he ?_;rintro t1 x1 b hm z1;apply vb hm<;>intro _ hm;refine ei hm fun v1 hm=>?_
 refine⟨rfl,?_⟩;refine cy hm (C9 v1) fun q1 hm=>?_
 apply vb hm<;>intro _ hm;cases hm;cases z1;have hm:=u1;exact hm.rr;obtain⟨hg,hm⟩:=j0 hm;obtain⟨w1,hy,hm⟩:=d9 hm;refine⟨hg,_,(S1 (c:=b9.c) (z:=8) (fun _=>rfl) _ _ _).trans (Y7 _ (E0 hy)),?_⟩;have hl:w1.length=(x1).toNat-0:=by rw[←E0 hy];exact a0r (by omega)
 rw[←hl];refine cy hm (b2k w1 v1) fun p1 hm=>?_
 apply vb hm<;>intro _ hm;cases hm;cases z1;have hm:=u1;exact hm.rr;cases hm;exact⟨(_,(W (x1+1))),sb 0,z1,D6 _⟩;cases hm;cases z1;have hm:=u1;exact hm.rr
def D1(s1:(List d8))(s2:(List d8)):Int→Option (Sum Int (Sum Int Bool)):=fun v8=>
 if(decide (v8<(s1.length:Int)))=true then
  (idx s1 v8).bind fun x1=>
  (idx s2 v8).bind fun z1=>
  if(!((x1.No==z1.No)&&((x1.Part==z1.Part)&&((x1.Parts==z1.Parts)&&((x1.Size==z1.Size)&&(x1.Text.toList==z1.Text.toList))))))=true then
   some (.inr (.inr false))
  else
   some (.inl (W (v8+1)))
 else
  some (.inr (.inl v8))
def E8(s1:(List d8))(s2:(List d8)):Option Bool:=
 if((s1.length:Int) !=(s2.length:Int))=true then
  some false
 else
  (o8 (D1 s1 s2) 0).bind fun e=>
  match e with
  |.inl z1=>
   some true
  |.inr x1=>
   some x1
theorem a3m(s1:(List d8))(s2:(List d8))(r:Bool)(hm:E8 s1 s2=some r):p0 Tryz.prog 135 [lD 5 s1 d8.c,lD 5 s2 d8.c] (fun x=>x=DB r):=by
 refine zy d3v [] [] [] func135 rfl ?_;apply vb hm<;>intro _ hm;exact hm.rr;obtain⟨u1,he,z1⟩:=d9 hm;refine d5w (D1 s1 s2) (fun v8=>⟨[(0,lD 5 s1 d8.c),(1,lD 5 s2 d8.c),(12,DI (s1.length:Int)),(13,DI v8)],[],0⟩) 0 (sb 0) he ?_;rintro v1 v8 b hm x1;apply vb hm<;>intro _ hm;refine⟨rfl,?_⟩;refine ei hm fun _ hm=>?_
 refine ei hm fun _ hm=>?_
 apply vb hm<;>intro _ hm;cases hm;cases x1;have hm:=z1;exact hm.rr;cases hm;exact⟨(_,(W (v8+1))),sb 0,x1,D6 _⟩;cases hm;cases x1;have hm:=z1;exact hm.rr
def a0n(b_:n9)(written:(List b9)):Option Bool:=
 (a0o written).bind fun x1=>
 if x1=true then
  (a2H b_).bind fun x4=>
  (a5L written).bind fun x6=>
  (E8 x4 x6).bind fun x8=>
  some x8
 else
  some false
theorem b2u(b_:n9)(written:(List b9))(r:Bool)(hm:a0n b_ written=some r):p0 Tryz.prog 83 [.agg (n9.c b_),lD 8 written b9.c] (fun x=>x=DB r):=by
 refine zn func83 rfl ?_;refine cy hm (b0F written) fun x1 hm=>?_
 apply vb hm<;>intro _ hm;refine cy hm (a9m b_) fun x4 hm=>?_
 refine cy hm (a8f written) fun x6 hm=>?_
 refine cy hm (a3m x4 x6) fun x8 hm=>?_
 exact hm.rr;exact hm.rr
def E7(b_:I4):(Int×Int×Int)→Option (Sum (Int×Int×Int) (Sum (Int×Int×Int) Bool)):=fun(z1,u1,v1)=>
 if(decide (z1<(b_.Records.length:Int)))=true then
  (idx b_.Records z1).bind fun x1=>
  if(x1.At.Depot==u1)=true then
   if(x1.At.No==(W (v1+1)))=true then
    (w7 x1).bind fun w1=>
    if(!w1)=true then
     some (.inr (.inr false))
    else
     some (.inl ((W (z1+1)),x1.At.Depot,x1.At.No))
   else
    if(decide (x1.At.Depot>u1))=true then
     (w7 x1).bind fun s1=>
     if(!s1)=true then
      some (.inr (.inr false))
     else
      if(!(x1.At.No==0))=true then
       some (.inr (.inr false))
      else
       some (.inl ((W (z1+1)),x1.At.Depot,x1.At.No))
    else
     (w7 x1).bind fun t1=>
     if(!t1)=true then
      some (.inr (.inr false))
     else
      some (.inr (.inr false))
  else
   if(decide (x1.At.Depot>u1))=true then
    (w7 x1).bind fun q1=>
    if(!q1)=true then
     some (.inr (.inr false))
    else
     if(!(x1.At.No==0))=true then
      some (.inr (.inr false))
     else
      some (.inl ((W (z1+1)),x1.At.Depot,x1.At.No))
   else
    (w7 x1).bind fun p1=>
    if(!p1)=true then
     some (.inr (.inr false))
    else
     some (.inr (.inr false))
 else
  some (.inr (.inl (z1,u1,v1)))
def a0f(b_:I4):Option Bool:=
 (o8 (E7 b_) (0,(-1),0)).bind fun e=>
 match e with
 |.inl (z1,u1,v1)=>
  some (decide ((b_.Records.length:Int)≤60))
 |.inr x1=>
  some x1
theorem b5e(b_:I4)(r:Bool)(hm:a0f b_=some r):p0 Tryz.prog 101 [.agg (I4.c b_)] (fun x=>x=DB r):=by
 refine zn func101 rfl ?_;obtain⟨t1,he,u1⟩:=d9 hm;refine d5w (E7 b_) (fun(v1,w1,s1)=>⟨[(1,.own 0 0),(3,.own 1 0),(9,lD 8 b_.Records b9.c),(10,DI (b_.Records.length:Int)),(11,DI v1)],[(0,.blk [lD 8 b_.Records b9.c] 70),(1,.blk [DI w1,DI s1] 36)],2⟩) (0,(-1),0) (sb 2) he ?_;rintro q1 ⟨v1,w1,s1⟩ b hm x1;apply vb hm<;>intro _ hm;refine ei hm fun z1 hm=>?_
 apply vb hm<;>intro _ hm;apply vb hm<;>intro _ hm;refine cy hm (C9 z1) fun p1 hm=>?_
 apply vb hm<;>intro _ hm;cases hm;cases x1;have hm:=u1;exact hm.rr;cases hm;exact⟨(_,((W (v1+1)),z1.At.Depot,z1.At.No)),sb 2,x1,D6 _⟩;apply vb hm<;>intro _ hm;refine cy hm (C9 z1) fun n1 hm=>?_
 apply vb hm<;>intro _ hm;cases hm;cases x1;have hm:=u1;exact hm.rr;apply vb hm<;>intro _ hm;cases hm;cases x1;have hm:=u1;exact hm.rr;cases hm;exact⟨(_,((W (v1+1)),z1.At.Depot,z1.At.No)),sb 2,x1,D6 _⟩;refine cy hm (C9 z1) fun k1 hm=>?_
 apply vb hm<;>intro _ hm;cases hm;cases x1;have hm:=u1;exact hm.rr;cases hm;cases x1;have hm:=u1;exact hm.rr;apply vb hm<;>intro _ hm;refine cy hm (C9 z1) fun j1 hm=>?_
 apply vb hm<;>intro _ hm;cases hm;cases x1;have hm:=u1;exact hm.rr;apply vb hm<;>intro _ hm;cases hm;cases x1;have hm:=u1;exact hm.rr;cases hm;exact⟨(_,((W (v1+1)),z1.At.Depot,z1.At.No)),sb 2,x1,D6 _⟩;refine cy hm (C9 z1) fun h1 hm=>?_
 apply vb hm<;>intro _ hm;cases hm;cases x1;have hm:=u1;exact hm.rr;cases hm;cases x1;have hm:=u1;exact hm.rr;cases hm;cases x1;have hm:=u1;exact hm.rr
def l3(s:List b9):Option (List b9):=gd (s.length*72≤140737488355328∧s.length≤9223372036854775807) (some s)
theorem a1R(s:List b9)(r:List b9)(hm:l3 s=some r):p0 Tryz.prog 102 [.lst 8 s.length (s.flatMap b9.c)] (fun x=>x=.lst 8 r.length (r.flatMap b9.c)):=by
 obtain⟨hg,hm⟩:=j0 hm;cases hm;refine zn func102 rfl ?_;intro b hb;refine VIf.mk (fun h=>?_) (fun h=>?_)
 ·have h0:=hb h;have h1:s=[]:=a5Q h0;subst h1;exact d5v d5u
 ·refine⟨[],0,⟨rfl,rfl⟩,?_⟩;exact⟨by omega,s.flatMap b9.c,s.length,⟨rfl,a0k _⟩,d5v (d5t _)⟩
theorem o9(s:List b9)(r:List b9)(hm:l3 s=some r):b8M Tryz.prog 102 [.lst 8 s.length (s.flatMap b9.c)] 8 r.length (r.flatMap b9.c) 38:=by
 obtain⟨hg,hm⟩:=j0 hm;cases hm;refine c5h (X:=⟨Tryz.prog,tt,Tryz.f102.ntmps,[],[],[],[],[],[]⟩) pok _ func102 rfl rfl (J6 rfl) ?_;intro b hb;refine VIf.mk (fun h=>?_) (fun h=>?_)
 ·have h0:=hb h;have h1:s=[]:=a5Q h0;subst h1;exact⟨rfl,rfl⟩
 ·refine⟨[],0,⟨rfl,rfl⟩,?_⟩;exact⟨by omega,s.flatMap b9.c,s.length,⟨rfl,a0k _⟩,⟨rfl,rfl⟩⟩
def a0C(vals:(List Int)):Int→Option (Sum Int (Sum Int Int)):=fun v5=>
 if(decide (v5<(vals.length:Int)))=true then
  (idx vals v5).bind fun x1=>
  if(x1 !=0)=true then
   some (.inr (.inr x1))
  else
   some (.inl (W (v5+1)))
 else
  some (.inr (.inl v5))
def a4X(vals:(List Int)):Option Int:=
 (o8 (a0C vals) 0).bind fun e=>
 match e with
 |.inl z1=>
  some 0
 |.inr x1=>
  some x1
theorem c0m(vals:(List Int))(r:Int)(hm:a4X vals=some r):p0 Tryz.prog 165 [lD 1 vals cI] (fun x=>x=DI r):=by
 refine zn func165 rfl ?_;obtain⟨u1,he,z1⟩:=d9 hm;refine d5w (a0C vals) (fun v5=>⟨[(3,DI 0),(6,lD 1 vals cI),(7,DI (vals.length:Int)),(8,DI v5)],[],0⟩) 0 (sb 0) he ?_;rintro v1 v5 b hm x1;apply vb hm<;>intro _ hm;refine ei hm fun _ hm=>?_
 apply vb hm<;>intro _ hm;cases hm;cases x1;have hm:=z1;exact hm.rr;cases hm;exact⟨(_,(W (v5+1))),sb 0,x1,D6 _⟩;cases hm;cases x1;have hm:=z1;exact hm.rr
def a2g(x:Int):Option Bool:=
 some (x !=x)
theorem a8t(x:Int)(r:Bool)(hm:a2g x=some r):p0 Tryz.prog 178 [DI x] (fun x=>x=DB r):=by
 refine zn func178 rfl ?_;exact hm.rr
def W9(x:Int)(y:Int):Option Int:=
 (a2g x).bind fun x1=>
 (a2g y).bind fun x3=>
 if x1=true then
  if x3=true then
   some 0
  else
   some (-1)
 else
  if x3=true then
   some 1
  else
   if(decide (x<y))=true then
    some (-1)
   else
    if(decide (x>y))=true then
     some 1
    else
     some 0
theorem a6q(x:Int)(y:Int)(r:Int)(hm:W9 x y=some r):p0 Tryz.prog 166 [DI x,DI y] (fun x=>x=DI r):=by
 refine zn func166 rfl ?_;refine cy hm (a8t x) fun x1 hm=>?_
 refine cy hm (a8t y) fun x3 hm=>?_
 apply vb hm<;>intro _ hm;apply vb hm<;>intro _ hm;exact hm.rr;exact hm.rr;apply vb hm<;>intro _ hm;exact hm.rr;apply vb hm<;>intro _ hm;exact hm.rr;apply vb hm<;>intro _ hm;exact hm.rr;exact hm.rr
def a4w(a:o4)(b_:o4):Option Int:=
 (W9 a.Depot b_.Depot).bind fun x1=>
 (W9 a.No b_.No).bind fun x3=>
 (a4X ([x1,x3]:List Int)).bind fun x5=>
 some x5
theorem b4f(a:o4)(b_:o4)(r:Int)(hm:a4w a b_=some r):p0 Tryz.prog 147 [.agg (o4.c a),.agg (o4.c b_)] (fun x=>x=DI r):=by
 refine zy d3w [] [] [] func147 rfl ?_;refine⟨rfl,?_⟩;refine cy hm (a6q a.Depot b_.Depot) fun x1 hm=>?_
 refine cy hm (a6q a.No b_.No) fun x3 hm=>?_
 refine⟨([x1,x3]:List Int).flatMap cI,([x1,x3]:List Int).length,⟨rfl,rfl⟩,?_⟩;refine co hm (c0m (([x1,x3]:List Int))) fun x5 hm=>?_
 exact hm.rr
def a1r(r_:b9)(at_:o4):Option Int:=
 (a4w r_.At at_).bind fun x1=>
 some x1
theorem a9e(r_:b9)(at_:o4)(r:Int)(hm:a1r r_ at_=some r):p0 Tryz.prog 146 [.agg (b9.c r_),.agg (o4.c at_)] (fun x=>x=DI r):=by
 refine zn func146 rfl ?_;refine cy hm (b4f r_.At at_) fun x1 hm=>?_
 exact hm.rr
def m9(x:(List b9))(target:o4):(Int×Int)→Option (Sum (Int×Int) (Int×Int)):=fun(i7,j8)=>
 if(decide (i7<j8))=true then
  (idx x (W ((IntKind.u64.wrap (W (i7+j8))).fdiv (2^(min (1:Int).toNat IntKind.u64.bits))))).bind fun x1=>
  (a1r x1 target).bind fun z1=>
  if(decide (z1<0))=true then
   some (.inl ((W ((W ((IntKind.u64.wrap (W (i7+j8))).fdiv (2^(min (1:Int).toNat IntKind.u64.bits))))+1)),j8))
  else
   some (.inl (i7,(W ((IntKind.u64.wrap (W (i7+j8))).fdiv (2^(min (1:Int).toNat IntKind.u64.bits))))))
 else
  some (.inr (i7,j8))
def r7(x:(List b9))(target:o4):Option (Int×Bool):=
 (o8 (m9 x target) (0,(x.length:Int))).bind fun(x1,v1)=>
 if(decide (x1<(x.length:Int)))=true then
  (idx x x1).bind fun z1=>
  (a1r z1 target).bind fun u1=>
  some (x1,(u1==0))
 else
  some (x1,false)
theorem G6(x:(List b9))(target:o4)(r:(Int×Bool))(hm:r7 x target=some r):p0 Tryz.prog 145 [lD 8 x b9.c,.agg (o4.c target),.fn 146 [] []] (fun x=>x=.tup [DI r.1,DB r.2]):=by
 refine zy d2W [] [] [] func145 rfl ?_;obtain⟨w1,he,z1⟩:=d9 hm;refine d5w (m9 x target) (fun(i7,j8)=>⟨[(0,lD 8 x b9.c),(2,.fn 146 [] []),(4,.own 0 0),(8,DI (x.length:Int)),(9,DI i7),(10,DI j8)],[(0,.blk [DI target.Depot,DI target.No] 36)],1⟩) (0,(x.length:Int)) (sb 1) he ?_;rintro s1 ⟨i7,j8⟩ b hm x1;apply vb hm<;>intro _ hm;refine⟨by decide,?_⟩;refine⟨rfl,?_⟩;refine ei hm fun u1 hm=>?_
 refine cy hm (a9e u1 target) fun t1 hm=>?_
 apply vb hm<;>intro _ hm;cases hm;exact⟨(_,((W ((W ((IntKind.u64.wrap (W (i7+j8))).fdiv (2^(min (1:Int).toNat IntKind.u64.bits))))+1)),j8)),sb 1,x1,D6 _⟩;cases hm;exact⟨(_,(i7,(W ((IntKind.u64.wrap (W (i7+j8))).fdiv (2^(min (1:Int).toNat IntKind.u64.bits)))))),sb 1,x1,D6 _⟩;cases hm;cases x1;have hm:=z1;refine⟨rfl,?_⟩;apply vb hm<;>intro _ hm;refine ei hm fun v1 hm=>?_
 refine cy hm (a9e v1 target) fun q1 hm=>?_
 cases hm;exact d5v (d5t _);cases hm;exact d5v (d5t _)
def a1H(b_:I4)(at_:o4):Option (Int×Bool):=
 (r7 b_.Records at_).bind fun⟨x1,x2⟩=>
 some (x1,x2)
theorem b9U(b_:I4)(at_:o4)(r:(Int×Bool))(hm:a1H b_ at_=some r):p0 Tryz.prog 103 [.agg (I4.c b_),.agg (o4.c at_)] (fun x=>x=.tup [DI r.1,DB r.2]):=by
 refine zn func103 rfl ?_;refine cy hm (G6 b_.Records at_) ?_;rintro⟨x1,x2⟩ hm;cases hm;exact d5v (d5t _)
def a1e(b_:I4)(r_:b9):Option (I4×Int):=
 (a0f b_).bind fun x1=>
 if(!x1)=true then
  some ((⟨[]⟩:I4),81)
 else
  (w7 r_).bind fun x4=>
  if(!x4)=true then
   some ((⟨[]⟩:I4),80)
  else
   (a1H b_ r_.At).bind fun⟨x7,x8⟩=>
   if x8=true then
    (idx b_.Records x7).bind fun z1=>
    if((z1.At.Depot==r_.At.Depot)&&((z1.At.No==r_.At.No)&&((z1.Kind==r_.Kind)&&((z1.Day==r_.Day)&&((z1.Known==r_.Known)&&((z1.Of.Depot==r_.Of.Depot)&&((z1.Of.No==r_.Of.No)&&(z1.Text.toList==r_.Text.toList))))))))=true then
     (D8 b_.Records).bind fun w1=>
     some (w1,0)
    else
     some ((⟨[]⟩:I4),82)
   else
    (V8 b_.Records).bind fun u1=>
    (idx [u1.1,u1.2.1,u1.2.2.1,u1.2.2.2.1,u1.2.2.2.2.1,u1.2.2.2.2.2] r_.At.Depot).bind fun s1=>
    if(decide (s1<r_.At.No))=true then
     some ((⟨[]⟩:I4),83)
    else
     if((b_.Records.length:Int)==60)=true then
      some ((⟨[]⟩:I4),2)
     else
      (l3 b_.Records).bind fun v1=>
      gd ((v1.length+([r_]:List b9).length)*72≤140737488355328∧v1.length+([r_]:List b9).length≤9223372036854775807)<|
      (D8 (v1++([r_]:List b9))).bind fun t1=>
      some (t1,0)
theorem c0P(b_:I4)(r_:b9)(r:(I4×Int))(hm:a1e b_ r_=some r):p0 Tryz.prog 46 [.agg (I4.c b_),.agg (b9.c r_)] (fun x=>x=.tup [.agg (I4.c r.1),DI r.2]):=by
 refine zy d5e [80,112,155,175] [102] [] func46 rfl ?_;refine cy hm (b5e b_) fun x1 hm=>?_
 apply vb hm<;>intro _ hm;cases hm;exact d5v (le3);refine cy hm (C9 r_) fun x4 hm=>?_
 apply vb hm<;>intro _ hm;cases hm;exact d5v (le3);refine cy hm (b9U b_ r_.At) ?_;rintro⟨x7,x8⟩ hm;refine⟨rfl,?_⟩;apply vb hm<;>intro z1 hm;refine ei hm fun _ hm=>?_
 apply vb hm<;>intro _ hm;refine cy hm (a3t b_.Records) fun q1 hm=>?_
 cases hm;exact d5v (d5t _);refine VIf.t z1 ?_;cases hm;exact d5v (le3);refine VIf.f z1 ?_;refine⟨rfl,?_⟩;refine cy hm (a2O b_.Records) fun p1 hm=>?_
 obtain⟨n1,u1,hm⟩:=d9 hm;refine⟨a2x u1,_,a3K (c:=cI) (z:=1) (fun _=>rfl) u1 rfl (by omega) rfl,?_⟩;apply vb hm<;>intro _ hm;cases hm;exact d5v (le3);apply vb hm<;>intro _ hm;cases hm;exact d5v (le3);refine⟨rfl,?_⟩;refine⟨?_,?_⟩;obtain⟨v1,s1,hm⟩:=d9 hm;refine .inl (a5X.mk ⟨_,_,_,_,o9 b_.Records _ s1,?_⟩);refine⟨([r_]:List b9).flatMap b9.c,([r_]:List b9).length,⟨rfl,rfl⟩,?_⟩;obtain⟨hg,hm⟩:=j0 hm;refine⟨hg,_,_,l6 (c:=b9.c) (l:=(v1:List b9)) (r:=(([r_]:List b9):List b9)),?_⟩;refine co hm (a3t ((v1++([r_]:List b9)))) fun k1 hm=>?_
 cases hm;exact d5v (d5t _);refine⟨([r_]:List b9).flatMap b9.c,([r_]:List b9).length,⟨rfl,rfl⟩,?_⟩;obtain⟨w1,t1,hm⟩:=d9 hm;refine .inl (a5X.mk ⟨_,_,_,_,o9 b_.Records _ t1,?_⟩);obtain⟨hg,hm⟩:=j0 hm;refine⟨hg,_,_,l6 (c:=b9.c) (l:=(w1:List b9)) (r:=(([r_]:List b9):List b9)),?_⟩;refine co hm (a3t ((w1++([r_]:List b9)))) fun j1 hm=>?_
 cases hm;exact d5v (d5t _)
def s9(s:(List b9))(v:b9):Int→Option (Sum Int (Sum Int Int)):=fun v5=>
 if(decide (v5<(s.length:Int)))=true then
  (idx s v5).bind fun x1=>
  if((v.At.Depot==x1.At.Depot)&&((v.At.No==x1.At.No)&&((v.Kind==x1.Kind)&&((v.Day==x1.Day)&&((v.Known==x1.Known)&&((v.Of.Depot==x1.Of.Depot)&&((v.Of.No==x1.Of.No)&&(v.Text.toList==x1.Text.toList))))))))=true then
   some (.inr (.inr v5))
  else
   some (.inl (W (v5+1)))
 else
  some (.inr (.inl v5))
def G3(s:(List b9))(v:b9):Option Int:=
 (o8 (s9 s v) 0).bind fun e=>
 match e with
 |.inl z1=>
  some (-1)
 |.inr x1=>
  some x1
theorem a1S(s:(List b9))(v:b9)(r:Int)(hm:G3 s v=some r):p0 Tryz.prog 161 [lD 8 s b9.c,.agg (b9.c v)] (fun x=>x=DI r):=by
 refine zy d2Z [] [] [] func161 rfl ?_;obtain⟨u1,he,z1⟩:=d9 hm;refine d5w (s9 s v) (fun v5=>⟨[(0,lD 8 s b9.c),(3,.own 0 0),(7,DI (s.length:Int)),(8,DI v5)],[(0,.blk (b9.c v) 38)],1⟩) 0 (sb 1) he ?_;rintro v1 v5 b hm x1;apply vb hm<;>intro _ hm;refine⟨rfl,?_⟩;refine ei hm fun _ hm=>?_
 apply vb hm<;>intro _ hm;cases hm;cases x1;have hm:=z1;exact hm.rr;cases hm;exact⟨(_,(W (v5+1))),sb 1,x1,D6 _⟩;cases hm;cases x1;have hm:=z1;exact hm.rr
def y0(s:(List b9))(v:b9):Option Bool:=
 (G3 s v).bind fun x1=>
 some (decide (x1≥0))
theorem a0W(s:(List b9))(v:b9)(r:Bool)(hm:y0 s v=some r):p0 Tryz.prog 136 [lD 8 s b9.c,.agg (b9.c v)] (fun x=>x=DB r):=by
 refine zn func136 rfl ?_;refine cy hm (a1S s v) fun x1 hm=>?_
 exact hm.rr
def F3(b_:n9):Option n9:=
 (m8 b_.Thread).bind fun x1=>
 (m8 b_.Loose).bind fun x3=>
 some (⟨x1,x3⟩:n9)
theorem b5S(b_:n9)(r:n9)(hm:F3 b_=some r):p0 Tryz.prog 137 [.agg (n9.c b_)] (fun x=>x=.agg (n9.c r)):=by
 refine zy d0Q [] [] [] func137 rfl ?_;refine⟨rfl,?_⟩;obtain⟨x1,hx2,hm⟩:=d9 hm;refine b0t.det (X4 b_.Thread _ hx2) ?_;obtain⟨x3,hx4,hm⟩:=d9 hm;refine b0t.det (X4 b_.Loose _ hx4) ?_;cases hm;exact d5v (d5t _)
theorem a2c(b_:n9)(r:n9)(hm:F3 b_=some r):b8m Tryz.prog 137 [.agg (n9.c b_)] [(5,r.Thread.length,r.Thread.flatMap d8.c,53),(5,r.Loose.length,r.Loose.flatMap d8.c,53)] [.row 0 5,.row 1 5]:=by
 refine c5b (X:=⟨Tryz.prog,tt,Tryz.f137.ntmps,d0Q,[80,112,155,175],[78],[],[],[]⟩) pok _ func137 rfl rfl (J6 rfl) rfl ?_;refine⟨rfl,?_⟩;obtain⟨x1,hx2,hm⟩:=d9 hm;refine .inl (a5X.mk ⟨_,_,_,_,K9 b_.Thread _ hx2,?_⟩);obtain⟨x3,hx4,hm⟩:=d9 hm;refine .inl (a5X.mk ⟨_,_,_,_,K9 b_.Loose _ hx4,?_⟩);cases hm;exact⟨rfl,⟨⟨rfl,rfl,rfl,rfl⟩,⟨⟨rfl,rfl,rfl,rfl⟩,rfl⟩⟩⟩
def Q2(b_:n9)(written:(List b9))(r_:b9):Option (n9×(List b9)×Int):=
 (y0 written r_).bind fun x1=>
 if x1=true then
  (F3 b_).bind fun x4=>
  (l3 written).bind fun x6=>
  some (x4,x6,0)
 else
  (D8 written).bind fun x8=>
  (a1e x8 r_).bind fun⟨s1,w1⟩=>
  if(w1 !=0)=true then
   some ((⟨[],[]⟩:n9),[],w1)
  else
   (F3 b_).bind fun z1=>
   (a0L r_ (written.length:Int)).bind fun u1=>
   gd ((z1.Loose.length+u1.length)*48≤140737488355328∧z1.Loose.length+u1.length≤9223372036854775807)<|
   (l3 written).bind fun v1=>
   gd ((v1.length+([r_]:List b9).length)*72≤140737488355328∧v1.length+([r_]:List b9).length≤9223372036854775807)<|
   some ((⟨z1.Thread,(z1.Loose++u1)⟩:n9),(v1++([r_]:List b9)),0)
theorem a6z(b_:n9)(written:(List b9))(r_:b9)(r:(n9×(List b9)×Int))(hm:Q2 b_ written r_=some r):p0 Tryz.prog 84 [.agg (n9.c b_),lD 8 written b9.c,.agg (b9.c r_)] (fun x=>x=.tup [.agg (n9.c r.1),lD 8 r.2.1 b9.c,DI r.2.2]):=by
 refine zy d4O [80,112,155,175] [102,137] [] func84 rfl ?_;refine cy hm (a0W written r_) fun x1 hm=>?_
 apply vb hm<;>intro _ hm;obtain⟨x4,hx5,hm⟩:=d9 hm;refine .inr (b3r.mk ⟨_,_,a2c b_ _ hx5,?_⟩);obtain⟨x6,hx7,hm⟩:=d9 hm;refine .inl (a5X.mk ⟨_,_,_,_,o9 written _ hx7,?_⟩);cases hm;exact d5v (d5t _);refine⟨rfl,?_⟩;refine cy hm (a3t written) fun x8 hm=>?_
 refine cy hm (c0P x8 r_) ?_;rintro⟨p1,n1⟩ hm;apply vb hm<;>intro _ hm;cases hm;exact d5v (le4);obtain⟨z1,u1,hm⟩:=d9 hm;refine .inr (b3r.mk ⟨_,_,a2c b_ _ u1,?_⟩);refine⟨rfl,?_⟩;refine cy hm (a6D r_ ((written.length:Int))) fun v1 hm=>?_
 obtain⟨hg,hm⟩:=j0 hm;refine⟨hg,_,_,l6 (c:=d8.c) (l:=(z1.Loose:List d8)) (r:=(v1:List d8)),?_⟩;refine⟨rfl,?_⟩;refine⟨?_,?_⟩;obtain⟨w1,s1,hm⟩:=d9 hm;refine .inl (a5X.mk ⟨_,_,_,_,o9 written _ s1,?_⟩);refine⟨([r_]:List b9).flatMap b9.c,([r_]:List b9).length,⟨rfl,rfl⟩,?_⟩;obtain⟨hg,hm⟩:=j0 hm;refine⟨hg,_,_,l6 (c:=b9.c) (l:=(w1:List b9)) (r:=(([r_]:List b9):List b9)),?_⟩;cases hm;exact d5v (d5t _);refine⟨([r_]:List b9).flatMap b9.c,([r_]:List b9).length,⟨rfl,rfl⟩,?_⟩;obtain⟨t1,q1,hm⟩:=d9 hm;refine .inl (a5X.mk ⟨_,_,_,_,o9 written _ q1,?_⟩);obtain⟨hg,hm⟩:=j0 hm;refine⟨hg,_,_,l6 (c:=b9.c) (l:=(t1:List b9)) (r:=(([r_]:List b9):List b9)),?_⟩;cases hm;exact d5v (d5t _)
def a3W(b_:n9)(written:(List b9))(r_:b9):Option (n9×(List b9)×Int):=
 (a0n b_ written).bind fun x1=>
 if(!x1)=true then
  some ((⟨[],[]⟩:n9),[],84)
 else
  (Q2 b_ written r_).bind fun⟨x4,x5,x6⟩=>
  some (x4,x5,x6)
theorem b7t(b_:n9)(written:(List b9))(r_:b9)(r:(n9×(List b9)×Int))(hm:a3W b_ written r_=some r):p0 Tryz.prog 23 [.agg (n9.c b_),lD 8 written b9.c,.agg (b9.c r_)] (fun x=>x=.tup [.agg (n9.c r.1),lD 8 r.2.1 b9.c,DI r.2.2]):=by
 refine zn func23 rfl ?_;refine cy hm (b2u b_ written) fun x1 hm=>?_
 apply vb hm<;>intro _ hm;cases hm;exact d5v (le4);refine cy hm (a6z b_ written r_) ?_;rintro⟨x4,x5,x6⟩ hm;cases hm;exact d5v (d5t _)
def a3g(r_:b9):Option (ByteArray×Int):=
 (w7 r_).bind fun x1=>
 if(!x1)=true then
  some ((⟨#[]⟩:ByteArray),80)
 else
  (N3 r_).bind fun x4=>
  some (x4,0)
theorem b5Q(r_:b9)(r:(ByteArray×Int))(hm:a3g r_=some r):p0 Tryz.prog 29 [.agg (b9.c r_)] (fun x=>x=.tup [.v (.string r.1),DI r.2]):=by
 refine zn func29 rfl ?_;refine cy hm (C9 r_) fun x1 hm=>?_
 apply vb hm<;>intro _ hm;cases hm;exact d5v (d5t _);refine cy hm (a8U r_) fun x4 hm=>?_
 cases hm;exact d5v (d5t _)
def a3Z(r_:b9)(no:Int):Option ((List d8)×Int):=
 (w7 r_).bind fun x1=>
 if(!x1)=true then
  some ([],80)
 else
  (D0 no 0 59).bind fun x4=>
  if(!x4)=true then
   some ([],1)
  else
   (a0L r_ no).bind fun x7=>
   some (x7,0)
theorem b6Y(r_:b9)(no:Int)(r:((List d8)×Int))(hm:a3Z r_ no=some r):p0 Tryz.prog 33 [.agg (b9.c r_),DI no] (fun x=>x=.tup [lD 5 r.1 d8.c,DI r.2]):=by
 refine zn func33 rfl ?_;refine cy hm (C9 r_) fun x1 hm=>?_
 apply vb hm<;>intro _ hm;cases hm;exact d5v (le5);refine cy hm (H8 no 0 59) fun x4 hm=>?_
 apply vb hm<;>intro _ hm;cases hm;exact d5v (le5);refine cy hm (a6D r_ no) fun x7 hm=>?_
 cases hm;exact d5v (d5t _)
def a8d:Option Bool:=
 (a3g (⟨(⟨2,0⟩:o4),5,10,12,(⟨0,0⟩:o4),(⟨#[97,32,108,97,109,112,32,111,110,32,116,104,101,32,113,117,97,121]⟩:ByteArray)⟩:b9)).bind fun⟨x1,x2⟩=>
 (a3Z (⟨(⟨2,0⟩:o4),5,10,12,(⟨0,0⟩:o4),(⟨#[97,32,108,97,109,112,32,111,110,32,116,104,101,32,113,117,97,121]⟩:ByteArray)⟩:b9) 3).bind fun⟨x4,x5⟩=>
 (a3W (⟨[],[]⟩:n9) [] (⟨(⟨2,0⟩:o4),5,10,12,(⟨0,0⟩:o4),(⟨#[97,32,108,97,109,112,32,111,110,32,116,104,101,32,113,117,97,121]⟩:ByteArray)⟩:b9)).bind fun⟨x7,x8,x9⟩=>
 (E6 x7 ([2,0]:List Int)).bind fun w1=>
 (E9 w1).bind fun⟨e1,s1⟩=>
 (E6 x7 ([3,0]:List Int)).bind fun t1=>
 (E9 t1).bind fun⟨c1,q1⟩=>
 (E6 x7 ([2,0,0,0]:List Int)).bind fun p1=>
 (E9 p1).bind fun⟨b1,n1⟩=>
 (E6 x7 ([2,0,1,9]:List Int)).bind fun k1=>
 (E9 k1).bind fun⟨a1,j1⟩=>
 (X5 x7).bind fun h1=>
 (E6 h1 ([0,0]:List Int)).bind fun g1=>
 (E9 g1).bind fun⟨v1,f1⟩=>
 if(x2==0)=true then
  if(x5==0)=true then
   if(x9==0)=true then
    if((x8.length:Int)==1)=true then
     if((x4.length:Int)==2)=true then
      if((x7.Thread.length:Int)==0)=true then
       if((x7.Loose.length:Int)==2)=true then
        (idx x4 0).bind fun z1=>
        if((z1.No==3)&&((z1.Part==0)&&((z1.Parts==2)&&((z1.Size==24)&&(z1.Text.toList==(⟨#[50,32,48,32,53,32,49,48,32,49,50,32,48,32,48,32,97,32,108,97,109,112,32,111]⟩:ByteArray).toList)))))=true then
         (idx x4 1).bind fun u1=>
         if((u1.No==3)&&((u1.Part==1)&&((u1.Parts==2)&&((u1.Size==10)&&(u1.Text.toList==(⟨#[110,32,116,104,101,32,113,117,97,121]⟩:ByteArray).toList)))))=true then
          if(x1.toList==(⟨#[50,32,48,32,53,32,49,48,32,49,50,32,48,32,48,32,97,32,108,97,109,112,32,111,110,32,116,104,101,32,113,117,97,121]⟩:ByteArray).toList)=true then
           if((s1.length:Int)==1)=true then
            if((q1.length:Int)==1)=true then
             if((n1.length:Int)==0)=true then
              if((j1.length:Int)==0)=true then
               if((f1.length:Int)==1)=true then
                if((v1.Thread.length:Int)==2)=true then
                 some ((v1.Loose.length:Int)==0)
                else
                 some false
               else
                some false
              else
               some false
             else
              some false
            else
             some false
           else
            some false
          else
           some false
         else
          some false
        else
         some false
       else
        some false
      else
       some false
     else
      some false
    else
     some false
   else
    some false
  else
   some false
 else
  some false
theorem c2E(r:Bool)(hm:a8d=some r):p0 Tryz.prog 14 [] (fun x=>x=DB r):=by
 refine zn func14 rfl ?_;refine cy hm (b5Q ((⟨(⟨2,0⟩:o4),5,10,12,(⟨0,0⟩:o4),(⟨#[97,32,108,97,109,112,32,111,110,32,116,104,101,32,113,117,97,121]⟩:ByteArray)⟩:b9))) ?_;rintro⟨x1,x2⟩ hm;refine cy hm (b6Y ((⟨(⟨2,0⟩:o4),5,10,12,(⟨0,0⟩:o4),(⟨#[97,32,108,97,109,112,32,111,110,32,116,104,101,32,113,117,97,121]⟩:ByteArray)⟩:b9)) 3) ?_;rintro⟨x4,x5⟩ hm;obtain⟨⟨x7,x8,x9⟩,z1,hm⟩:=d9 hm;refine b0t.det ((b7t ((⟨[],[]⟩:n9)) [] ((⟨(⟨2,0⟩:o4),5,10,12,(⟨0,0⟩:o4),(⟨#[97,32,108,97,109,112,32,111,110,32,116,104,101,32,113,117,97,121]⟩:ByteArray)⟩:b9)) _ z1).le ⟨⟨_,rfl,⟨d5u,d5u,trivial⟩⟩,d5u,d5t _,trivial⟩) ?_;refine⟨([2,0]:List Int).flatMap cI,([2,0]:List Int).length,⟨rfl,rfl⟩,?_⟩;refine co hm (a1A x7 (([2,0]:List Int))) fun u1 hm=>?_
 refine cy hm (a1E u1) ?_;rintro⟨p1,n1⟩ hm;refine⟨([3,0]:List Int).flatMap cI,([3,0]:List Int).length,⟨rfl,rfl⟩,?_⟩;refine co hm (a1A x7 (([3,0]:List Int))) fun v1 hm=>?_
 refine cy hm (a1E v1) ?_;rintro⟨k1,j1⟩ hm;refine⟨([2,0,0,0]:List Int).flatMap cI,([2,0,0,0]:List Int).length,⟨rfl,rfl⟩,?_⟩;refine co hm (a1A x7 (([2,0,0,0]:List Int))) fun w1 hm=>?_
 refine cy hm (a1E w1) ?_;rintro⟨h1,g1⟩ hm;refine⟨([2,0,1,9]:List Int).flatMap cI,([2,0,1,9]:List Int).length,⟨rfl,rfl⟩,?_⟩;refine co hm (a1A x7 (([2,0,1,9]:List Int))) fun s1 hm=>?_
 refine cy hm (a1E s1) ?_;rintro⟨f1,e1⟩ hm;refine cy hm (a7O x7) fun t1 hm=>?_
 refine⟨([0,0]:List Int).flatMap cI,([0,0]:List Int).length,⟨rfl,rfl⟩,?_⟩;refine co hm (a1A t1 (([0,0]:List Int))) fun q1 hm=>?_
 refine cy hm (a1E q1) ?_;rintro⟨c1,b1⟩ hm;apply vb hm<;>intro _ hm;apply vb hm<;>intro _ hm;apply vb hm<;>intro _ hm;apply vb hm<;>intro _ hm;apply vb hm<;>intro _ hm;apply vb hm<;>intro _ hm;apply vb hm<;>intro _ hm;refine ei hm fun _ hm=>?_
 apply vb hm<;>intro _ hm;refine ei hm fun _ hm=>?_
 apply vb hm<;>intro _ hm;apply vb hm<;>intro _ hm;apply vb hm<;>intro _ hm;apply vb hm<;>intro _ hm;apply vb hm<;>intro _ hm;apply vb hm<;>intro _ hm;apply vb hm<;>intro _ hm;apply vb hm<;>intro _ hm;exact hm.rr;exact hm.rr;exact hm.rr;exact hm.rr;exact hm.rr;exact hm.rr;exact hm.rr;exact hm.rr;exact hm.rr;exact hm.rr;exact hm.rr;exact hm.rr;exact hm.rr;exact hm.rr;exact hm.rr;exact hm.rr;exact hm.rr
def K7(n:Int)(low:Int)(high:Int):Option Bool:=
 if(decide (n≥low))=true then
  some (decide (n≤high))
 else
  some false
theorem S5(n:Int)(low:Int)(high:Int)(r:Bool)(hm:K7 n low high=some r):p0 Tryz.prog 97 [DI n,DI low,DI high] (fun x=>x=DB r):=by
 refine zn func97 rfl ?_;apply vb hm<;>intro _ hm;exact hm.rr;exact hm.rr
def a3j(x:o4):Option Bool:=
 (K7 x.Depot 0 5).bind fun x1=>
 if x1=true then
  (K7 x.No 0 9999).bind fun x4=>
  some x4
 else
  some false
theorem b2f(x:o4)(r:Bool)(hm:a3j x=some r):p0 Tryz.prog 98 [.agg (o4.c x)] (fun x=>x=DB r):=by
 refine zn func98 rfl ?_;refine cy hm (S5 x.Depot 0 5) fun x1 hm=>?_
 apply vb hm<;>intro _ hm;refine cy hm (S5 x.No 0 9999) fun x4 hm=>?_
 exact hm.rr;exact hm.rr
def a0B(s:ByteArray):Int→Option (Sum Int (Sum Int Bool)):=fun i7=>
 if(decide (i7<(s.size:Int)))=true then
  (idx s.data.toList i7).bind fun x1=>
  if(decide ((x1.toNat:Int)<32))=true then
   some (.inr (.inr false))
  else
   (idx s.data.toList i7).bind fun z1=>
   if(decide ((z1.toNat:Int)>126))=true then
    some (.inr (.inr false))
   else
    some (.inl (W (i7+1)))
 else
  some (.inr (.inl i7))
def a4N(s:ByteArray):Option Bool:=
 if(decide ((s.size:Int)>160))=true then
  some false
 else
  (o8 (a0B s) 0).bind fun e=>
  match e with
  |.inl z1=>
   some true
  |.inr x1=>
   some x1
theorem b9K(s:ByteArray)(r:Bool)(hm:a4N s=some r):p0 Tryz.prog 99 [.v (.string s)] (fun x=>x=DB r):=by
 refine zn func99 rfl ?_;apply vb hm<;>intro _ hm;exact hm.rr;obtain⟨w1,he,z1⟩:=d9 hm;refine d5w (a0B s) (fun i7=>⟨[(0,.v (.string s)),(3,DI i7)],[],0⟩) 0 (sb 0) he ?_;rintro s1 i7 b hm x1;apply vb hm<;>intro _ hm;obtain⟨u1,hx,hm⟩:=d9 hm;refine⟨u1,a1i hx,?_⟩;apply vb hm<;>intro _ hm;cases hm;cases x1;have hm:=z1;exact hm.rr;obtain⟨v1,hx,hm⟩:=d9 hm;refine⟨v1,a1i hx,?_⟩;apply vb hm<;>intro _ hm;cases hm;cases x1;have hm:=z1;exact hm.rr;cases hm;exact⟨(_,(W (i7+1))),sb 0,x1,D6 _⟩;cases hm;cases x1;have hm:=z1;exact hm.rr
def G9(r_:b9):Option Int:=
 (a3j r_.At).bind fun x1=>
 if(!x1)=true then
  some 80
 else
  (K7 r_.Kind 0 60).bind fun x4=>
  if(!x4)=true then
   some 80
  else
   (K7 r_.Day 0 100000).bind fun x7=>
   if(!x7)=true then
    some 80
   else
    (K7 r_.Known 0 100000).bind fun z1=>
    if(!z1)=true then
     some 80
    else
     (a4N r_.Text).bind fun u1=>
     if(!u1)=true then
      some 80
     else
      if(r_.Kind==0)=true then
       if(r_.Day !=0)=true then
        some 80
       else
        if(!(r_.Text.toList==(⟨#[]⟩:ByteArray).toList))=true then
         some 80
        else
         (a3j r_.Of).bind fun v1=>
         if(!v1)=true then
          some 80
         else
          if(r_.Of.Depot !=r_.At.Depot)=true then
           some 80
          else
           if(decide (r_.Of.No≥r_.At.No))=true then
            some 80
           else
            some 0
      else
       if(!((r_.Of.Depot==0)&&(r_.Of.No==0)))=true then
        some 80
       else
        some 0
theorem X7(r_:b9)(r:Int)(hm:G9 r_=some r):p0 Tryz.prog 37 [.agg (b9.c r_)] (fun x=>x=DI r):=by
 refine zn func37 rfl ?_;refine cy hm (b2f r_.At) fun x1 hm=>?_
 apply vb hm<;>intro _ hm;exact hm.rr;refine cy hm (S5 r_.Kind 0 60) fun x4 hm=>?_
 apply vb hm<;>intro _ hm;exact hm.rr;refine cy hm (S5 r_.Day 0 100000) fun x7 hm=>?_
 apply vb hm<;>intro _ hm;exact hm.rr;refine cy hm (S5 r_.Known 0 100000) fun z1 hm=>?_
 apply vb hm<;>intro _ hm;exact hm.rr;refine cy hm (b9K r_.Text) fun u1 hm=>?_
 apply vb hm<;>intro _ hm;exact hm.rr;apply vb hm<;>intro _ hm;apply vb hm<;>intro _ hm;exact hm.rr;apply vb hm<;>intro _ hm;exact hm.rr;refine cy hm (b2f r_.Of) fun v1 hm=>?_
 apply vb hm<;>intro _ hm;exact hm.rr;apply vb hm<;>intro _ hm;exact hm.rr;apply vb hm<;>intro _ hm;exact hm.rr;exact hm.rr;apply vb hm<;>intro _ hm;exact hm.rr;exact hm.rr
def a3Y:(Int×ByteArray)→Option (Sum (Int×ByteArray) (Int×ByteArray)):=fun(n2,s3)=>
 if(decide (n2≥10))=true then
  gd ((((a4y ([(IntKind.u8.wrap (W (48+((W (n2.tdiv 10)).tmod 10))))]:List Int)).size+s3.size:Nat):Int)≤9223372036854775807)<|
  some (.inl ((W (n2.tdiv 10)),((a4y ([(IntKind.u8.wrap (W (48+((W (n2.tdiv 10)).tmod 10))))]:List Int))++s3)))
 else
  some (.inr (n2,s3))
def Y2(n:Int):Option ByteArray:=
 (o8 a3Y (n,(a4y ([(IntKind.u8.wrap (W (48+(n.tmod 10))))]:List Int)))).bind fun(n6,s7)=>
 some s7
theorem a2u(n:Int)(r:ByteArray)(hm:Y2 n=some r):p0 Tryz.prog 143 [DI n] (fun x=>x=.v (.string r)):=by
 refine zn func143 rfl ?_;refine⟨by decide,?_⟩;refine⟨([(IntKind.u8.wrap (W (48+(n.tmod 10))))]:List Int).flatMap b0i,([(IntKind.u8.wrap (W (48+(n.tmod 10))))]:List Int).length,⟨rfl,rfl⟩,?_⟩;refine⟨⟨rfl,5,by kernel_rfl,by kernel_rfl,by kernel_rfl⟩,([(IntKind.u8.wrap (W (48+(n.tmod 10))))]:List Int),b9f (fun _=>rfl) _,?_⟩;obtain⟨ev8,he,hk9⟩:=d9 hm;refine d5w a3Y (fun(n2,s3)=>⟨[(0,DI n2),(3,.v (.string s3))],[],1⟩) (n,(a4y ([(IntKind.u8.wrap (W (48+(n.tmod 10))))]:List Int))) (sb 1) he ?_;rintro z1 ⟨n2,s3⟩ b hm x1;apply vb hm<;>intro _ hm;refine⟨by decide,?_⟩;refine⟨by decide,?_⟩;refine⟨([(IntKind.u8.wrap (W (48+((W (n2.tdiv 10)).tmod 10))))]:List Int).flatMap b0i,([(IntKind.u8.wrap (W (48+((W (n2.tdiv 10)).tmod 10))))]:List Int).length,⟨rfl,rfl⟩,?_⟩;refine⟨⟨rfl,5,by kernel_rfl,by kernel_rfl,by kernel_rfl⟩,([(IntKind.u8.wrap (W (48+((W (n2.tdiv 10)).tmod 10))))]:List Int),b9f (fun _=>rfl) _,?_⟩;obtain⟨hg,hm⟩:=j0 hm;refine⟨hg,?_⟩;cases hm;exact⟨(_,((W (n2.tdiv 10)),((a4y ([(IntKind.u8.wrap (W (48+((W (n2.tdiv 10)).tmod 10))))]:List Int))++s3))),sb 1,x1,D6 _⟩;cases hm;cases x1;have hm:=hk9;cases hm;exact d5v (d5t _)
def a5u(r_:b9):Option ByteArray:=
 (Y2 r_.At.Depot).bind fun x1=>
 gd (((x1.size+(⟨#[32]⟩:ByteArray).size:Nat):Int)≤9223372036854775807)<|
 (Y2 r_.At.No).bind fun x3=>
 gd ((((x1++(⟨#[32]⟩:ByteArray)).size+x3.size:Nat):Int)≤9223372036854775807)<|
 gd (((((x1++(⟨#[32]⟩:ByteArray))++x3).size+(⟨#[32]⟩:ByteArray).size:Nat):Int)≤9223372036854775807)<|
 (Y2 r_.Kind).bind fun x5=>
 gd ((((((x1++(⟨#[32]⟩:ByteArray))++x3)++(⟨#[32]⟩:ByteArray)).size+x5.size:Nat):Int)≤9223372036854775807)<|
 gd (((((((x1++(⟨#[32]⟩:ByteArray))++x3)++(⟨#[32]⟩:ByteArray))++x5).size+(⟨#[32]⟩:ByteArray).size:Nat):Int)≤9223372036854775807)<|
 (Y2 r_.Day).bind fun x7=>
 gd ((((((((x1++(⟨#[32]⟩:ByteArray))++x3)++(⟨#[32]⟩:ByteArray))++x5)++(⟨#[32]⟩:ByteArray)).size+x7.size:Nat):Int)≤9223372036854775807)<|
 gd (((((((((x1++(⟨#[32]⟩:ByteArray))++x3)++(⟨#[32]⟩:ByteArray))++x5)++(⟨#[32]⟩:ByteArray))++x7).size+(⟨#[32]⟩:ByteArray).size:Nat):Int)≤9223372036854775807)<|
 (Y2 r_.Known).bind fun x9=>
 gd ((((((((((x1++(⟨#[32]⟩:ByteArray))++x3)++(⟨#[32]⟩:ByteArray))++x5)++(⟨#[32]⟩:ByteArray))++x7)++(⟨#[32]⟩:ByteArray)).size+x9.size:Nat):Int)≤9223372036854775807)<|
 gd (((((((((((x1++(⟨#[32]⟩:ByteArray))++x3)++(⟨#[32]⟩:ByteArray))++x5)++(⟨#[32]⟩:ByteArray))++x7)++(⟨#[32]⟩:ByteArray))++x9).size+(⟨#[32]⟩:ByteArray).size:Nat):Int)≤9223372036854775807)<|
 (Y2 r_.Of.Depot).bind fun z1=>
 gd ((((((((((((x1++(⟨#[32]⟩:ByteArray))++x3)++(⟨#[32]⟩:ByteArray))++x5)++(⟨#[32]⟩:ByteArray))++x7)++(⟨#[32]⟩:ByteArray))++x9)++(⟨#[32]⟩:ByteArray)).size+z1.size:Nat):Int)≤9223372036854775807)<|
 gd (((((((((((((x1++(⟨#[32]⟩:ByteArray))++x3)++(⟨#[32]⟩:ByteArray))++x5)++(⟨#[32]⟩:ByteArray))++x7)++(⟨#[32]⟩:ByteArray))++x9)++(⟨#[32]⟩:ByteArray))++z1).size+(⟨#[32]⟩:ByteArray).size:Nat):Int)≤9223372036854775807)<|
 (Y2 r_.Of.No).bind fun u1=>
 gd ((((((((((((((x1++(⟨#[32]⟩:ByteArray))++x3)++(⟨#[32]⟩:ByteArray))++x5)++(⟨#[32]⟩:ByteArray))++x7)++(⟨#[32]⟩:ByteArray))++x9)++(⟨#[32]⟩:ByteArray))++z1)++(⟨#[32]⟩:ByteArray)).size+u1.size:Nat):Int)≤9223372036854775807)<|
 gd (((((((((((((((x1++(⟨#[32]⟩:ByteArray))++x3)++(⟨#[32]⟩:ByteArray))++x5)++(⟨#[32]⟩:ByteArray))++x7)++(⟨#[32]⟩:ByteArray))++x9)++(⟨#[32]⟩:ByteArray))++z1)++(⟨#[32]⟩:ByteArray))++u1).size+(⟨#[32]⟩:ByteArray).size:Nat):Int)≤9223372036854775807)<|
 gd ((((((((((((((((x1++(⟨#[32]⟩:ByteArray))++x3)++(⟨#[32]⟩:ByteArray))++x5)++(⟨#[32]⟩:ByteArray))++x7)++(⟨#[32]⟩:ByteArray))++x9)++(⟨#[32]⟩:ByteArray))++z1)++(⟨#[32]⟩:ByteArray))++u1)++(⟨#[32]⟩:ByteArray)).size+r_.Text.size:Nat):Int)≤9223372036854775807)<|
 some ((((((((((((((x1++(⟨#[32]⟩:ByteArray))++x3)++(⟨#[32]⟩:ByteArray))++x5)++(⟨#[32]⟩:ByteArray))++x7)++(⟨#[32]⟩:ByteArray))++x9)++(⟨#[32]⟩:ByteArray))++z1)++(⟨#[32]⟩:ByteArray))++u1)++(⟨#[32]⟩:ByteArray))++r_.Text)
theorem b6T(r_:b9)(r:ByteArray)(hm:a5u r_=some r):p0 Tryz.prog 93 [.agg (b9.c r_)] (fun x=>x=.v (.string r)):=by
 refine zy d4F [] [] [] func93 rfl ?_;refine⟨rfl,?_⟩;refine cy hm (a2u r_.At.Depot) fun x1 hm=>?_
 obtain⟨hg,hm⟩:=j0 hm;refine⟨hg,?_⟩;refine cy hm (a2u r_.At.No) fun x3 hm=>?_
 obtain⟨hg,hm⟩:=j0 hm;refine⟨hg,?_⟩;obtain⟨hg,hm⟩:=j0 hm;refine⟨hg,?_⟩;refine cy hm (a2u r_.Kind) fun x5 hm=>?_
 obtain⟨hg,hm⟩:=j0 hm;refine⟨hg,?_⟩;obtain⟨hg,hm⟩:=j0 hm;refine⟨hg,?_⟩;refine cy hm (a2u r_.Day) fun x7 hm=>?_
 obtain⟨hg,hm⟩:=j0 hm;refine⟨hg,?_⟩;obtain⟨hg,hm⟩:=j0 hm;refine⟨hg,?_⟩;refine cy hm (a2u r_.Known) fun x9 hm=>?_
 obtain⟨hg,hm⟩:=j0 hm;refine⟨hg,?_⟩;obtain⟨hg,hm⟩:=j0 hm;refine⟨hg,?_⟩;refine⟨rfl,?_⟩;refine cy hm (a2u r_.Of.Depot) fun z1 hm=>?_
 obtain⟨hg,hm⟩:=j0 hm;refine⟨hg,?_⟩;obtain⟨hg,hm⟩:=j0 hm;refine⟨hg,?_⟩;refine cy hm (a2u r_.Of.No) fun u1 hm=>?_
 obtain⟨hg,hm⟩:=j0 hm;refine⟨hg,?_⟩;obtain⟨hg,hm⟩:=j0 hm;refine⟨hg,?_⟩;obtain⟨hg,hm⟩:=j0 hm;refine⟨hg,?_⟩;cases hm;exact d5v (d5t _)
def a2h(s:ByteArray)(at_:Int):(Int×Int)→Option (Sum (Int×Int) (Sum (Int×Int) (Int×Int×Bool))):=fun(z1,x1)=>
 if(decide (x1<(s.size:Int)))=true then
  if(decide (x1<(W (at_+9))))=true then
   (idx s.data.toList x1).bind fun u1=>
   if((u1.toNat:Int)==32)=true then
    some (.inr (.inr (z1,(W (x1+1)),(decide (x1>at_)))))
   else
    (idx s.data.toList x1).bind fun v1=>
    if(decide ((v1.toNat:Int)<48))=true then
     some (.inr (.inr (0,0,false)))
    else
     (idx s.data.toList x1).bind fun w1=>
     if(decide ((w1.toNat:Int)>57))=true then
      some (.inr (.inr (0,0,false)))
     else
      (idx s.data.toList x1).bind fun s1=>
      some (.inl ((W ((W (10*z1))+(W (IntKind.u8.wrap ((s1.toNat:Int)-48))))),(W (x1+1))))
  else
   some (.inr (.inl (z1,x1)))
 else
  some (.inr (.inl (z1,x1)))
def a1w(s:ByteArray)(at_:Int):Option (Int×Int×Bool):=
 (o8 (a2h s at_) (0,at_)).bind fun e=>
 match e with
 |.inl (z1,u1)=>
  some (0,0,false)
 |.inr x1=>
  some x1
theorem b9v(s:ByteArray)(at_:Int)(r:(Int×Int×Bool))(hm:a1w s at_=some r):p0 Tryz.prog 94 [.v (.string s),DI at_] (fun x=>x=.tup [DI r.1,DI r.2.1,DB r.2.2]):=by
 refine zn func94 rfl ?_;obtain⟨p1,he,z1⟩:=d9 hm;refine d5w (a2h s at_) (fun(u1,v1)=>⟨[(0,.v (.string s)),(1,DI at_),(7,DI u1),(8,DI v1)],[],0⟩) (0,at_) (sb 0) he ?_;rintro n1 ⟨u1,v1⟩ b hm x1;apply vb hm<;>intro _ hm;apply vb hm<;>intro _ hm;obtain⟨s1,hx,hm⟩:=d9 hm;refine⟨s1,a1i hx,?_⟩;apply vb hm<;>intro _ hm;cases hm;cases x1;have hm:=z1;cases hm;exact d5v (d5t _);obtain⟨t1,hx,hm⟩:=d9 hm;refine⟨t1,a1i hx,?_⟩;apply vb hm<;>intro _ hm;cases hm;cases x1;have hm:=z1;cases hm;exact d5v (d5t _);obtain⟨q1,hx,hm⟩:=d9 hm;refine⟨q1,a1i hx,?_⟩;apply vb hm<;>intro _ hm;cases hm;cases x1;have hm:=z1;cases hm;exact d5v (d5t _);obtain⟨w1,hx,hm⟩:=d9 hm;refine⟨w1,a1i hx,?_⟩;cases hm;exact⟨(_,((W ((W (10*u1))+(W (IntKind.u8.wrap ((w1.toNat:Int)-48))))),(W (v1+1)))),sb 0,x1,D6 _⟩;cases hm;cases x1;have hm:=z1;cases hm;exact d5v (d5t _);cases hm;cases x1;have hm:=z1;cases hm;exact d5v (d5t _)
def B5(s:ByteArray):(Int×Int×Int×Int×Int×Int×Int×Int×Int)→Option (Sum (Int×Int×Int×Int×Int×Int×Int×Int×Int) (Sum (Int×Int×Int×Int×Int×Int×Int×Int×Int) (b9×Int))):=fun(at_16,x1,u1,v1,w1,s1,t1,q1,p1)=>
 if(decide (x1<7))=true then
  (a1w s at_16).bind fun⟨n1,k1,j1⟩=>
  if(!j1)=true then
   some (.inr (.inr ((⟨(⟨0,0⟩:o4),0,0,0,(⟨0,0⟩:o4),(⟨#[]⟩:ByteArray)⟩:b9),5)))
  else
   gd (0≤x1∧x1<7)<|
   (idx [u1,v1,w1,s1,t1,q1,p1] x1).bind fun x2=>
   Option.bind (some n1) fun z1=>
   Option.bind (some (if(x1==0)=true then z1 else u1)) fun h1=>
   Option.bind (some (if(x1==1)=true then z1 else v1)) fun g1=>
   Option.bind (some (if(x1==2)=true then z1 else w1)) fun f1=>
   Option.bind (some (if(x1==3)=true then z1 else s1)) fun e1=>
   Option.bind (some (if(x1==4)=true then z1 else t1)) fun c1=>
   Option.bind (some (if(x1==5)=true then z1 else q1)) fun b1=>
   Option.bind (some (if(x1==6)=true then z1 else p1)) fun a1=>
   some (.inl (k1,(W (x1+1)),h1,g1,f1,e1,c1,b1,a1))
 else
  some (.inr (.inl (at_16,x1,u1,v1,w1,s1,t1,q1,p1)))
def a0u(s:ByteArray):Option (b9×Int):=
 (o8 (B5 s) (0,0,0,0,0,0,0,0,0)).bind fun e=>
 match e with
 |.inl (at_57,k1,x1,z1,u1,v1,w1,s1,t1)=>
  gd ((0≤at_57∧at_57≤(s.size:Int)))<|
  (G9 (⟨(⟨x1,z1⟩:o4),u1,v1,w1,(⟨s1,t1⟩:o4),(s.extract ((at_57).toNat) s.size)⟩:b9)).bind fun q1=>
  if(q1 !=0)=true then
   some ((⟨(⟨0,0⟩:o4),0,0,0,(⟨0,0⟩:o4),(⟨#[]⟩:ByteArray)⟩:b9),5)
  else
   (a5u (⟨(⟨x1,z1⟩:o4),u1,v1,w1,(⟨s1,t1⟩:o4),(s.extract ((at_57).toNat) s.size)⟩:b9)).bind fun p1=>
   if(!(p1.toList==s.toList))=true then
    some ((⟨(⟨0,0⟩:o4),0,0,0,(⟨0,0⟩:o4),(⟨#[]⟩:ByteArray)⟩:b9),5)
   else
    some ((⟨(⟨x1,z1⟩:o4),u1,v1,w1,(⟨s1,t1⟩:o4),(s.extract ((at_57).toNat) s.size)⟩:b9),0)
 |.inr n1=>
  some n1
theorem b1H(s:ByteArray)(r:(b9×Int))(hm:a0u s=some r):p0 Tryz.prog 32 [.v (.string s)] (fun x=>x=.tup [.agg (b9.c r.1),DI r.2]):=by
 refine zy d4P [] [] [] func32 rfl ?_;obtain⟨y2,he,c1⟩:=d9 hm;refine d5w (B5 s) (fun(at_16,q1,x1,z1,u1,v1,w1,s1,t1)=>⟨[(0,.v (.string s)),(2,.own 0 0),(4,.own 1 0),(5,DI at_16),(6,DI q1)],[(0,.blk [DI 0,DI 0,DI 0,DI 0,DI 0,DI 0,DI 0,.v (.string (⟨#[]⟩:ByteArray))] 38),(1,.blk [DI x1,DI z1,DI u1,DI v1,DI w1,DI s1,DI t1] 144)],2⟩) (0,0,0,0,0,0,0,0,0) (sb 2) he ?_;rintro z2 ⟨at_16,q1,x1,z1,u1,v1,w1,s1,t1⟩ b hm p1;apply vb hm<;>intro _ hm;refine cy hm (b9v s at_16) ?_;rintro⟨u2,a1,v2⟩ hm;apply vb hm<;>intro _ hm;cases hm;cases p1;have hm:=c1;cases hm;exact d5v (d5t _);obtain⟨hg,hm⟩:=j0 hm;refine⟨hg,?_⟩;obtain⟨w2,b1,hm⟩:=d9 hm;obtain⟨x2,hy,hm⟩:=d9 hm;obtain⟨n1,hq0,hm⟩:=d9 hm;obtain⟨k1,hq1,hm⟩:=d9 hm;obtain⟨j1,hq2,hm⟩:=d9 hm;obtain⟨h1,hq3,hm⟩:=d9 hm;obtain⟨g1,hq4,hm⟩:=d9 hm;obtain⟨f1,hq5,hm⟩:=d9 hm;obtain⟨e1,hq6,hm⟩:=d9 hm;refine⟨[DI n1,DI k1,DI j1,DI h1,DI g1,DI f1,DI e1],b0L (y:=x2) (ys:=[n1,k1,j1,h1,g1,f1,e1]) (c:=cI) (z:=1) (fun _=>rfl) b1 rfl (by omega) (by cases hy;rfl) rfl (by cases hq0;cases hq1;cases hq2;cases hq3;cases hq4;cases hq5;cases hq6;exact L7 b1),?_⟩;clear hy hq0 hq1 hq2 hq3 hq4 hq5 hq6;cases hm;exact⟨(_,(a1,(W (q1+1)),n1,k1,j1,h1,g1,f1,e1)),sb 2,p1,D6 _⟩;cases hm;cases p1;have hm:=c1;refine⟨rfl,?_⟩;refine⟨by decide,?_⟩;refine⟨by decide,?_⟩;refine⟨by decide,?_⟩;refine⟨by decide,?_⟩;refine⟨by decide,?_⟩;refine⟨by decide,?_⟩;refine⟨by decide,?_⟩;obtain⟨hg,hm⟩:=j0 hm;refine⟨hg,?_⟩;refine cy hm (X7 ((⟨(⟨x1,z1⟩:o4),u1,v1,w1,(⟨s1,t1⟩:o4),(s.extract ((at_16).toNat) s.size)⟩:b9))) fun s2 hm=>?_
 apply vb hm<;>intro _ hm;cases hm;exact d5v (d5t _);refine cy hm (b6T ((⟨(⟨x1,z1⟩:o4),u1,v1,w1,(⟨s1,t1⟩:o4),(s.extract ((at_16).toNat) s.size)⟩:b9))) fun t2 hm=>?_
 apply vb hm<;>intro _ hm;cases hm;exact d5v (d5t _);cases hm;exact d5v (d5t _)
def a7l(b_:n9):Option (List d8):=
 gd ((([]:List d8).length+b_.Thread.length)*48≤140737488355328∧([]:List d8).length+b_.Thread.length≤9223372036854775807)<|
 gd (((([]:List d8)++b_.Thread).length+b_.Loose.length)*48≤140737488355328∧(([]:List d8)++b_.Thread).length+b_.Loose.length≤9223372036854775807)<|
 some ((([]:List d8)++b_.Thread)++b_.Loose)
theorem b6y(b_:n9)(r:(List d8))(hm:a7l b_=some r):p0 Tryz.prog 73 [.agg (n9.c b_)] (fun x=>x=lD 5 r d8.c):=by
 refine zy d4s [] [] [] func73 rfl ?_;refine⟨rfl,?_⟩;refine⟨([]:List d8).flatMap d8.c,([]:List d8).length,⟨rfl,rfl⟩,?_⟩;obtain⟨hg,hm⟩:=j0 hm;refine⟨hg,_,_,l6 (c:=d8.c) (l:=(([]:List d8):List d8)) (r:=(b_.Thread:List d8)),?_⟩;obtain⟨hg,hm⟩:=j0 hm;refine⟨hg,_,_,l6 (c:=d8.c) (l:=((([]:List d8)++b_.Thread):List d8)) (r:=(b_.Loose:List d8)),?_⟩;cases hm;exact d5v (d5t _)
def a2d(c:d8):Option Int:=
 (K7 c.No 0 59).bind fun x1=>
 if(!x1)=true then
  some 87
 else
  (K7 c.Parts 1 10).bind fun x4=>
  if(!x4)=true then
   some 87
  else
   (K7 c.Part 0 (W (c.Parts-1))).bind fun x7=>
   if(!x7)=true then
    some 87
   else
    (K7 c.Size 1 24).bind fun z1=>
    if(!z1)=true then
     some 87
    else
     if((c.Text.size:Int) !=c.Size)=true then
      some 87
     else
      some 0
theorem b4m(c:d8)(r:Int)(hm:a2d c=some r):p0 Tryz.prog 39 [.agg (d8.c c)] (fun x=>x=DI r):=by
 refine zn func39 rfl ?_;refine cy hm (S5 c.No 0 59) fun x1 hm=>?_
 apply vb hm<;>intro _ hm;exact hm.rr;refine cy hm (S5 c.Parts 1 10) fun x4 hm=>?_
 apply vb hm<;>intro _ hm;exact hm.rr;refine cy hm (S5 c.Part 0 (W (c.Parts-1))) fun x7 hm=>?_
 apply vb hm<;>intro _ hm;exact hm.rr;refine cy hm (S5 c.Size 1 24) fun z1 hm=>?_
 apply vb hm<;>intro _ hm;exact hm.rr;apply vb hm<;>intro _ hm;exact hm.rr;exact hm.rr
def a1t(l:(List d8))(no:Int)(part:(Int×Int)):Int→Option (Sum Int (Sum Int (d8×Bool))):=fun x1=>
 if(decide (x1<(l.length:Int)))=true then
  (idx l x1).bind fun z1=>
  (a2d z1).bind fun u1=>
  if(u1==0)=true then
   if(z1.No==no)=true then
    if(z1.Part==part.1)=true then
     if(part.2==0)=true then
      some (.inr (.inr (z1,true)))
     else
      if(z1.Parts==part.2)=true then
       some (.inr (.inr (z1,true)))
      else
       some (.inl (W (x1+1)))
    else
     some (.inl (W (x1+1)))
   else
    some (.inl (W (x1+1)))
  else
   some (.inl (W (x1+1)))
 else
  some (.inr (.inl x1))
def a4s(l:(List d8))(no:Int)(part:(Int×Int)):Option (d8×Bool):=
 (o8 (a1t l no part) 0).bind fun e=>
 match e with
 |.inl z1=>
  some ((⟨0,0,0,0,(⟨#[]⟩:ByteArray)⟩:d8),false)
 |.inr x1=>
  some x1
theorem b3s(l:(List d8))(no:Int)(part:(Int×Int))(r:(d8×Bool))(hm:a4s l no part=some r):p0 Tryz.prog 74 [lD 5 l d8.c,DI no,.agg [DI part.1,DI part.2]] (fun x=>x=.tup [.agg (d8.c r.1),DB r.2]):=by
 refine zn func74 rfl ?_;obtain⟨w1,he,u1⟩:=d9 hm;refine d5w (a1t l no part) (fun z1=>⟨[(0,lD 5 l d8.c),(1,DI no),(5,.own 0 0),(6,.own 1 0),(8,DI z1)],[(0,.blk [DI part.1,DI part.2] 129),(1,.blk [DI 0,DI 0,DI 0,DI 0,.v (.string (⟨#[]⟩:ByteArray))] 53)],2⟩) 0 (sb 2) he ?_;rintro s1 z1 b hm x1;apply vb hm<;>intro _ hm;refine ei hm fun v1 hm=>?_
 refine cy hm (b4m v1) fun t1 hm=>?_
 apply vb hm<;>intro _ hm;apply vb hm<;>intro _ hm;refine⟨by decide,?_⟩;apply vb hm<;>intro _ hm;refine⟨by decide,?_⟩;apply vb hm<;>intro _ hm;cases hm;cases x1;have hm:=u1;cases hm;exact d5v (d5t _);refine⟨by decide,?_⟩;apply vb hm<;>intro _ hm;cases hm;cases x1;have hm:=u1;cases hm;exact d5v (d5t _);cases hm;exact⟨(_,(W (z1+1))),sb 2,x1,D6 _⟩;cases hm;exact⟨(_,(W (z1+1))),sb 2,x1,D6 _⟩;cases hm;exact⟨(_,(W (z1+1))),sb 2,x1,D6 _⟩;cases hm;exact⟨(_,(W (z1+1))),sb 2,x1,D6 _⟩;cases hm;cases x1;have hm:=u1;cases hm;exact d5v (d5t _)
def b0x(l:(List b9)):(Int×Int×Int×Int×Int×Int×Int)→Option (Sum (Int×Int×Int×Int×Int×Int×Int) (Int×Int×Int×Int×Int×Int×Int)):=fun(u1,v1,w1,s1,t1,q1,p1)=>
 if(decide (u1<(l.length:Int)))=true then
  (idx l u1).bind fun x1=>
  gd (0≤x1.At.Depot∧x1.At.Depot<6)<|
  (idx [v1,w1,s1,t1,q1,p1] x1.At.Depot).bind fun n1=>
  gd (0≤x1.At.Depot∧x1.At.Depot<6)<|
  (idx [v1,w1,s1,t1,q1,p1] x1.At.Depot).bind fun c1=>
  Option.bind (some (W (n1+1))) fun z1=>
  Option.bind (some (if(x1.At.Depot==0)=true then z1 else v1)) fun k1=>
  Option.bind (some (if(x1.At.Depot==1)=true then z1 else w1)) fun j1=>
  Option.bind (some (if(x1.At.Depot==2)=true then z1 else s1)) fun h1=>
  Option.bind (some (if(x1.At.Depot==3)=true then z1 else t1)) fun g1=>
  Option.bind (some (if(x1.At.Depot==4)=true then z1 else q1)) fun f1=>
  Option.bind (some (if(x1.At.Depot==5)=true then z1 else p1)) fun e1=>
  some (.inl ((W (u1+1)),k1,j1,h1,g1,f1,e1))
 else
  some (.inr (u1,v1,w1,s1,t1,q1,p1))
def Y4(l:(List b9)):Option (Int×Int×Int×Int×Int×Int):=
 (o8 (b0x l) (0,0,0,0,0,0,0)).bind fun(t1,x1,z1,u1,v1,w1,s1)=>
 some (x1,z1,u1,v1,w1,s1)
theorem a1s(l:(List b9))(r:(Int×Int×Int×Int×Int×Int))(hm:Y4 l=some r):p0 Tryz.prog 89 [lD 8 l b9.c] (fun x=>x=.agg [DI r.1,DI r.2.1,DI r.2.2.1,DI r.2.2.2.1,DI r.2.2.2.2.1,DI r.2.2.2.2.2]):=by
 refine zn func89 rfl ?_;obtain⟨x2,he,e1⟩:=d9 hm;refine d5w (b0x l) (fun(x1,q1,p1,n1,k1,j1,h1)=>⟨[(0,lD 8 l b9.c),(2,.own 0 0),(3,.own 1 0),(4,DI x1)],[(0,.blk [DI 0,DI 0,DI 0,DI 0,DI 0,DI 0] 78),(1,.blk [DI q1,DI p1,DI n1,DI k1,DI j1,DI h1] 78)],2⟩) (0,0,0,0,0,0,0) (sb 2) he ?_;rintro y2 ⟨x1,q1,p1,n1,k1,j1,h1⟩ b hm g1;apply vb hm<;>intro _ hm;refine ei hm fun _ hm=>?_
 obtain⟨hg,hm⟩:=j0 hm;refine⟨hg,?_⟩;obtain⟨c1,b1,hm⟩:=d9 hm;refine⟨_,a3K (r:=[DI c1]) (c:=cI) (z:=1) (fun _=>rfl) b1 rfl (by omega) rfl,?_⟩;obtain⟨hg,hm⟩:=j0 hm;refine⟨hg,?_⟩;obtain⟨z2,f1,hm⟩:=d9 hm;obtain⟨a1,hy,hm⟩:=d9 hm;obtain⟨z1,hq0,hm⟩:=d9 hm;obtain⟨u1,hq1,hm⟩:=d9 hm;obtain⟨v1,hq2,hm⟩:=d9 hm;obtain⟨w1,hq3,hm⟩:=d9 hm;obtain⟨s1,hq4,hm⟩:=d9 hm;obtain⟨t1,hq5,hm⟩:=d9 hm;refine⟨[DI z1,DI u1,DI v1,DI w1,DI s1,DI t1],b0L (y:=a1) (ys:=[z1,u1,v1,w1,s1,t1]) (c:=cI) (z:=1) (fun _=>rfl) f1 rfl (by omega) (by cases hy;rfl) rfl (by cases hq0;cases hq1;cases hq2;cases hq3;cases hq4;cases hq5;exact L7 f1),?_⟩;clear hy hq0 hq1 hq2 hq3 hq4 hq5;cases hm;exact⟨(_,((W (x1+1)),z1,u1,v1,w1,s1,t1)),sb 2,g1,D6 _⟩;cases hm;cases g1;have hm:=e1;cases hm;exact d5v (d5t _)
def a5K(l:(List b9))(r_:b9):Option Bool:=
 (G9 r_).bind fun x1=>
 if(x1==0)=true then
  if(decide ((l.length:Int)<60))=true then
   (Y4 l).bind fun x5=>
   (idx [x5.1,x5.2.1,x5.2.2.1,x5.2.2.2.1,x5.2.2.2.2.1,x5.2.2.2.2.2] r_.At.Depot).bind fun e7=>
   some (r_.At.No==e7)
  else
   some false
 else
  some false
theorem b0T(l:(List b9))(r_:b9)(r:Bool)(hm:a5K l r_=some r):p0 Tryz.prog 75 [lD 8 l b9.c,.agg (b9.c r_)] (fun x=>x=DB r):=by
 refine zy d4U [] [] [] func75 rfl ?_;refine⟨rfl,?_⟩;refine cy hm (X7 r_) fun x1 hm=>?_
 apply vb hm<;>intro _ hm;apply vb hm<;>intro _ hm;refine cy hm (a1s l) fun x5 hm=>?_
 obtain⟨e7,hx8,hm⟩:=d9 hm;refine⟨a2x hx8,_,a3K (c:=cI) (z:=1) (fun _=>rfl) hx8 rfl (by omega) rfl,?_⟩;exact hm.rr;exact hm.rr;exact hm.rr
def a0g(no:Int)(x1:ByteArray):((List d8)×Int)→Option (Sum ((List d8)×Int) ((List d8)×Int)):=fun(out4,i5)=>
 if(decide (i5<(W ((W ((W ((x1.size:Int)+24))-1)).tdiv 24))))=true then
  gd ((0≤(if(W ((W (i5+1))*24))<(x1.size:Int)then(W ((W (i5+1))*24))else(x1.size:Int))∧(if(W ((W (i5+1))*24))<(x1.size:Int)then(W ((W (i5+1))*24))else(x1.size:Int))≤(x1.size:Int))∧(0≤(W (i5*24))∧(W (i5*24))≤(if(W ((W (i5+1))*24))<(x1.size:Int)then(W ((W (i5+1))*24))else(x1.size:Int))))<|
  gd ((out4.length+([(⟨no,i5,(W ((W ((W ((x1.size:Int)+24))-1)).tdiv 24)),((x1.extract (((W (i5*24))).toNat) (((if(W ((W (i5+1))*24))<(x1.size:Int)then(W ((W (i5+1))*24))else(x1.size:Int))).toNat)).size:Int),(x1.extract (((W (i5*24))).toNat) (((if(W ((W (i5+1))*24))<(x1.size:Int)then(W ((W (i5+1))*24))else(x1.size:Int))).toNat))⟩:d8)]:List d8).length)*48≤140737488355328∧out4.length+([(⟨no,i5,(W ((W ((W ((x1.size:Int)+24))-1)).tdiv 24)),((x1.extract (((W (i5*24))).toNat) (((if(W ((W (i5+1))*24))<(x1.size:Int)then(W ((W (i5+1))*24))else(x1.size:Int))).toNat)).size:Int),(x1.extract (((W (i5*24))).toNat) (((if(W ((W (i5+1))*24))<(x1.size:Int)then(W ((W (i5+1))*24))else(x1.size:Int))).toNat))⟩:d8)]:List d8).length≤9223372036854775807)<|
  some (.inl ((out4++([(⟨no,i5,(W ((W ((W ((x1.size:Int)+24))-1)).tdiv 24)),((x1.extract (((W (i5*24))).toNat) (((if(W ((W (i5+1))*24))<(x1.size:Int)then(W ((W (i5+1))*24))else(x1.size:Int))).toNat)).size:Int),(x1.extract (((W (i5*24))).toNat) (((if(W ((W (i5+1))*24))<(x1.size:Int)then(W ((W (i5+1))*24))else(x1.size:Int))).toNat))⟩:d8)]:List d8)),(W (i5+1))))
 else
  some (.inr (out4,i5))
def a4h(r_:b9)(no:Int):Option (List d8):=
 (a5u r_).bind fun x1=>
 (o8 (a0g no x1) ([],0)).bind fun(out8,i9)=>
 some out8
theorem b3w(r_:b9)(no:Int)(r:(List d8))(hm:a4h r_ no=some r):p0 Tryz.prog 87 [.agg (b9.c r_),DI no] (fun x=>x=lD 5 r d8.c):=by
 refine zn func87 rfl ?_;refine cy hm (b6T r_) fun x1 hm=>?_
 refine⟨by decide,?_⟩;obtain⟨v1,he,u1⟩:=d9 hm;refine d5w (a0g no x1) (fun(out4,i5)=>⟨[(1,DI no),(5,.v (.string x1)),(6,DI (W ((W ((W ((x1.size:Int)+24))-1)).tdiv 24))),(7,.row 1 5),(8,DI i5)],[(1,rE 5 out4 d8.c 53)],2⟩) ([],0) (sb 1) he ?_;rintro w1 ⟨out4,i5⟩ b hm z1;apply vb hm<;>intro _ hm;obtain⟨hg,hm⟩:=j0 hm;refine⟨hg.1,hg.2,?_⟩;refine⟨([(⟨no,i5,(W ((W ((W ((x1.size:Int)+24))-1)).tdiv 24)),((x1.extract (((W (i5*24))).toNat) (((if(W ((W (i5+1))*24))<(x1.size:Int)then(W ((W (i5+1))*24))else(x1.size:Int))).toNat)).size:Int),(x1.extract (((W (i5*24))).toNat) (((if(W ((W (i5+1))*24))<(x1.size:Int)then(W ((W (i5+1))*24))else(x1.size:Int))).toNat))⟩:d8)]:List d8).flatMap d8.c,([(⟨no,i5,(W ((W ((W ((x1.size:Int)+24))-1)).tdiv 24)),((x1.extract (((W (i5*24))).toNat) (((if(W ((W (i5+1))*24))<(x1.size:Int)then(W ((W (i5+1))*24))else(x1.size:Int))).toNat)).size:Int),(x1.extract (((W (i5*24))).toNat) (((if(W ((W (i5+1))*24))<(x1.size:Int)then(W ((W (i5+1))*24))else(x1.size:Int))).toNat))⟩:d8)]:List d8).length,⟨rfl,rfl⟩,?_⟩
 obtain⟨hg,hm⟩:=j0 hm;refine⟨hg,_,_,l6 (c:=d8.c) (l:=(out4:List d8)) (r:=(([(⟨no,i5,(W ((W ((W ((x1.size:Int)+24))-1)).tdiv 24)),((x1.extract (((W (i5*24))).toNat) (((if(W ((W (i5+1))*24))<(x1.size:Int)then(W ((W (i5+1))*24))else(x1.size:Int))).toNat)).size:Int),(x1.extract (((W (i5*24))).toNat) (((if(W ((W (i5+1))*24))<(x1.size:Int)then(W ((W (i5+1))*24))else(x1.size:Int))).toNat))⟩:d8)]:List d8):List d8)),?_⟩
 cases hm;exact⟨(_,((out4++([(⟨no,i5,(W ((W ((W ((x1.size:Int)+24))-1)).tdiv 24)),((x1.extract (((W (i5*24))).toNat) (((if(W ((W (i5+1))*24))<(x1.size:Int)then(W ((W (i5+1))*24))else(x1.size:Int))).toNat)).size:Int),(x1.extract (((W (i5*24))).toNat) (((if(W ((W (i5+1))*24))<(x1.size:Int)then(W ((W (i5+1))*24))else(x1.size:Int))).toNat))⟩:d8)]:List d8)),(W (i5+1)))),sb 2,z1,D6 _⟩
 cases hm;cases z1;have hm:=u1;cases hm;exact d5v (d5t _)
def a1N(l:(List b9)):((List d8)×Int)→Option (Sum ((List d8)×Int) ((List d8)×Int)):=fun(out6,i7)=>
 if(decide (i7<(l.length:Int)))=true then
  (idx l i7).bind fun z1=>
  (a4h z1 i7).bind fun x1=>
  gd ((out6.length+x1.length)*48≤140737488355328∧out6.length+x1.length≤9223372036854775807)<|
  some (.inl ((out6++x1),(W (i7+1))))
 else
  some (.inr (out6,i7))
def a3F(l:(List b9)):Option (List d8):=
 (o8 (a1N l) ([],0)).bind fun(x1,z1)=>
 some x1
theorem a3G(l:(List b9))(r:(List d8))(hm:a3F l=some r):p0 Tryz.prog 76 [lD 8 l b9.c] (fun x=>x=lD 5 r d8.c):=by
 refine zn func76 rfl ?_;obtain⟨w1,he,u1⟩:=d9 hm;refine d5w (a1N l) (fun(out6,i7)=>⟨[(0,lD 8 l b9.c),(3,.row 0 5),(4,DI i7)],[(0,rE 5 out6 d8.c 53)],1⟩) ([],0) (sb 0) he ?_;rintro s1 ⟨out6,i7⟩ b hm x1;apply vb hm<;>intro _ hm;refine ei hm fun v1 hm=>?_
 refine cy hm (b3w v1 i7) fun z1 hm=>?_
 obtain⟨hg,hm⟩:=j0 hm;refine⟨hg,_,_,l6 (c:=d8.c) (l:=(out6:List d8)) (r:=(z1:List d8)),?_⟩;cases hm;exact⟨(_,((out6++z1),(W (i7+1)))),sb 1,x1,D6 _⟩;cases hm;cases x1;have hm:=u1;cases hm;exact d5v (d5t _)
def J9(x1:(List d8))(t1:(List b9))(w1:d8):(Bool×ByteArray×Int)→Option (Sum (Bool×ByteArray×Int) (Bool×ByteArray×Int)):=fun(v1,u1,z1)=>
 if(decide (z1<w1.Parts))=true then
  if v1=true then
   (a4s x1 (t1.length:Int) (z1,w1.Parts)).bind fun⟨s1,q1⟩=>
   gd (((u1.size+s1.Text.size:Nat):Int)≤9223372036854775807)<|
   some (.inl (q1,(u1++s1.Text),(W (z1+1))))
  else
   some (.inr (v1,u1,z1))
 else
  some (.inr (v1,u1,z1))
def a2a(x1:(List d8)):(List b9)→Option (Sum (List b9) (n9×(List b9))):=fun z1=>
 (a4s x1 (z1.length:Int) (0,0)).bind fun⟨v1,w1⟩=>
 (o8 (J9 x1 z1 v1) (w1,v1.Text,1)).bind fun(s1,t1,h1)=>
 (a0u t1).bind fun⟨u1,q1⟩=>
 if(!s1)=true then
  (a3F z1).bind fun p1=>
  some (.inr ((⟨p1,[]⟩:n9),z1))
 else
  if(q1 !=0)=true then
   (a3F z1).bind fun n1=>
   some (.inr ((⟨n1,[]⟩:n9),z1))
  else
   (a5K z1 u1).bind fun k1=>
   if(!k1)=true then
    (a3F z1).bind fun j1=>
    some (.inr ((⟨j1,[]⟩:n9),z1))
   else
    gd ((z1.length+([u1]:List b9).length)*72≤140737488355328∧z1.length+([u1]:List b9).length≤9223372036854775807)<|
    some (.inl (z1++([u1]:List b9)))
def a7G(b_:n9):Option (n9×(List b9)):=
 (a7l b_).bind fun x1=>
 o8 (a2a x1) []
theorem c3D(b_:n9)(r:(n9×(List b9)))(hm:a7G b_=some r):p0 Tryz.prog 16 [.agg (n9.c b_)] (fun x=>x=.tup [.agg (n9.c r.1),lD 8 r.2 b9.c]):=by
 refine zn func16 rfl ?_;refine cy hm (b6y b_) fun x1 hm=>?_
 have he:=hm;refine d5w (a2a x1) (fun z1=>⟨[(2,.own 1 0),(4,lD 5 x1 d8.c),(5,.row 2 8)],[(1,.blk [nS,nS] 24),(2,rE 8 z1 b9.c 38)],3⟩) [] (sb 2) he ?_;rintro f1 z1 b hm u1;refine cy hm (b3s x1 ((z1.length:Int)) (0,0)) ?_;rintro⟨t1,j1⟩ hm;obtain⟨e1,he,n1⟩:=d9 hm;refine d5w (J9 x1 z1 t1) (fun(k1,v1,q1)=>⟨[(2,.own 1 0),(4,lD 5 x1 d8.c),(5,.row 2 8),(6,.own 3 0),(7,DB k1),(8,.v (.string v1)),(9,DI q1)],[(1,.blk [nS,nS] 24),(2,rE 8 z1 b9.c 38),(3,.blk (d8.c t1) 53)],4⟩) (j1,t1.Text,1) (sb 4) he ?_;rintro c1 ⟨k1,v1,q1⟩ b hm p1;apply vb hm<;>intro _ hm;apply vb hm<;>intro _ hm;refine cy hm (b3s x1 ((z1.length:Int)) (q1,t1.Parts)) ?_;rintro⟨h1,g1⟩ hm;obtain⟨hg,hm⟩:=j0 hm;refine⟨hg,?_⟩;cases hm;exact⟨(_,(g1,(v1++h1.Text),(W (q1+1)))),sb 4,p1,D6 _⟩;cases hm;cases p1;have hm:=n1;refine cy hm (b1H v1) ?_;rintro⟨w1,b1⟩ hm;apply vb hm<;>intro _ hm;refine co hm (a3G z1) fun a1 hm=>?_
 cases hm;cases u1;exact d5v (le1);apply vb hm<;>intro _ hm;refine co hm (a3G z1) fun x2 hm=>?_
 cases hm;cases u1;exact d5v (le1);refine co hm (b0T z1 w1) fun y2 hm=>?_
 apply vb hm<;>intro _ hm;refine co hm (a3G z1) fun z2 hm=>?_
 cases hm;cases u1;exact d5v (le1);refine⟨([w1]:List b9).flatMap b9.c,([w1]:List b9).length,⟨rfl,rfl⟩,?_⟩;obtain⟨hg,hm⟩:=j0 hm;refine⟨hg,_,_,l6 (c:=b9.c) (l:=(z1:List b9)) (r:=(([w1]:List b9):List b9)),?_⟩;cases hm;exact⟨(_,(z1++([w1]:List b9))),sb 3,u1,D6 _⟩;cases hm;cases p1;have hm:=n1;refine cy hm (b1H v1) ?_;rintro⟨s1,u2⟩ hm;apply vb hm<;>intro _ hm;refine co hm (a3G z1) fun v2 hm=>?_
 cases hm;cases u1;exact d5v (le1);apply vb hm<;>intro _ hm;refine co hm (a3G z1) fun w2 hm=>?_
 cases hm;cases u1;exact d5v (le1);refine co hm (b0T z1 s1) fun s2 hm=>?_
 apply vb hm<;>intro _ hm;refine co hm (a3G z1) fun t2 hm=>?_
 cases hm;cases u1;exact d5v (le1);refine⟨([s1]:List b9).flatMap b9.c,([s1]:List b9).length,⟨rfl,rfl⟩,?_⟩;obtain⟨hg,hm⟩:=j0 hm;refine⟨hg,_,_,l6 (c:=b9.c) (l:=(z1:List b9)) (r:=(([s1]:List b9):List b9)),?_⟩;cases hm;exact⟨(_,(z1++([s1]:List b9))),sb 3,u1,D6 _⟩
def R6(a:(List d8))(b_:(List d8)):(Bool×Int)→Option (Sum (Bool×Int) (Bool×Int)):=fun(same7,i8)=>
 if(decide (i8<(a.length:Int)))=true then
  if same7=true then
   (idx a i8).bind fun x1=>
   (idx b_ i8).bind fun z1=>
   some (.inl (((x1.No==z1.No)&&((x1.Part==z1.Part)&&((x1.Parts==z1.Parts)&&((x1.Size==z1.Size)&&(x1.Text.toList==z1.Text.toList))))),(W (i8+1))))
  else
   some (.inr (same7,i8))
 else
  some (.inr (same7,i8))
def U8(a:(List d8))(b_:(List d8)):Option Bool:=
 (o8 (R6 a b_) (((a.length:Int)==(b_.length:Int)),0)).bind fun(same21,x1)=>
 some same21
theorem a4x(a:(List d8))(b_:(List d8))(r:Bool)(hm:U8 a b_=some r):p0 Tryz.prog 35 [lD 5 a d8.c,lD 5 b_ d8.c] (fun x=>x=DB r):=by
 refine zy d4S [] [] [] func35 rfl ?_;obtain⟨w1,he,v1⟩:=d9 hm;refine d5w (R6 a b_) (fun(same7,i8)=>⟨[(0,lD 5 a d8.c),(1,lD 5 b_ d8.c),(5,DB same7),(6,DI i8)],[],0⟩) (((a.length:Int)==(b_.length:Int)),0) (sb 0) he ?_;rintro s1 ⟨same7,i8⟩ b hm u1;apply vb hm<;>intro _ hm;apply vb hm<;>intro _ hm;refine⟨rfl,?_⟩;refine ei hm fun x1 hm=>?_
 refine ei hm fun z1 hm=>?_
 cases hm;exact⟨(_,(((x1.No==z1.No)&&((x1.Part==z1.Part)&&((x1.Parts==z1.Parts)&&((x1.Size==z1.Size)&&(x1.Text.toList==z1.Text.toList))))),(W (i8+1)))),sb 0,u1,D6 _⟩;cases hm;cases u1;have hm:=v1;exact hm.rr;cases hm;cases u1;have hm:=v1;exact hm.rr
def a6E(a:n9)(b_:n9):Option Bool:=
 (U8 a.Thread b_.Thread).bind fun x1=>
 (U8 a.Loose b_.Loose).bind fun x3=>
 if x1=true then
  some x3
 else
  some false
theorem b7f(a:n9)(b_:n9)(r:Bool)(hm:a6E a b_=some r):p0 Tryz.prog 17 [.agg (n9.c a),.agg (n9.c b_)] (fun x=>x=DB r):=by
 refine zn func17 rfl ?_;refine cy hm (a4x a.Thread b_.Thread) fun x1 hm=>?_
 refine cy hm (a4x a.Loose b_.Loose) fun x3 hm=>?_
 apply vb hm<;>intro _ hm;exact hm.rr;exact hm.rr
def N9(a:(List b9))(b_:(List b9)):(Bool×Int)→Option (Sum (Bool×Int) (Bool×Int)):=fun(same7,i8)=>
 if(decide (i8<(a.length:Int)))=true then
  if same7=true then
   (idx a i8).bind fun x1=>
   (idx b_ i8).bind fun z1=>
   some (.inl (((x1.At.Depot==z1.At.Depot)&&((x1.At.No==z1.At.No)&&((x1.Kind==z1.Kind)&&((x1.Day==z1.Day)&&((x1.Known==z1.Known)&&((x1.Of.Depot==z1.Of.Depot)&&((x1.Of.No==z1.Of.No)&&(x1.Text.toList==z1.Text.toList)))))))),(W (i8+1))))
  else
   some (.inr (same7,i8))
 else
  some (.inr (same7,i8))
def X3(a:(List b9))(b_:(List b9)):Option Bool:=
 (o8 (N9 a b_) (((a.length:Int)==(b_.length:Int)),0)).bind fun(same21,x1)=>
 some same21
theorem a6i(a:(List b9))(b_:(List b9))(r:Bool)(hm:X3 a b_=some r):p0 Tryz.prog 18 [lD 8 a b9.c,lD 8 b_ b9.c] (fun x=>x=DB r):=by
 refine zy d4Z [] [] [] func18 rfl ?_;obtain⟨w1,he,v1⟩:=d9 hm;refine d5w (N9 a b_) (fun(same7,i8)=>⟨[(0,lD 8 a b9.c),(1,lD 8 b_ b9.c),(5,DB same7),(6,DI i8)],[],0⟩) (((a.length:Int)==(b_.length:Int)),0) (sb 0) he ?_;rintro s1 ⟨same7,i8⟩ b hm u1;apply vb hm<;>intro _ hm;apply vb hm<;>intro _ hm;refine⟨rfl,?_⟩;refine ei hm fun x1 hm=>?_
 refine ei hm fun z1 hm=>?_
 cases hm;exact⟨(_,(((x1.At.Depot==z1.At.Depot)&&((x1.At.No==z1.At.No)&&((x1.Kind==z1.Kind)&&((x1.Day==z1.Day)&&((x1.Known==z1.Known)&&((x1.Of.Depot==z1.Of.Depot)&&((x1.Of.No==z1.Of.No)&&(x1.Text.toList==z1.Text.toList)))))))),(W (i8+1)))),sb 0,u1,D6 _⟩;cases hm;cases u1;have hm:=v1;exact hm.rr;cases hm;cases u1;have hm:=v1;exact hm.rr
def a5N(b_:n9):Option n9:=
 (a7l b_).bind fun x1=>
 some (⟨x1,[]⟩:n9)
theorem b5v(b_:n9)(r:n9)(hm:a5N b_=some r):p0 Tryz.prog 20 [.agg (n9.c b_)] (fun x=>x=.agg (n9.c r)):=by
 refine zn func20 rfl ?_;refine cy hm (b6y b_) fun x1 hm=>?_
 cases hm;exact d5v (le2)
def F1(n:Int)(m:Int):Option Int:=
 gd (m≠0)<|
 gd (m≠0)<|
 some ((W ((n.tmod m)+m)).tmod m)
theorem I8(n:Int)(m:Int)(r:Int)(hm:F1 n m=some r):p0 Tryz.prog 27 [DI n,DI m] (fun x=>x=DI r):=by
 refine zn func27 rfl ?_;obtain⟨hg,hm⟩:=j0 hm;refine⟨hg,?_⟩;obtain⟨hg,hm⟩:=j0 hm;refine⟨hg,?_⟩;exact hm.rr
def a5z(picks:(List Int))(i:Int):Option Int:=
 if((picks.length:Int)==0)=true then
  some 0
 else
  gd ((picks.length:Int)≠0)<|
  (idx picks (i.tmod (picks.length:Int))).bind fun e2=>
  some e2
theorem b5Z(picks:(List Int))(i:Int)(r:Int)(hm:a5z picks i=some r):p0 Tryz.prog 82 [lD 1 picks cI,DI i] (fun x=>x=DI r):=by
 refine zn func82 rfl ?_;apply vb hm<;>intro _ hm;exact hm.rr;obtain⟨hg,hm⟩:=j0 hm;refine⟨hg,?_⟩;refine ei hm fun _ hm=>?_
 exact hm.rr
def a0N(b_:n9)(picks:(List Int)):(Int×(List d8)×(List d8)×(List d8)×(List d8)×(List d8)×(List d8))→Option (Sum (Int×(List d8)×(List d8)×(List d8)×(List d8)×(List d8)×(List d8)) (Int×(List d8)×(List d8)×(List d8)×(List d8)×(List d8)×(List d8))):=fun(u1,v1,w1,s1,t1,q1,z1)=>
 if(decide (u1<(b_.Loose.length:Int)))=true then
  (idx b_.Loose u1).bind fun x1=>
  (a5z picks (W (2*u1))).bind fun k1=>
  (F1 k1 4).bind fun n1=>
  if(n1==0)=true then
   some (.inl ((W (u1+1)),v1,w1,s1,t1,q1,z1))
  else
   if(n1==1)=true then
    if(decide ((x1.Text.size:Int)>0))=true then
     (a5z picks (W ((W (2*u1))+1))).bind fun j1=>
     (F1 j1 (x1.Text.size:Int)).bind fun p1=>
     gd ((0≤p1∧p1≤(x1.Text.size:Int)))<|
     if(n1==3)=true then
      gd ((([(⟨x1.No,x1.Part,x1.Parts,x1.Size,(x1.Text.extract 0 ((p1).toNat))⟩:d8)]:List d8).length+z1.length)*48≤140737488355328∧([(⟨x1.No,x1.Part,x1.Parts,x1.Size,(x1.Text.extract 0 ((p1).toNat))⟩:d8)]:List d8).length+z1.length≤9223372036854775807)<|
      some (.inl ((W (u1+1)),v1,w1,s1,t1,q1,(([(⟨x1.No,x1.Part,x1.Parts,x1.Size,(x1.Text.extract 0 ((p1).toNat))⟩:d8)]:List d8)++z1)))
     else
      gd ((z1.length+([(⟨x1.No,x1.Part,x1.Parts,x1.Size,(x1.Text.extract 0 ((p1).toNat))⟩:d8)]:List d8).length)*48≤140737488355328∧z1.length+([(⟨x1.No,x1.Part,x1.Parts,x1.Size,(x1.Text.extract 0 ((p1).toNat))⟩:d8)]:List d8).length≤9223372036854775807)<|
      some (.inl ((W (u1+1)),v1,w1,s1,t1,q1,(z1++([(⟨x1.No,x1.Part,x1.Parts,x1.Size,(x1.Text.extract 0 ((p1).toNat))⟩:d8)]:List d8))))
    else
     if(n1==3)=true then
      gd ((([x1]:List d8).length+z1.length)*48≤140737488355328∧([x1]:List d8).length+z1.length≤9223372036854775807)<|
      some (.inl ((W (u1+1)),v1,w1,s1,t1,q1,(([x1]:List d8)++z1)))
     else
      gd ((z1.length+([x1]:List d8).length)*48≤140737488355328∧z1.length+([x1]:List d8).length≤9223372036854775807)<|
      some (.inl ((W (u1+1)),v1,w1,s1,t1,q1,(z1++([x1]:List d8))))
   else
    if(n1==3)=true then
     gd ((([x1]:List d8).length+z1.length)*48≤140737488355328∧([x1]:List d8).length+z1.length≤9223372036854775807)<|
     some (.inl ((W (u1+1)),v1,w1,s1,t1,q1,(([x1]:List d8)++z1)))
    else
     gd ((z1.length+([x1]:List d8).length)*48≤140737488355328∧z1.length+([x1]:List d8).length≤9223372036854775807)<|
     some (.inl ((W (u1+1)),v1,w1,s1,t1,q1,(z1++([x1]:List d8))))
 else
  some (.inr (u1,v1,w1,s1,t1,q1,z1))
def a3S(b_:n9)(picks:(List Int)):Option n9:=
 gd ((([]:List d8).length+b_.Thread.length)*48≤140737488355328∧([]:List d8).length+b_.Thread.length≤9223372036854775807)<|
 (o8 (a0N b_ picks) (0,[],[],[],[],[],[])).bind fun(z1,u1,v1,w1,s1,t1,x1)=>
 some (⟨(([]:List d8)++b_.Thread),x1⟩:n9)
theorem b5R(b_:n9)(picks:(List Int))(r:n9)(hm:a3S b_ picks=some r):p0 Tryz.prog 22 [.agg (n9.c b_),lD 1 picks cI] (fun x=>x=.agg (n9.c r)):=by
 refine zy d4w [] [] [] func22 rfl ?_;refine⟨([]:List d8).flatMap d8.c,([]:List d8).length,⟨rfl,rfl⟩,?_⟩;obtain⟨hg,hm⟩:=j0 hm;refine⟨hg,_,_,l6 (c:=d8.c) (l:=(([]:List d8):List d8)) (r:=(b_.Thread:List d8)),?_⟩;obtain⟨g1,he,k1⟩:=d9 hm;refine d5w (a0N b_ picks) (fun(u1,v1,w1,s1,t1,q1,z1)=>⟨[(1,lD 1 picks cI),(2,.own 0 0),(4,.own 1 0),(5,.own 3 0),(6,DI u1)],[(0,.blk [lD 5 b_.Thread d8.c,lD 5 b_.Loose d8.c] 24),(1,.blk [nS,nS] 24),(2,rE 5 (([]:List d8)++b_.Thread) d8.c 53),(3,.blk [.row 2 5,.row 9 5] 24),(4,rE 5 v1 d8.c 53),(5,rE 5 w1 d8.c 53),(6,rE 5 s1 d8.c 53),(7,rE 5 t1 d8.c 53),(8,rE 5 q1 d8.c 53),(9,rE 5 z1 d8.c 53)],10⟩) (0,[],[],[],[],[],[]) (sb 4) he ?_;rintro f1 ⟨u1,v1,w1,s1,t1,q1,z1⟩ b hm p1;apply vb hm<;>intro _ hm;refine ei hm fun x1 hm=>?_
 refine cy hm (b5Z picks (W (2*u1))) fun j1 hm=>?_
 refine cy hm (I8 j1 4) fun e1 hm=>?_
 apply vb hm<;>intro _ hm;cases hm;exact⟨(_,((W (u1+1)),v1,w1,s1,t1,q1,z1)),sb 10,p1,D6 _⟩;apply vb hm<;>intro _ hm;apply vb hm<;>intro _ hm;refine⟨rfl,?_⟩;refine cy hm (b5Z picks (W ((W (2*u1))+1))) fun h1 hm=>?_
 refine cy hm (I8 h1 ((x1.Text.size:Int))) fun n1 hm=>?_
 obtain⟨hg,hm⟩:=j0 hm;refine⟨hg,?_⟩;apply vb hm<;>intro _ hm;refine⟨([(⟨x1.No,x1.Part,x1.Parts,x1.Size,(x1.Text.extract 0 ((n1).toNat))⟩:d8)]:List d8).flatMap d8.c,([(⟨x1.No,x1.Part,x1.Parts,x1.Size,(x1.Text.extract 0 ((n1).toNat))⟩:d8)]:List d8).length,⟨rfl,rfl⟩,?_⟩;obtain⟨hg,hm⟩:=j0 hm;refine⟨hg,_,_,l6 (c:=d8.c) (l:=(([(⟨x1.No,x1.Part,x1.Parts,x1.Size,(x1.Text.extract 0 ((n1).toNat))⟩:d8)]:List d8):List d8)) (r:=(z1:List d8)),?_⟩;cases hm;exact⟨(_,((W (u1+1)),v1,w1,s1,t1,q1,(([(⟨x1.No,x1.Part,x1.Parts,x1.Size,(x1.Text.extract 0 ((n1).toNat))⟩:d8)]:List d8)++z1))),I1.rn 9 11 12 [] rfl rfl 12 rfl (tA rfl) ⟨hR rfl,hR rfl,hW rfl,hR rfl,hW rfl,hW rfl,hW rfl,hW rfl,hW rfl,hW rfl,trivial⟩ 10 rfl (tA rfl) ⟨hR rfl,hR rfl,hW rfl,hR rfl,hW rfl,hW rfl,hW rfl,hW rfl,hW rfl,hW rfl,trivial⟩,p1,D6 _⟩;refine⟨([(⟨x1.No,x1.Part,x1.Parts,x1.Size,(x1.Text.extract 0 ((n1).toNat))⟩:d8)]:List d8).flatMap d8.c,([(⟨x1.No,x1.Part,x1.Parts,x1.Size,(x1.Text.extract 0 ((n1).toNat))⟩:d8)]:List d8).length,⟨rfl,rfl⟩,?_⟩;obtain⟨hg,hm⟩:=j0 hm;refine⟨hg,_,_,l6 (c:=d8.c) (l:=(z1:List d8)) (r:=(([(⟨x1.No,x1.Part,x1.Parts,x1.Size,(x1.Text.extract 0 ((n1).toNat))⟩:d8)]:List d8):List d8)),?_⟩;cases hm;exact⟨(_,((W (u1+1)),v1,w1,s1,t1,q1,(z1++([(⟨x1.No,x1.Part,x1.Parts,x1.Size,(x1.Text.extract 0 ((n1).toNat))⟩:d8)]:List d8)))),sb 10,p1,D6 _⟩;apply vb hm<;>intro _ hm;refine⟨([x1]:List d8).flatMap d8.c,([x1]:List d8).length,⟨rfl,rfl⟩,?_⟩;obtain⟨hg,hm⟩:=j0 hm;refine⟨hg,_,_,l6 (c:=d8.c) (l:=(([x1]:List d8):List d8)) (r:=(z1:List d8)),?_⟩;cases hm;exact⟨(_,((W (u1+1)),v1,w1,s1,t1,q1,(([x1]:List d8)++z1))),I1.rn 9 11 12 [] rfl rfl 12 rfl (tA rfl) ⟨hR rfl,hR rfl,hW rfl,hR rfl,hW rfl,hW rfl,hW rfl,hW rfl,hW rfl,hW rfl,trivial⟩ 10 rfl (tA rfl) ⟨hR rfl,hR rfl,hW rfl,hR rfl,hW rfl,hW rfl,hW rfl,hW rfl,hW rfl,hW rfl,trivial⟩,p1,D6 _⟩;refine⟨([x1]:List d8).flatMap d8.c,([x1]:List d8).length,⟨rfl,rfl⟩,?_⟩;obtain⟨hg,hm⟩:=j0 hm;refine⟨hg,_,_,l6 (c:=d8.c) (l:=(z1:List d8)) (r:=(([x1]:List d8):List d8)),?_⟩;cases hm;exact⟨(_,((W (u1+1)),v1,w1,s1,t1,q1,(z1++([x1]:List d8)))),sb 10,p1,D6 _⟩;apply vb hm<;>intro _ hm;refine⟨([x1]:List d8).flatMap d8.c,([x1]:List d8).length,⟨rfl,rfl⟩,?_⟩;obtain⟨hg,hm⟩:=j0 hm;refine⟨hg,_,_,l6 (c:=d8.c) (l:=(([x1]:List d8):List d8)) (r:=(z1:List d8)),?_⟩;cases hm;exact⟨(_,((W (u1+1)),v1,w1,s1,t1,q1,(([x1]:List d8)++z1))),I1.rn 9 11 12 [] rfl rfl 12 rfl (tA rfl) ⟨hR rfl,hR rfl,hW rfl,hR rfl,hW rfl,hW rfl,hW rfl,hW rfl,hW rfl,hW rfl,trivial⟩ 10 rfl (tA rfl) ⟨hR rfl,hR rfl,hW rfl,hR rfl,hW rfl,hW rfl,hW rfl,hW rfl,hW rfl,hW rfl,trivial⟩,p1,D6 _⟩;refine⟨([x1]:List d8).flatMap d8.c,([x1]:List d8).length,⟨rfl,rfl⟩,?_⟩;obtain⟨hg,hm⟩:=j0 hm;refine⟨hg,_,_,l6 (c:=d8.c) (l:=(z1:List d8)) (r:=(([x1]:List d8):List d8)),?_⟩;cases hm;exact⟨(_,((W (u1+1)),v1,w1,s1,t1,q1,(z1++([x1]:List d8)))),sb 10,p1,D6 _⟩;cases hm;cases p1;have hm:=k1;cases hm;exact d5v (d5t _)
def Z2(l:(List b9)):Int→Option (Sum Int (Sum Int Bool)):=fun i8=>
 if(decide (i8<(l.length:Int)))=true then
  gd ((0≤i8∧i8≤(l.length:Int))∧(0≤i8∧i8≤i8))<|
  Option.bind (some (sub l 0 (i8).toNat)) fun x1=>
  (idx l i8).bind fun z1=>
  (a5K x1 z1).bind fun u1=>
  if(!u1)=true then
   some (.inr (.inr false))
  else
   some (.inl (W (i8+1)))
 else
  some (.inr (.inl i8))
def a1z(l:(List b9)):Option Bool:=
 (o8 (Z2 l) 0).bind fun e=>
 match e with
 |.inl z1=>
  some true
 |.inr x1=>
  some x1
theorem b3a(l:(List b9))(r:Bool)(hm:a1z l=some r):p0 Tryz.prog 88 [lD 8 l b9.c] (fun x=>x=DB r):=by
 refine zy d5j [] [] [] func88 rfl ?_;obtain⟨w1,he,z1⟩:=d9 hm;refine d5w (Z2 l) (fun i8=>⟨[(0,lD 8 l b9.c),(3,DI i8)],[],0⟩) 0 (sb 0) he ?_;rintro s1 i8 b hm x1;apply vb hm<;>intro _ hm;refine⟨rfl,?_⟩;obtain⟨hg,hm⟩:=j0 hm;obtain⟨u1,hy,hm⟩:=d9 hm;refine⟨hg.1,hg.2,_,(S1 (c:=b9.c) (z:=8) (fun _=>rfl) _ _ _).trans (Y7 _ (E0 hy)),?_⟩;have hl:u1.length=(i8).toNat-0:=by rw[←E0 hy];exact a0r (by omega)
 rw[←hl];refine ei hm fun v1 hm=>?_
 refine cy hm (b0T u1 v1) fun t1 hm=>?_
 apply vb hm<;>intro _ hm;cases hm;cases x1;have hm:=z1;exact hm.rr;cases hm;exact⟨(_,(W (i8+1))),sb 0,x1,D6 _⟩;cases hm;cases x1;have hm:=z1;exact hm.rr
def a1q(b_:n9)(written:(List b9)):Option Int:=
 (a1z written).bind fun x1=>
 if(!x1)=true then
  some 84
 else
  (a7l b_).bind fun x4=>
  (a3F written).bind fun x6=>
  (U8 x4 x6).bind fun x8=>
  if(!x8)=true then
   some 84
  else
   some 0
theorem a8H(b_:n9)(written:(List b9))(r:Int)(hm:a1q b_ written=some r):p0 Tryz.prog 26 [.agg (n9.c b_),lD 8 written b9.c] (fun x=>x=DI r):=by
 refine zn func26 rfl ?_;refine cy hm (b3a written) fun x1 hm=>?_
 apply vb hm<;>intro _ hm;exact hm.rr;refine cy hm (b6y b_) fun x4 hm=>?_
 refine cy hm (a3G written) fun x6 hm=>?_
 refine cy hm (a4x x4 x6) fun x8 hm=>?_
 apply vb hm<;>intro _ hm;exact hm.rr;exact hm.rr
def a0M(l:(List b9))(at_:o4):Int→Option (Sum Int (Sum Int Int)):=fun i5=>
 if(decide (i5<(l.length:Int)))=true then
  (idx l i5).bind fun x1=>
  if((x1.At.Depot==at_.Depot)&&(x1.At.No==at_.No))=true then
   some (.inr (.inr i5))
  else
   some (.inl (W (i5+1)))
 else
  some (.inr (.inl i5))
def a7L(l:(List b9))(at_:o4):Option Int:=
 (o8 (a0M l at_) 0).bind fun e=>
 match e with
 |.inl z1=>
  some (-1)
 |.inr x1=>
  some x1
theorem c3i(l:(List b9))(at_:o4)(r:Int)(hm:a7L l at_=some r):p0 Tryz.prog 105 [lD 8 l b9.c,.agg (o4.c at_)] (fun x=>x=DI r):=by
 refine zy d4b [] [] [] func105 rfl ?_;obtain⟨u1,he,z1⟩:=d9 hm;refine d5w (a0M l at_) (fun i5=>⟨[(0,lD 8 l b9.c),(3,.own 0 0),(5,DI i5)],[(0,.blk [DI at_.Depot,DI at_.No] 36)],1⟩) 0 (sb 1) he ?_;rintro v1 i5 b hm x1;apply vb hm<;>intro _ hm;refine⟨rfl,?_⟩;refine ei hm fun _ hm=>?_
 apply vb hm<;>intro _ hm;cases hm;cases x1;have hm:=z1;exact hm.rr;cases hm;exact⟨(_,(W (i5+1))),sb 1,x1,D6 _⟩;cases hm;cases x1;have hm:=z1;exact hm.rr
def a5F(l:(List b9))(r_:b9):Option (Bool×Int):=
 (G9 r_).bind fun x1=>
 if(x1 !=0)=true then
  some (false,80)
 else
  (a7L l r_.At).bind fun x4=>
  if(decide (x4≥0))=true then
   (idx l x4).bind fun e7=>
   if((e7.At.Depot==r_.At.Depot)&&((e7.At.No==r_.At.No)&&((e7.Kind==r_.Kind)&&((e7.Day==r_.Day)&&((e7.Known==r_.Known)&&((e7.Of.Depot==r_.Of.Depot)&&((e7.Of.No==r_.Of.No)&&(e7.Text.toList==r_.Text.toList))))))))=true then
    some (false,0)
   else
    some (false,82)
  else
   (Y4 l).bind fun z1=>
   (idx [z1.1,z1.2.1,z1.2.2.1,z1.2.2.2.1,z1.2.2.2.2.1,z1.2.2.2.2.2] r_.At.Depot).bind fun u1=>
   if(decide (r_.At.No>u1))=true then
    some (false,83)
   else
    if((l.length:Int)==60)=true then
     some (false,2)
    else
     some (true,0)
theorem b6w(l:(List b9))(r_:b9)(r:(Bool×Int))(hm:a5F l r_=some r):p0 Tryz.prog 85 [lD 8 l b9.c,.agg (b9.c r_)] (fun x=>x=.tup [DB r.1,DI r.2]):=by
 refine zy d4q [] [] [] func85 rfl ?_;refine cy hm (X7 r_) fun x1 hm=>?_
 apply vb hm<;>intro _ hm;cases hm;exact d5v (d5t _);refine cy hm (c3i l r_.At) fun x4 hm=>?_
 refine⟨rfl,?_⟩;apply vb hm<;>intro h6 hm;refine ei hm fun _ hm=>?_
 apply vb hm<;>intro _ hm;cases hm;exact d5v (d5t _);refine VIf.t h6 ?_;cases hm;exact d5v (d5t _);refine VIf.f h6 ?_;refine⟨rfl,?_⟩;refine cy hm (a1s l) fun u1 hm=>?_
 obtain⟨v1,z1,hm⟩:=d9 hm;refine⟨a2x z1,_,a3K (c:=cI) (z:=1) (fun _=>rfl) z1 rfl (by omega) rfl,?_⟩;apply vb hm<;>intro _ hm;cases hm;exact d5v (d5t _);apply vb hm<;>intro _ hm;cases hm;exact d5v (d5t _);cases hm;exact d5v (d5t _)
def Y3(b_:n9):Option n9:=
 gd ((([]:List d8).length+b_.Thread.length)*48≤140737488355328∧([]:List d8).length+b_.Thread.length≤9223372036854775807)<|
 gd ((([]:List d8).length+b_.Loose.length)*48≤140737488355328∧([]:List d8).length+b_.Loose.length≤9223372036854775807)<|
 some (⟨(([]:List d8)++b_.Thread),(([]:List d8)++b_.Loose)⟩:n9)
theorem b7c(b_:n9)(r:n9)(hm:Y3 b_=some r):p0 Tryz.prog 86 [.agg (n9.c b_)] (fun x=>x=.agg (n9.c r)):=by
 refine zy d2t [] [] [] func86 rfl ?_;refine⟨rfl,?_⟩;refine⟨([]:List d8).flatMap d8.c,([]:List d8).length,⟨rfl,rfl⟩,?_⟩;obtain⟨hg,hm⟩:=j0 hm;refine⟨hg,_,_,l6 (c:=d8.c) (l:=(([]:List d8):List d8)) (r:=(b_.Thread:List d8)),?_⟩;refine⟨([]:List d8).flatMap d8.c,([]:List d8).length,⟨rfl,rfl⟩,?_⟩;obtain⟨hg,hm⟩:=j0 hm;refine⟨hg,_,_,l6 (c:=d8.c) (l:=(([]:List d8):List d8)) (r:=(b_.Loose:List d8)),?_⟩;cases hm;exact d5v (d5t _)
theorem b6k(b_:n9)(r:n9)(hm:Y3 b_=some r):b8m Tryz.prog 86 [.agg (n9.c b_)] [(5,r.Thread.length,r.Thread.flatMap d8.c,53),(5,r.Loose.length,r.Loose.flatMap d8.c,53)] [.row 0 5,.row 1 5]:=by
 refine c5b (X:=⟨Tryz.prog,tt,Tryz.f86.ntmps,d2t,[80,112,155,175],[],[],[],[]⟩) pok _ func86 rfl rfl (J6 rfl) rfl ?_;refine⟨rfl,?_⟩;refine⟨([]:List d8).flatMap d8.c,([]:List d8).length,⟨rfl,rfl⟩,?_⟩;obtain⟨hg,hm⟩:=j0 hm;refine⟨hg,_,_,l6 (c:=d8.c) (l:=(([]:List d8):List d8)) (r:=(b_.Thread:List d8)),?_⟩;refine⟨([]:List d8).flatMap d8.c,([]:List d8).length,⟨rfl,rfl⟩,?_⟩;obtain⟨hg,hm⟩:=j0 hm;refine⟨hg,_,_,l6 (c:=d8.c) (l:=(([]:List d8):List d8)) (r:=(b_.Loose:List d8)),?_⟩;cases hm;exact⟨rfl,⟨⟨rfl,rfl,rfl,rfl⟩,⟨⟨rfl,rfl,rfl,rfl⟩,rfl⟩⟩⟩
def a4u(b_:n9)(written:(List b9))(r_:b9):Option (n9×(List b9)×Int):=
 (a1q b_ written).bind fun x1=>
 if(x1 !=0)=true then
  some ((⟨[],[]⟩:n9),[],84)
 else
  (a5F written r_).bind fun⟨x4,x5⟩=>
  if(x5 !=0)=true then
   some ((⟨[],[]⟩:n9),[],x5)
  else
   (Y3 b_).bind fun x8=>
   gd ((([]:List b9).length+written.length)*72≤140737488355328∧([]:List b9).length+written.length≤9223372036854775807)<|
   if x4=true then
    (a4h r_ ((([]:List b9)++written).length:Int)).bind fun z1=>
    gd ((x8.Loose.length+z1.length)*48≤140737488355328∧x8.Loose.length+z1.length≤9223372036854775807)<|
    gd (((([]:List b9)++written).length+([r_]:List b9).length)*72≤140737488355328∧(([]:List b9)++written).length+([r_]:List b9).length≤9223372036854775807)<|
    some ((⟨x8.Thread,(x8.Loose++z1)⟩:n9),((([]:List b9)++written)++([r_]:List b9)),0)
   else
    some (x8,(([]:List b9)++written),0)
theorem b3j(b_:n9)(written:(List b9))(r_:b9)(r:(n9×(List b9)×Int))(hm:a4u b_ written r_=some r):p0 Tryz.prog 24 [.agg (n9.c b_),lD 8 written b9.c,.agg (b9.c r_)] (fun x=>x=.tup [.agg (n9.c r.1),lD 8 r.2.1 b9.c,DI r.2.2]):=by
 refine zy d4I [80,112,155,175] [86] [] func24 rfl ?_;refine cy hm (a8H b_ written) fun x1 hm=>?_
 apply vb hm<;>intro _ hm;cases hm;exact d5v (le4);refine cy hm (b6w written r_) ?_;rintro⟨x4,x5⟩ hm;apply vb hm<;>intro _ hm;cases hm;exact d5v (le4);obtain⟨x8,hx9,hm⟩:=d9 hm;refine .inr (b3r.mk ⟨_,_,b6k b_ _ hx9,?_⟩);refine⟨([]:List b9).flatMap b9.c,([]:List b9).length,⟨rfl,rfl⟩,?_⟩;obtain⟨hg,hm⟩:=j0 hm;refine⟨hg,_,_,l6 (c:=b9.c) (l:=(([]:List b9):List b9)) (r:=(written:List b9)),?_⟩;apply vb hm<;>intro _ hm;refine⟨rfl,?_⟩;refine cy hm (b3w r_ (((([]:List b9)++written).length:Int))) fun z1 hm=>?_
 obtain⟨hg,hm⟩:=j0 hm;refine⟨hg,_,_,l6 (c:=d8.c) (l:=(x8.Loose:List d8)) (r:=(z1:List d8)),?_⟩;refine⟨([r_]:List b9).flatMap b9.c,([r_]:List b9).length,⟨rfl,rfl⟩,?_⟩;obtain⟨hg,hm⟩:=j0 hm;refine⟨hg,_,_,l6 (c:=b9.c) (l:=((([]:List b9)++written):List b9)) (r:=(([r_]:List b9):List b9)),?_⟩;cases hm;exact d5v (d5t _);cases hm;exact d5v (d5t _)
def a5Z(n:Int):Option ByteArray:=
 (F1 n 6).bind fun x1=>
 (idx ([(⟨#[]⟩:ByteArray),(⟨#[97]⟩:ByteArray),(⟨#[97,32,108,97,109,112,32,111,110,32,116,104,101,32,113,117,97,121]⟩:ByteArray),(⟨#[48,32,48,32,49,32,48,32,48,32,48]⟩:ByteArray),(⟨#[32]⟩:ByteArray),(⟨#[97,32,116,101,120,116,32,111,102,32,97,32,108,101,110,103,116,104,32,116,104,97,116,32,116,97,107,101,115,32,109,97,110,121,32,99,97,114,100,115,44,32,111,110,101,32,98,101,104,105,110,100,32,116,104,101,32,111,116,104,101,114,44,32,117,112,32,116,111,32,105,116,115,32,101,110,100]⟩:ByteArray)]:List ByteArray) x1).bind fun e3=>
 (idx ([(⟨#[]⟩:ByteArray),(⟨#[97]⟩:ByteArray),(⟨#[97,32,108,97,109,112,32,111,110,32,116,104,101,32,113,117,97,121]⟩:ByteArray),(⟨#[48,32,48,32,49,32,48,32,48,32,48]⟩:ByteArray),(⟨#[32]⟩:ByteArray),(⟨#[97,32,116,101,120,116,32,111,102,32,97,32,108,101,110,103,116,104,32,116,104,97,116,32,116,97,107,101,115,32,109,97,110,121,32,99,97,114,100,115,44,32,111,110,101,32,98,101,104,105,110,100,32,116,104,101,32,111,116,104,101,114,44,32,117,112,32,116,111,32,105,116,115,32,101,110,100]⟩:ByteArray)]:List ByteArray) x1).bind fun e5=>
 some e5
theorem c2k(n:Int)(r:ByteArray)(hm:a5Z n=some r):p0 Tryz.prog 90 [DI n] (fun x=>x=.v (.string r)):=by
 refine zn func90 rfl ?_;refine⟨([(⟨#[]⟩:ByteArray),(⟨#[97]⟩:ByteArray),(⟨#[97,32,108,97,109,112,32,111,110,32,116,104,101,32,113,117,97,121]⟩:ByteArray),(⟨#[48,32,48,32,49,32,48,32,48,32,48]⟩:ByteArray),(⟨#[32]⟩:ByteArray),(⟨#[97,32,116,101,120,116,32,111,102,32,97,32,108,101,110,103,116,104,32,116,104,97,116,32,116,97,107,101,115,32,109,97,110,121,32,99,97,114,100,115,44,32,111,110,101,32,98,101,104,105,110,100,32,116,104,101,32,111,116,104,101,114,44,32,117,112,32,116,111,32,105,116,115,32,101,110,100]⟩:ByteArray)]:List ByteArray).flatMap (fun(x:ByteArray)=>[.v (.string x)]),([(⟨#[]⟩:ByteArray),(⟨#[97]⟩:ByteArray),(⟨#[97,32,108,97,109,112,32,111,110,32,116,104,101,32,113,117,97,121]⟩:ByteArray),(⟨#[48,32,48,32,49,32,48,32,48,32,48]⟩:ByteArray),(⟨#[32]⟩:ByteArray),(⟨#[97,32,116,101,120,116,32,111,102,32,97,32,108,101,110,103,116,104,32,116,104,97,116,32,116,97,107,101,115,32,109,97,110,121,32,99,97,114,100,115,44,32,111,110,101,32,98,101,104,105,110,100,32,116,104,101,32,111,116,104,101,114,44,32,117,112,32,116,111,32,105,116,115,32,101,110,100]⟩:ByteArray)]:List ByteArray).length,⟨rfl,rfl⟩,?_⟩;refine cy hm (I8 n 6) fun x1 hm=>?_
 refine eb hm fun _ hm=>?_
 refine er hm fun _ hm=>?_
 cases hm;exact d5v (d5t _)
def a4g(a:o4)(b_:o4):Option Bool:=
 if(decide (a.Depot<b_.Depot))=true then
  some true
 else
  if(a.Depot==b_.Depot)=true then
   some (decide (a.No<b_.No))
  else
   some false
theorem b3l(a:o4)(b_:o4)(r:Bool)(hm:a4g a b_=some r):p0 Tryz.prog 114 [.agg (o4.c a),.agg (o4.c b_)] (fun x=>x=DB r):=by
 refine zn func114 rfl ?_;apply vb hm<;>intro _ hm;exact hm.rr;apply vb hm<;>intro _ hm;exact hm.rr;exact hm.rr
def Z9(b_:I4):Int→Option (Sum Int (Sum Int Int)):=fun x1=>
 if(decide (x1<(b_.Records.length:Int)))=true then
  (idx b_.Records x1).bind fun z1=>
  (G9 z1).bind fun w1=>
  if(w1 !=0)=true then
   some (.inr (.inr 81))
  else
   if(decide (x1>0))=true then
    (idx b_.Records (W (x1-1))).bind fun s1=>
    (a4g s1.At z1.At).bind fun t1=>
    if(!t1)=true then
     some (.inr (.inr 81))
    else
     gd ((0≤x1∧x1≤(b_.Records.length:Int))∧(0≤x1∧x1≤x1))<|
     Option.bind (some (sub b_.Records 0 (x1).toNat)) fun q1=>
     (Y4 q1).bind fun u1=>
     (idx [u1.1,u1.2.1,u1.2.2.1,u1.2.2.2.1,u1.2.2.2.2.1,u1.2.2.2.2.2] z1.At.Depot).bind fun p1=>
     if(p1 !=z1.At.No)=true then
      some (.inr (.inr 81))
     else
      some (.inl (W (x1+1)))
   else
    gd ((0≤x1∧x1≤(b_.Records.length:Int))∧(0≤x1∧x1≤x1))<|
    Option.bind (some (sub b_.Records 0 (x1).toNat)) fun n1=>
    (Y4 n1).bind fun v1=>
    (idx [v1.1,v1.2.1,v1.2.2.1,v1.2.2.2.1,v1.2.2.2.2.1,v1.2.2.2.2.2] z1.At.Depot).bind fun k1=>
    if(k1 !=z1.At.No)=true then
     some (.inr (.inr 81))
    else
     some (.inl (W (x1+1)))
 else
  some (.inr (.inl x1))
def a5S(b_:I4):Option Int:=
 if(decide ((b_.Records.length:Int)>60))=true then
  some 81
 else
  (o8 (Z9 b_) 0).bind fun e=>
  match e with
  |.inl z1=>
   some 0
  |.inr x1=>
   some x1
theorem c1e(b_:I4)(r:Int)(hm:a5S b_=some r):p0 Tryz.prog 53 [.agg (I4.c b_)] (fun x=>x=DI r):=by
 refine zy d4X [] [] [] func53 rfl ?_;apply vb hm<;>intro _ hm;exact hm.rr;obtain⟨n1,he,u1⟩:=d9 hm;refine d5w (Z9 b_) (fun z1=>⟨[(1,.own 0 0),(3,DI z1)],[(0,.blk [lD 8 b_.Records b9.c] 70)],1⟩) 0 (sb 1) he ?_;rintro k1 z1 b hm x1;apply vb hm<;>intro _ hm;refine ei hm fun v1 hm=>?_
 refine⟨rfl,?_⟩;refine cy hm (X7 v1) fun j1 hm=>?_
 apply vb hm<;>intro _ hm;cases hm;cases x1;have hm:=u1;exact hm.rr;apply vb hm<;>intro _ hm;refine ei hm fun p1 hm=>?_
 refine cy hm (b3l p1.At v1.At) fun h1 hm=>?_
 apply vb hm<;>intro _ hm;cases hm;cases x1;have hm:=u1;exact hm.rr;obtain⟨hg,hm⟩:=j0 hm;obtain⟨w1,hy,hm⟩:=d9 hm;refine⟨hg.1,hg.2,_,(S1 (c:=b9.c) (z:=8) (fun _=>rfl) _ _ _).trans (Y7 _ (E0 hy)),?_⟩;have hl:w1.length=(z1).toNat-0:=by rw[←E0 hy];exact a0r (by omega)
 rw[←hl];refine cy hm (a1s w1) fun g1 hm=>?_
 obtain⟨f1,s1,hm⟩:=d9 hm;refine⟨a2x s1,_,a3K (c:=cI) (z:=1) (fun _=>rfl) s1 rfl (by omega) rfl,?_⟩;apply vb hm<;>intro _ hm;cases hm;cases x1;have hm:=u1;exact hm.rr;cases hm;exact⟨(_,(W (z1+1))),sb 1,x1,D6 _⟩;obtain⟨hg,hm⟩:=j0 hm;obtain⟨t1,hy,hm⟩:=d9 hm;refine⟨hg.1,hg.2,_,(S1 (c:=b9.c) (z:=8) (fun _=>rfl) _ _ _).trans (Y7 _ (E0 hy)),?_⟩;have hl:t1.length=(z1).toNat-0:=by rw[←E0 hy];exact a0r (by omega)
 rw[←hl];refine cy hm (a1s t1) fun e1 hm=>?_
 obtain⟨c1,q1,hm⟩:=d9 hm;refine⟨a2x q1,_,a3K (c:=cI) (z:=1) (fun _=>rfl) q1 rfl (by omega) rfl,?_⟩;apply vb hm<;>intro _ hm;cases hm;cases x1;have hm:=u1;exact hm.rr;cases hm;exact⟨(_,(W (z1+1))),sb 1,x1,D6 _⟩;cases hm;cases x1;have hm:=u1;exact hm.rr
def a0x(l:(List b9))(r_:b9):Int→Option (Sum Int Int):=fun at_7=>
 if(decide (at_7<(l.length:Int)))=true then
  (idx l at_7).bind fun x1=>
  (a4g x1.At r_.At).bind fun z1=>
  if z1=true then
   some (.inl (W (at_7+1)))
  else
   some (.inr at_7)
 else
  some (.inr at_7)
def a7o(l:(List b9))(r_:b9):Option (List b9):=
 (o8 (a0x l r_) 0).bind fun at_20=>
 gd ((0≤at_20∧at_20≤(l.length:Int)))<|
 Option.bind (some (sub l 0 (at_20).toNat)) fun x1=>
 gd ((0≤at_20∧at_20≤(l.length:Int)))<|
 Option.bind (some (sub l (at_20).toNat l.length)) fun z1=>
 gd ((([]:List b9).length+x1.length)*72≤140737488355328∧([]:List b9).length+x1.length≤9223372036854775807)<|
 gd (((([]:List b9)++x1).length+([r_]:List b9).length)*72≤140737488355328∧(([]:List b9)++x1).length+([r_]:List b9).length≤9223372036854775807)<|
 gd ((((([]:List b9)++x1)++([r_]:List b9)).length+z1.length)*72≤140737488355328∧((([]:List b9)++x1)++([r_]:List b9)).length+z1.length≤9223372036854775807)<|
 some (((([]:List b9)++x1)++([r_]:List b9))++z1)
theorem b7u(l:(List b9))(r_:b9)(r:(List b9))(hm:a7o l r_=some r):p0 Tryz.prog 106 [lD 8 l b9.c,.agg (b9.c r_)] (fun x=>x=lD 8 r b9.c):=by
 refine zy d2f [] [] [] func106 rfl ?_;obtain⟨s1,he,t1⟩:=d9 hm;refine d5w (a0x l r_) (fun at_7=>⟨[(0,lD 8 l b9.c),(3,.own 0 0),(5,DI at_7)],[(0,.blk (b9.c r_) 38)],1⟩) 0 (sb 1) he ?_;rintro p1 at_7 b hm u1;refine⟨rfl,?_⟩;apply vb hm<;>intro _ hm;refine ei hm fun q1 hm=>?_
 refine cy hm (b3l q1.At r_.At) fun n1 hm=>?_
 apply vb hm<;>intro _ hm;cases hm;exact⟨(_,(W (at_7+1))),sb 1,u1,D6 _⟩;cases hm;have hm:=t1;rw[show s1=at_7 from by first|exact u1|exact u1.symm]at hm
 refine⟨rfl,?_⟩;obtain⟨hg,hm⟩:=j0 hm;obtain⟨x1,hy,hm⟩:=d9 hm;refine⟨hg,_,(S1 (c:=b9.c) (z:=8) (fun _=>rfl) _ _ _).trans (Y7 _ (E0 hy)),?_⟩;have hl:x1.length=(at_7).toNat-0:=by rw[←E0 hy];exact a0r (by omega)
 rw[←hl];obtain⟨hg,hm⟩:=j0 hm;obtain⟨v1,hy,hm⟩:=d9 hm;refine⟨hg,_,(S1 (c:=b9.c) (z:=8) (fun _=>rfl) _ _ _).trans (Y7 _ (E0 hy)),?_⟩;have hl:v1.length=l.length-(at_7).toNat:=by rw[←E0 hy];exact a0r (by omega)
 rw[←hl];refine⟨?_,?_⟩;refine⟨([r_]:List b9).flatMap b9.c,([r_]:List b9).length,⟨rfl,rfl⟩,?_⟩;refine⟨([]:List b9).flatMap b9.c,([]:List b9).length,⟨rfl,rfl⟩,?_⟩;obtain⟨hg,hm⟩:=j0 hm;refine⟨hg,_,_,l6 (c:=b9.c) (l:=(([]:List b9):List b9)) (r:=(x1:List b9)),?_⟩;obtain⟨hg,hm⟩:=j0 hm;refine⟨hg,_,_,l6 (c:=b9.c) (l:=((([]:List b9)++x1):List b9)) (r:=(([r_]:List b9):List b9)),?_⟩;obtain⟨hg,hm⟩:=j0 hm;refine⟨hg,_,_,l6 (c:=b9.c) (l:=(((([]:List b9)++x1)++([r_]:List b9)):List b9)) (r:=(v1:List b9)),?_⟩;cases hm;exact d5v (d5t _);refine⟨([]:List b9).flatMap b9.c,([]:List b9).length,⟨rfl,rfl⟩,?_⟩;obtain⟨hg,hm⟩:=j0 hm;refine⟨hg,_,_,l6 (c:=b9.c) (l:=(([]:List b9):List b9)) (r:=(x1:List b9)),?_⟩;refine⟨([r_]:List b9).flatMap b9.c,([r_]:List b9).length,⟨rfl,rfl⟩,?_⟩;obtain⟨hg,hm⟩:=j0 hm;refine⟨hg,_,_,l6 (c:=b9.c) (l:=((([]:List b9)++x1):List b9)) (r:=(([r_]:List b9):List b9)),?_⟩;obtain⟨hg,hm⟩:=j0 hm;refine⟨hg,_,_,l6 (c:=b9.c) (l:=(((([]:List b9)++x1)++([r_]:List b9)):List b9)) (r:=(v1:List b9)),?_⟩;cases hm;exact d5v (d5t _);cases hm;have hm:=t1;rw[show s1=at_7 from by first|exact u1|exact u1.symm]at hm
 refine⟨rfl,?_⟩;obtain⟨hg,hm⟩:=j0 hm;obtain⟨z1,hy,hm⟩:=d9 hm;refine⟨hg,_,(S1 (c:=b9.c) (z:=8) (fun _=>rfl) _ _ _).trans (Y7 _ (E0 hy)),?_⟩;have hl:z1.length=(at_7).toNat-0:=by rw[←E0 hy];exact a0r (by omega)
 rw[←hl];obtain⟨hg,hm⟩:=j0 hm;obtain⟨w1,hy,hm⟩:=d9 hm;refine⟨hg,_,(S1 (c:=b9.c) (z:=8) (fun _=>rfl) _ _ _).trans (Y7 _ (E0 hy)),?_⟩;have hl:w1.length=l.length-(at_7).toNat:=by rw[←E0 hy];exact a0r (by omega)
 rw[←hl];refine⟨?_,?_⟩;refine⟨([r_]:List b9).flatMap b9.c,([r_]:List b9).length,⟨rfl,rfl⟩,?_⟩;refine⟨([]:List b9).flatMap b9.c,([]:List b9).length,⟨rfl,rfl⟩,?_⟩;obtain⟨hg,hm⟩:=j0 hm;refine⟨hg,_,_,l6 (c:=b9.c) (l:=(([]:List b9):List b9)) (r:=(z1:List b9)),?_⟩;obtain⟨hg,hm⟩:=j0 hm;refine⟨hg,_,_,l6 (c:=b9.c) (l:=((([]:List b9)++z1):List b9)) (r:=(([r_]:List b9):List b9)),?_⟩;obtain⟨hg,hm⟩:=j0 hm;refine⟨hg,_,_,l6 (c:=b9.c) (l:=(((([]:List b9)++z1)++([r_]:List b9)):List b9)) (r:=(w1:List b9)),?_⟩;cases hm;exact d5v (d5t _);refine⟨([]:List b9).flatMap b9.c,([]:List b9).length,⟨rfl,rfl⟩,?_⟩;obtain⟨hg,hm⟩:=j0 hm;refine⟨hg,_,_,l6 (c:=b9.c) (l:=(([]:List b9):List b9)) (r:=(z1:List b9)),?_⟩;refine⟨([r_]:List b9).flatMap b9.c,([r_]:List b9).length,⟨rfl,rfl⟩,?_⟩;obtain⟨hg,hm⟩:=j0 hm;refine⟨hg,_,_,l6 (c:=b9.c) (l:=((([]:List b9)++z1):List b9)) (r:=(([r_]:List b9):List b9)),?_⟩;obtain⟨hg,hm⟩:=j0 hm;refine⟨hg,_,_,l6 (c:=b9.c) (l:=(((([]:List b9)++z1)++([r_]:List b9)):List b9)) (r:=(w1:List b9)),?_⟩;cases hm;exact d5v (d5t _)
def V2(l:(List b9)):((List b9)×Int)→Option (Sum ((List b9)×Int) ((List b9)×Int)):=fun(out6,i7)=>
 if(decide (i7<(l.length:Int)))=true then
  (idx l i7).bind fun x1=>
  (a7o out6 x1).bind fun z1=>
  some (.inl (z1,(W (i7+1))))
 else
  some (.inr (out6,i7))
def a5a(l:(List b9)):Option (List b9):=
 (o8 (V2 l) ([],0)).bind fun(x1,z1)=>
 some x1
theorem b9S(l:(List b9))(r:(List b9))(hm:a5a l=some r):p0 Tryz.prog 108 [lD 8 l b9.c] (fun x=>x=lD 8 r b9.c):=by
 refine zn func108 rfl ?_;obtain⟨w1,he,z1⟩:=d9 hm;refine d5w (V2 l) (fun(out6,i7)=>⟨[(0,lD 8 l b9.c),(3,lD 8 out6 b9.c),(4,DI i7)],[],0⟩) ([],0) (I1.of 0 rfl ⟨tR rfl,⟨_,rfl,d5u⟩,tR rfl,trivial⟩ trivial) he ?_;rintro s1 ⟨out6,i7⟩ b hm x1;apply vb hm<;>intro _ hm;refine ei hm fun u1 hm=>?_
 refine cy hm (b7u out6 u1) fun v1 hm=>?_
 cases hm;exact⟨(_,(v1,(W (i7+1)))),sb 0,x1,D6 _⟩;cases hm;cases x1;have hm:=z1;cases hm;exact d5v (d5t _)
def a9E(b_:I4)(r_:b9):Option (I4×Int):=
 (a5S b_).bind fun x1=>
 if(x1 !=0)=true then
  some ((⟨[]⟩:I4),81)
 else
  (a5F b_.Records r_).bind fun⟨x4,x5⟩=>
  if(x5 !=0)=true then
   some ((⟨[]⟩:I4),x5)
  else
   if(!x4)=true then
    gd ((([]:List b9).length+b_.Records.length)*72≤140737488355328∧([]:List b9).length+b_.Records.length≤9223372036854775807)<|
    some ((⟨(([]:List b9)++b_.Records)⟩:I4),0)
   else
    (a7o b_.Records r_).bind fun x9=>
    some ((⟨x9⟩:I4),0)
theorem d2c(b_:I4)(r_:b9)(r:(I4×Int))(hm:a9E b_ r_=some r):p0 Tryz.prog 48 [.agg (I4.c b_),.agg (b9.c r_)] (fun x=>x=.tup [.agg (I4.c r.1),DI r.2]):=by
 refine zn func48 rfl ?_;refine cy hm (c1e b_) fun x1 hm=>?_
 apply vb hm<;>intro _ hm;cases hm;exact d5v (le3);refine cy hm (b6w b_.Records r_) ?_;rintro⟨x4,x5⟩ hm;apply vb hm<;>intro _ hm;cases hm;exact d5v (le3);apply vb hm<;>intro _ hm;refine⟨([]:List b9).flatMap b9.c,([]:List b9).length,⟨rfl,rfl⟩,?_⟩;obtain⟨hg,hm⟩:=j0 hm;refine⟨hg,_,_,l6 (c:=b9.c) (l:=(([]:List b9):List b9)) (r:=(b_.Records:List b9)),?_⟩;cases hm;exact d5v (d5t _);refine cy hm (b7u b_.Records r_) fun x9 hm=>?_
 cases hm;exact d5v (d5t _)
def a0Z(me:Int):Option (e9×Int):=
 (K7 me 0 5).bind fun x1=>
 if(!x1)=true then
  some ( zD0,1)
 else
  some ((⟨me,(⟨[],[]⟩:n9),[],((0,0,0,0,0,0),(0,0,0,0,0,0),(0,0,0,0,0,0),(0,0,0,0,0,0),(0,0,0,0,0,0),(0,0,0,0,0,0))⟩:e9),0)
theorem a8K(me:Int)(r:(e9×Int))(hm:a0Z me=some r):p0 Tryz.prog 56 [DI me] (fun x=>x=.tup [.agg (e9.c r.1),DI r.2]):=by
 refine zn func56 rfl ?_;refine cy hm (S5 me 0 5) fun x1 hm=>?_
 apply vb hm<;>intro _ hm;cases hm;exact d5v (le6);cases hm;exact d5v (le6)
def R4(l:(Int×Int×Int×Int×Int×Int)):Int→Option (Sum Int (Sum Int Bool)):=fun i6=>
 if(decide (i6<6))=true then
  gd (0≤i6∧i6<6)<|
  (idx [l.1,l.2.1,l.2.2.1,l.2.2.2.1,l.2.2.2.2.1,l.2.2.2.2.2] i6).bind fun x1=>
  (K7 x1 0 60).bind fun z1=>
  if(!z1)=true then
   some (.inr (.inr false))
  else
   some (.inl (W (i6+1)))
 else
  some (.inr (.inl i6))
def a0G(l:(Int×Int×Int×Int×Int×Int)):Option Bool:=
 (o8 (R4 l) 0).bind fun e=>
 match e with
 |.inl z1=>
  some true
 |.inr x1=>
  some x1
theorem a8o(l:(Int×Int×Int×Int×Int×Int))(r:Bool)(hm:a0G l=some r):p0 Tryz.prog 152 [.agg [DI l.1,DI l.2.1,DI l.2.2.1,DI l.2.2.2.1,DI l.2.2.2.2.1,DI l.2.2.2.2.2]] (fun x=>x=DB r):=by
 refine zn func152 rfl ?_;obtain⟨w1,he,z1⟩:=d9 hm;refine d5w (R4 l) (fun i6=>⟨[(1,.own 0 0),(3,DI i6)],[(0,.blk [DI l.1,DI l.2.1,DI l.2.2.1,DI l.2.2.2.1,DI l.2.2.2.2.1,DI l.2.2.2.2.2] 78)],1⟩) 0 (sb 1) he ?_;rintro s1 i6 b hm x1;apply vb hm<;>intro _ hm;obtain⟨hg,hm⟩:=j0 hm;refine⟨hg,?_⟩;obtain⟨u1,v1,hm⟩:=d9 hm;refine⟨_,a3K (r:=[DI u1]) (c:=cI) (z:=1) (fun _=>rfl) v1 rfl (by omega) rfl,?_⟩;refine cy hm (S5 u1 0 60) fun t1 hm=>?_
 apply vb hm<;>intro _ hm;cases hm;cases x1;have hm:=z1;exact hm.rr;cases hm;exact⟨(_,(W (i6+1))),sb 1,x1,D6 _⟩;cases hm;cases x1;have hm:=z1;exact hm.rr
def P4(d:e9):Int→Option (Sum Int (Sum Int Int)):=fun x1=>
 if(decide (x1<6))=true then
  gd (0≤x1∧x1<6)<|
  (idx [d.Known.1,d.Known.2.1,d.Known.2.2.1,d.Known.2.2.2.1,d.Known.2.2.2.2.1,d.Known.2.2.2.2.2] x1).bind fun z1=>
  (a0G z1).bind fun u1=>
  if(!u1)=true then
   some (.inr (.inr 85))
  else
   some (.inl (W (x1+1)))
 else
  some (.inr (.inl x1))
def M8(d:e9):Option Int:=
 (K7 d.Me 0 5).bind fun x1=>
 if(!x1)=true then
  some 85
 else
  (a1q d.Box d.Written).bind fun x4=>
  if(x4 !=0)=true then
   some 85
  else
   (o8 (P4 d) 0).bind fun e=>
   match e with
   |.inl u1=>
    some 0
   |.inr z1=>
    some z1
theorem a1u(d:e9)(r:Int)(hm:M8 d=some r):p0 Tryz.prog 120 [.agg (e9.c d)] (fun x=>x=DI r):=by
 refine zn func120 rfl ?_;refine cy hm (S5 d.Me 0 5) fun x1 hm=>?_
 apply vb hm<;>intro _ hm;exact hm.rr;refine cy hm (a8H d.Box d.Written) fun x4 hm=>?_
 apply vb hm<;>intro _ hm;exact hm.rr;obtain⟨t1,he,w1⟩:=d9 hm;refine d5w (P4 d) (fun u1=>⟨[(1,.own 0 0),(3,DI u1)],[(0,.blk (e9.c d) 91)],1⟩) 0 (sb 1) he ?_;rintro q1 u1 b hm v1;apply vb hm<;>intro _ hm;obtain⟨hg,hm⟩:=j0 hm;refine⟨hg,?_⟩;obtain⟨z1,s1,hm⟩:=d9 hm;refine⟨_,ldx (r:=[DI z1.1,DI z1.2.1,DI z1.2.2.1,DI z1.2.2.2.1,DI z1.2.2.2.2.1,DI z1.2.2.2.2.2]) (c:=cf1) (z:=6) (pre:=[DI d.Me,lD 5 d.Box.Thread d8.c,lD 5 d.Box.Loose d8.c,lD 8 d.Written b9.c]) (post:=[]) (b:=4) (off:=0) (fun _=>rfl) s1 rfl rfl (by omega) rfl,?_⟩;refine cy hm (a8o z1) fun p1 hm=>?_
 apply vb hm<;>intro _ hm;cases hm;cases v1;have hm:=w1;exact hm.rr;cases hm;exact⟨(_,(W (u1+1))),sb 1,v1,D6 _⟩;cases hm;cases v1;have hm:=w1;exact hm.rr
def a5x(d:e9)(r_:b9):Option (e9×b9×Int):=
 (M8 d).bind fun x1=>
 if(x1 !=0)=true then
  some ( zD0,(⟨(⟨0,0⟩:o4),0,0,0,(⟨0,0⟩:o4),(⟨#[]⟩:ByteArray)⟩:b9),85)
 else
  (Y4 d.Written).bind fun x4=>
  (idx [x4.1,x4.2.1,x4.2.2.1,x4.2.2.2.1,x4.2.2.2.2.1,x4.2.2.2.2.2] d.Me).bind fun e6=>
  (a4u d.Box d.Written (⟨(⟨d.Me,e6⟩:o4),r_.Kind,r_.Day,r_.Known,r_.Of,r_.Text⟩:b9)).bind fun⟨x8,x9,z1⟩=>
  if(z1 !=0)=true then
   some ( zD0,(⟨(⟨0,0⟩:o4),0,0,0,(⟨0,0⟩:o4),(⟨#[]⟩:ByteArray)⟩:b9),z1)
  else
   some ((⟨d.Me,x8,x9,d.Known⟩:e9),(⟨(⟨d.Me,e6⟩:o4),r_.Kind,r_.Day,r_.Known,r_.Of,r_.Text⟩:b9),0)
theorem b5a(d:e9)(r_:b9)(r:(e9×b9×Int))(hm:a5x d r_=some r):p0 Tryz.prog 58 [.agg (e9.c d),.agg (b9.c r_)] (fun x=>x=.tup [.agg (e9.c r.1),.agg (b9.c r.2.1),DI r.2.2]):=by
 refine zy d5p [] [] [] func58 rfl ?_;refine cy hm (a1u d) fun x1 hm=>?_
 apply vb hm<;>intro _ hm;cases hm;exact d5v (le7);refine⟨rfl,?_⟩;refine cy hm (a1s d.Written) fun x4 hm=>?_
 obtain⟨e6,hx7,hm⟩:=d9 hm;refine⟨a2x hx7,_,a3K (c:=cI) (z:=1) (fun _=>rfl) hx7 rfl (by omega) rfl,?_⟩;refine cy hm (b3j d.Box d.Written ((⟨(⟨d.Me,e6⟩:o4),r_.Kind,r_.Day,r_.Known,r_.Of,r_.Text⟩:b9))) ?_;rintro⟨x8,x9,z1⟩ hm;apply vb hm<;>intro _ hm;cases hm;exact d5v (le7);refine⟨rfl,?_⟩;cases hm;exact d5v (d5t _)
def a0E(d:e9):Option e9:=
 (Y3 d.Box).bind fun x1=>
 gd ((([]:List b9).length+d.Written.length)*72≤140737488355328∧([]:List b9).length+d.Written.length≤9223372036854775807)<|
 some (⟨d.Me,x1,(([]:List b9)++d.Written),d.Known⟩:e9)
theorem a8p(d:e9)(r:e9)(hm:a0E d=some r):p0 Tryz.prog 123 [.agg (e9.c d)] (fun x=>x=.agg (e9.c r)):=by
 refine zn func123 rfl ?_;refine cy hm (b7c d.Box) fun x1 hm=>?_
 refine⟨([]:List b9).flatMap b9.c,([]:List b9).length,⟨rfl,rfl⟩,?_⟩;obtain⟨hg,hm⟩:=j0 hm;refine⟨hg,_,_,l6 (c:=b9.c) (l:=(([]:List b9):List b9)) (r:=(d.Written:List b9)),?_⟩;cases hm;exact d5v (d5t _)
def a3E(d:e9)(to_:Int):Option (e9×c8×Int):=
 (M8 d).bind fun x1=>
 if(x1 !=0)=true then
  some ( zD0,(⟨0,0,(0,0,0,0,0,0),[]⟩:c8),85)
 else
  (K7 to_ 0 5).bind fun x4=>
  if(!x4)=true then
   some ( zD0,(⟨0,0,(0,0,0,0,0,0),[]⟩:c8),1)
  else
   if(to_==d.Me)=true then
    some ( zD0,(⟨0,0,(0,0,0,0,0,0),[]⟩:c8),1)
   else
    (a0E d).bind fun x8=>
    (a5N d.Box).bind fun z1=>
    (Y4 d.Written).bind fun u1=>
    some ((⟨x8.Me,z1,x8.Written,x8.Known⟩:e9),(⟨d.Me,to_,u1,[]⟩:c8),0)
theorem b0P(d:e9)(to_:Int)(r:(e9×c8×Int))(hm:a3E d to_=some r):p0 Tryz.prog 60 [.agg (e9.c d),DI to_] (fun x=>x=.tup [.agg (e9.c r.1),.agg (c8.c r.2.1),DI r.2.2]):=by
 refine zy d4H [] [] [] func60 rfl ?_;refine cy hm (a1u d) fun x1 hm=>?_
 apply vb hm<;>intro _ hm;cases hm;exact d5v (le8);refine cy hm (S5 to_ 0 5) fun x4 hm=>?_
 apply vb hm<;>intro _ hm;cases hm;exact d5v (le8);apply vb hm<;>intro _ hm;cases hm;exact d5v (le8);refine cy hm (a8p d) fun x8 hm=>?_
 refine cy hm (b5v d.Box) fun z1 hm=>?_
 refine⟨rfl,?_⟩;refine cy hm (a1s d.Written) fun u1 hm=>?_
 cases hm;exact d5v (le9)
def M2(m:c8):Int→Option (Sum Int (Sum Int Int)):=fun x1=>
 if(decide (x1<(m.Records.length:Int)))=true then
  (idx m.Records x1).bind fun z1=>
  (G9 z1).bind fun u1=>
  if(u1 !=0)=true then
   some (.inr (.inr 86))
  else
   some (.inl (W (x1+1)))
 else
  some (.inr (.inl x1))
def a0y(m:c8):Option Int:=
 (K7 m.From 0 5).bind fun x1=>
 if(!x1)=true then
  some 86
 else
  (K7 m.To 0 5).bind fun x4=>
  if(!x4)=true then
   some 86
  else
   if(m.From==m.To)=true then
    some 86
   else
    (a0G m.Have).bind fun x8=>
    if(!x8)=true then
     some 86
    else
     if(decide ((m.Records.length:Int)>6))=true then
      some 86
     else
      (o8 (M2 m) 0).bind fun e=>
      match e with
      |.inl u1=>
       some 0
      |.inr z1=>
       some z1
theorem b1d(m:c8)(r:Int)(hm:a0y m=some r):p0 Tryz.prog 126 [.agg (c8.c m)] (fun x=>x=DI r):=by
 refine zn func126 rfl ?_;refine cy hm (S5 m.From 0 5) fun x1 hm=>?_
 apply vb hm<;>intro _ hm;exact hm.rr;refine cy hm (S5 m.To 0 5) fun x4 hm=>?_
 apply vb hm<;>intro _ hm;exact hm.rr;apply vb hm<;>intro _ hm;exact hm.rr;refine cy hm (a8o m.Have) fun x8 hm=>?_
 apply vb hm<;>intro _ hm;exact hm.rr;apply vb hm<;>intro _ hm;exact hm.rr;obtain⟨s1,he,v1⟩:=d9 hm;refine d5w (M2 m) (fun z1=>⟨[(1,.own 0 0),(3,DI z1)],[(0,.blk (c8.c m) 86)],1⟩) 0 (sb 1) he ?_;rintro t1 z1 b hm u1;apply vb hm<;>intro _ hm;refine ei hm fun w1 hm=>?_
 refine cy hm (X7 w1) fun q1 hm=>?_
 apply vb hm<;>intro _ hm;cases hm;cases u1;have hm:=v1;exact hm.rr;cases hm;exact⟨(_,(W (z1+1))),sb 1,u1,D6 _⟩;cases hm;cases u1;have hm:=v1;exact hm.rr
def M6(m:c8):(Int×e9)→Option (Sum (Int×e9) (Sum (Int×e9) (e9×(List c8)×Int))):=fun(u1,x1)=>
 if(decide (u1<(m.Records.length:Int)))=true then
  (idx m.Records u1).bind fun v1=>
  (Y4 x1.Written).bind fun z1=>
  (idx [z1.1,z1.2.1,z1.2.2.1,z1.2.2.2.1,z1.2.2.2.2.1,z1.2.2.2.2.2] v1.At.Depot).bind fun s1=>
  if(decide (v1.At.No>s1))=true then
   some (.inl ((W (u1+1)),x1))
  else
   (a4u x1.Box x1.Written v1).bind fun⟨t1,q1,w1⟩=>
   if(w1 !=0)=true then
    some (.inr (.inr ( zD0,[],w1)))
   else
    some (.inl ((W (u1+1)),(⟨x1.Me,t1,q1,x1.Known⟩:e9)))
 else
  some (.inr (.inl (u1,x1)))
def Q6(m:c8)(v1:(Int×Int×Int×Int×Int×Int)):(Bool×Int×e9)→Option (Sum (Bool×Int×e9) (Bool×Int×e9)):=fun(answer86,x1,z1)=>
 if(decide (x1<6))=true then
  gd (0≤m.From∧m.From<6)<|
  gd (0≤x1∧x1<6)<|
  (idx [z1.Known.1,z1.Known.2.1,z1.Known.2.2.1,z1.Known.2.2.2.1,z1.Known.2.2.2.2.1,z1.Known.2.2.2.2.2] m.From).bind fun w1=>
  (idx [w1.1,w1.2.1,w1.2.2.1,w1.2.2.2.1,w1.2.2.2.2.1,w1.2.2.2.2.2] x1).bind fun q1=>
  gd (0≤x1∧x1<6)<|
  (idx [m.Have.1,m.Have.2.1,m.Have.2.2.1,m.Have.2.2.2.1,m.Have.2.2.2.2.1,m.Have.2.2.2.2.2] x1).bind fun p1=>
  gd (0≤m.From∧m.From<6)<|
  gd (0≤x1∧x1<6)<|
  (idx [z1.Known.1,z1.Known.2.1,z1.Known.2.2.1,z1.Known.2.2.2.1,z1.Known.2.2.2.2.1,z1.Known.2.2.2.2.2] m.From).bind fun u1=>
  (idx [u1.1,u1.2.1,u1.2.2.1,u1.2.2.2.1,u1.2.2.2.2.1,u1.2.2.2.2.2] x1).bind fun v2=>
  Option.bind (some (if p1>q1 then p1 else q1)) fun s1=>
  Option.bind (some (if(x1==0)=true then s1 else u1.1)) fun e1=>
  Option.bind (some (if(x1==1)=true then s1 else u1.2.1)) fun c1=>
  Option.bind (some (if(x1==2)=true then s1 else u1.2.2.1)) fun b1=>
  Option.bind (some (if(x1==3)=true then s1 else u1.2.2.2.1)) fun a1=>
  Option.bind (some (if(x1==4)=true then s1 else u1.2.2.2.2.1)) fun x2=>
  Option.bind (some (if(x1==5)=true then s1 else u1.2.2.2.2.2)) fun y2=>
  Option.bind (some (e1,c1,b1,a1,x2,y2)) fun t1=>
  Option.bind (some (if(m.From==0)=true then t1 else z1.Known.1)) fun n1=>
  Option.bind (some (if(m.From==1)=true then t1 else z1.Known.2.1)) fun k1=>
  Option.bind (some (if(m.From==2)=true then t1 else z1.Known.2.2.1)) fun j1=>
  Option.bind (some (if(m.From==3)=true then t1 else z1.Known.2.2.2.1)) fun h1=>
  Option.bind (some (if(m.From==4)=true then t1 else z1.Known.2.2.2.2.1)) fun g1=>
  Option.bind (some (if(m.From==5)=true then t1 else z1.Known.2.2.2.2.2)) fun f1=>
  if answer86=true then
   some (.inl (true,(W (x1+1)),(⟨z1.Me,z1.Box,z1.Written,(n1,k1,j1,h1,g1,f1)⟩:e9)))
  else
   gd (0≤x1∧x1<6)<|
   (idx [m.Have.1,m.Have.2.1,m.Have.2.2.1,m.Have.2.2.2.1,m.Have.2.2.2.2.1,m.Have.2.2.2.2.2] x1).bind fun z2=>
   gd (0≤x1∧x1<6)<|
   (idx [v1.1,v1.2.1,v1.2.2.1,v1.2.2.2.1,v1.2.2.2.2.1,v1.2.2.2.2.2] x1).bind fun u2=>
   some (.inl ((decide (z2>u2)),(W (x1+1)),(⟨z1.Me,z1.Box,z1.Written,(n1,k1,j1,h1,g1,f1)⟩:e9)))
 else
  some (.inr (answer86,x1,z1))
def a0b(m:c8)(u1:(List b9)):(Int×(List b9))→Option (Sum (Int×(List b9)) (Int×(List b9))):=fun(x1,z1)=>
 if(decide (x1<(u1.length:Int)))=true then
  if(decide ((z1.length:Int)<6))=true then
   (idx u1 x1).bind fun s1=>
   (idx u1 x1).bind fun v1=>
   gd (0≤v1.At.Depot∧v1.At.Depot<6)<|
   (idx [m.Have.1,m.Have.2.1,m.Have.2.2.1,m.Have.2.2.2.1,m.Have.2.2.2.2.1,m.Have.2.2.2.2.2] v1.At.Depot).bind fun t1=>
   if(decide (s1.At.No≥t1))=true then
    (idx u1 x1).bind fun w1=>
    gd ((z1.length+([w1]:List b9).length)*72≤140737488355328∧z1.length+([w1]:List b9).length≤9223372036854775807)<|
    some (.inl ((W (x1+1)),(z1++([w1]:List b9))))
   else
    some (.inl ((W (x1+1)),z1))
  else
   some (.inr (x1,z1))
 else
  some (.inr (x1,z1))
def a0I(d:e9)(m:c8):Option (e9×(List c8)×Int):=
 (M8 d).bind fun x1=>
 if(x1 !=0)=true then
  some ( zD0,[],85)
 else
  (a0y m).bind fun x4=>
  if(x4 !=0)=true then
   some ( zD0,[],86)
  else
   if(m.To !=d.Me)=true then
    some ( zD0,[],86)
   else
    (a0E d).bind fun x8=>
    (o8 (M6 m) (0,x8)).bind fun e=>
    match e with
    |.inl (p1,z1)=>
     (a5N z1.Box).bind fun s1=>
     (Y4 z1.Written).bind fun v1=>
     (o8 (Q6 m v1) ((decide ((z1.Written.length:Int)>(d.Written.length:Int))),0,(⟨z1.Me,s1,z1.Written,z1.Known⟩:e9))).bind fun(answer149,n1,u1)=>
     (a5a u1.Written).bind fun t1=>
     (o8 (a0b m t1) (0,[])).bind fun(k1,w1)=>
     if answer149=true then
      some (u1,[(⟨d.Me,m.From,v1,w1⟩:c8)],0)
     else
      if(decide ((w1.length:Int)>0))=true then
       some (u1,[(⟨d.Me,m.From,v1,w1⟩:c8)],0)
      else
       some (u1,[],0)
    |.inr q1=>
     some q1
theorem a6L(d:e9)(m:c8)(r:(e9×(List c8)×Int))(hm:a0I d m=some r):p0 Tryz.prog 62 [.agg (e9.c d),.agg (c8.c m)] (fun x=>x=.tup [.agg (e9.c r.1),lD 9 r.2.1 c8.c,DI r.2.2]):=by
 refine zy d4Q [] [] [] func62 rfl ?_;refine cy hm (a1u d) fun x1 hm=>?_
 apply vb hm<;>intro _ hm;cases hm;exact d5v (c1v);refine cy hm (b1d m) fun x4 hm=>?_
 apply vb hm<;>intro _ hm;cases hm;exact d5v (c1v);apply vb hm<;>intro _ hm;cases hm;exact d5v (c1v);refine cy hm (a8p d) fun x8 hm=>?_
 obtain⟨p3,he,a1⟩:=d9 hm;refine d5w (M6 m) (fun(h1,v1)=>⟨[(2,.own 0 0),(3,.own 1 0),(4,.own 2 0),(7,.own 3 0),(8,DI h1)],[(0,.blk (e9.c d) 91),(1,.blk (c8.c m) 86),(2,.blk  zC 91),(3,.blk (e9.c v1) 91)],4⟩) (0,x8) (sb 4) he ?_;rintro n3 ⟨h1,v1⟩ b hm g1;apply vb hm<;>intro _ hm;refine ei hm fun q2 hm=>?_
 refine⟨rfl,?_⟩;refine cy hm (a1s v1.Written) fun k3 hm=>?_
 obtain⟨j3,x2,hm⟩:=d9 hm;refine⟨a2x x2,_,a3K (c:=cI) (z:=1) (fun _=>rfl) x2 rfl (by omega) rfl,?_⟩;apply vb hm<;>intro _ hm;cases hm;exact⟨(_,((W (h1+1)),v1)),sb 4,g1,D6 _⟩;refine cy hm (b3j v1.Box v1.Written q2) ?_;rintro⟨p2,n2,h3⟩ hm;apply vb hm<;>intro _ hm;cases hm;cases g1;have hm:=a1;cases hm;exact d5v (c1v);cases hm;exact⟨(_,((W (h1+1)),(⟨v1.Me,p2,n2,v1.Known⟩:e9))),sb 4,g1,D6 _⟩;cases hm;cases g1;have hm:=a1;refine cy hm (b5v v1.Box) fun k2 hm=>?_
 refine cy hm (a1s v1.Written) fun u1 hm=>?_
 obtain⟨g3,he,j2⟩:=d9 hm;refine d5w (Q6 m u1) (fun(answer355,k1,z1)=>⟨[(3,.own 1 0),(4,.own 2 0),(7,.own 3 0),(13,.own 4 0),(14,.own 5 0),(15,DB answer355),(16,DI k1)],[(1,.blk (c8.c m) 86),(2,.blk  zC 91),(3,.blk (e9.c z1) 91),(4,.blk [DI u1.1,DI u1.2.1,DI u1.2.2.1,DI u1.2.2.2.1,DI u1.2.2.2.2.1,DI u1.2.2.2.2.2] 78),(5,.blk [DI d.Me,DI m.From,DI u1.1,DI u1.2.1,DI u1.2.2.1,DI u1.2.2.2.1,DI u1.2.2.2.2.1,DI u1.2.2.2.2.2,nS] 86)],6⟩) ((decide ((v1.Written.length:Int)>(d.Written.length:Int))),0,(⟨v1.Me,k2,v1.Written,v1.Known⟩:e9)) (sb 6) he ?_;rintro f3 ⟨answer355,k1,z1⟩ b hm b1;apply vb hm<;>intro _ hm;refine⟨rfl,?_⟩;obtain⟨hg,hm⟩:=j0 hm;refine⟨hg,?_⟩;obtain⟨hg,hm⟩:=j0 hm;refine⟨hg,?_⟩;obtain⟨e3,h2,hm⟩:=d9 hm;obtain⟨y2,g2,hm⟩:=d9 hm;refine⟨_,ldx (r:=[DI y2]) (c:=cf1) (z:=6) (pre:=[DI z1.Me,lD 5 z1.Box.Thread d8.c,lD 5 z1.Box.Loose d8.c,lD 8 z1.Written b9.c]) (post:=[]) (b:=4) (off:=(k1).toNat*1) (fun _=>rfl) h2 rfl rfl (by omega) (a3K (r:=[DI y2]) (c:=cI) (z:=1) (fun _=>rfl) g2 rfl (by omega) rfl),?_⟩;obtain⟨hg,hm⟩:=j0 hm;refine⟨hg,?_⟩;obtain⟨f2,e2,hm⟩:=d9 hm;refine⟨_,ldx (r:=[DI f2]) (c:=cI) (z:=1) (pre:=[DI m.From,DI m.To]) (post:=[lD 8 m.Records b9.c]) (b:=2) (off:=0) (fun _=>rfl) e2 rfl rfl (by omega) rfl,?_⟩;obtain⟨hg,hm⟩:=j0 hm;refine⟨hg,?_⟩;obtain⟨hg,hm⟩:=j0 hm;refine⟨hg,?_⟩;obtain⟨c3,z2,hm⟩:=d9 hm;obtain⟨b3,u2,hm⟩:=d9 hm;obtain⟨c2,hv,hm⟩:=d9 hm;obtain⟨b2,hp0,hm⟩:=d9 hm;obtain⟨a2,hp1,hm⟩:=d9 hm;obtain⟨x3,hp2,hm⟩:=d9 hm;obtain⟨y3,hp3,hm⟩:=d9 hm;obtain⟨z3,hp4,hm⟩:=d9 hm;obtain⟨u3,hp5,hm⟩:=d9 hm;obtain⟨v3,hy,hm⟩:=d9 hm;obtain⟨w1,hq0,hm⟩:=d9 hm;obtain⟨s1,hq1,hm⟩:=d9 hm;obtain⟨t1,hq2,hm⟩:=d9 hm;obtain⟨q1,hq3,hm⟩:=d9 hm;obtain⟨p1,hq4,hm⟩:=d9 hm;obtain⟨n1,hq5,hm⟩:=d9 hm;refine⟨[DI z1.Me,lD 5 z1.Box.Thread d8.c,lD 5 z1.Box.Loose d8.c,lD 8 z1.Written b9.c,DI w1.1,DI w1.2.1,DI w1.2.2.1,DI w1.2.2.2.1,DI w1.2.2.2.2.1,DI w1.2.2.2.2.2,DI s1.1,DI s1.2.1,DI s1.2.2.1,DI s1.2.2.2.1,DI s1.2.2.2.2.1,DI s1.2.2.2.2.2,DI t1.1,DI t1.2.1,DI t1.2.2.1,DI t1.2.2.2.1,DI t1.2.2.2.2.1,DI t1.2.2.2.2.2,DI q1.1,DI q1.2.1,DI q1.2.2.1,DI q1.2.2.2.1,DI q1.2.2.2.2.1,DI q1.2.2.2.2.2,DI p1.1,DI p1.2.1,DI p1.2.2.1,DI p1.2.2.2.1,DI p1.2.2.2.2.1,DI p1.2.2.2.2.2,DI n1.1,DI n1.2.1,DI n1.2.2.1,DI n1.2.2.2.1,DI n1.2.2.2.2.1,DI n1.2.2.2.2.2],stx (y:=v3) (ys:=[w1,s1,t1,q1,p1,n1]) (c:=cf1) (z:=6) (pre:=[DI z1.Me,lD 5 z1.Box.Thread d8.c,lD 5 z1.Box.Loose d8.c,lD 8 z1.Written b9.c]) (post:=[]) (b:=4) (off:=(k1).toNat*1) (fun _=>rfl) z2 rfl rfl (by omega) (b0L (y:=c2) (ys:=[b2,a2,x3,y3,z3,u3]) (c:=cI) (z:=1) (fun _=>rfl) u2 rfl (by omega) (by cases hv;rfl) (by cases hy;rfl) (by cases hp0;cases hp1;cases hp2;cases hp3;cases hp4;cases hp5;exact L7 u2)) rfl (by cases hq0;cases hq1;cases hq2;cases hq3;cases hq4;cases hq5;exact L7 z2),?_⟩;clear hv hy hp0 hp1 hp2 hp3 hp4 hp5 hq0 hq1 hq2 hq3 hq4 hq5;refine⟨rfl,?_⟩;apply vb hm<;>intro _ hm;cases hm;exact⟨(_,(true,(W (k1+1)),(⟨z1.Me,z1.Box,z1.Written,(w1,s1,t1,q1,p1,n1)⟩:e9))),sb 6,b1,D6 _⟩;obtain⟨hg,hm⟩:=j0 hm;refine⟨hg,?_⟩;obtain⟨v2,w3,hm⟩:=d9 hm;refine⟨_,ldx (r:=[DI v2]) (c:=cI) (z:=1) (pre:=[DI m.From,DI m.To]) (post:=[lD 8 m.Records b9.c]) (b:=2) (off:=0) (fun _=>rfl) w3 rfl rfl (by omega) rfl,?_⟩;obtain⟨hg,hm⟩:=j0 hm;refine⟨hg,?_⟩;obtain⟨w2,s3,hm⟩:=d9 hm;refine⟨_,a3K (r:=[DI w2]) (c:=cI) (z:=1) (fun _=>rfl) s3 rfl (by omega) rfl,?_⟩;cases hm;exact⟨(_,((decide (v2>w2)),(W (k1+1)),(⟨z1.Me,z1.Box,z1.Written,(w1,s1,t1,q1,p1,n1)⟩:e9))),sb 6,b1,D6 _⟩;cases hm;cases b1;have hm:=j2;refine cy hm (b9S z1.Written) fun s2 hm=>?_
 obtain⟨a3,he,t2⟩:=d9 hm;refine d5w (a0b m s2) (fun(f1,j1)=>⟨[(3,.own 1 0),(4,.own 2 0),(7,.own 3 0),(14,.own 5 0),(15,DB answer355),(17,lD 8 s2 b9.c),(18,DI f1)],[(1,.blk (c8.c m) 86),(2,.blk  zC 91),(3,.blk (e9.c z1) 91),(5,.blk [DI d.Me,DI m.From,DI u1.1,DI u1.2.1,DI u1.2.2.1,DI u1.2.2.2.1,DI u1.2.2.2.2.1,DI u1.2.2.2.2.2,.row 6 8] 86),(6,rE 8 j1 b9.c 38)],7⟩) (0,[]) (sb 6) he ?_;rintro y4 ⟨f1,j1⟩ b hm e1;apply vb hm<;>intro _ hm;apply vb hm<;>intro _ hm;refine⟨rfl,?_⟩;refine ei hm fun _ hm=>?_
 refine ei hm fun _ hm=>?_
 obtain⟨hg,hm⟩:=j0 hm;refine⟨hg,?_⟩;obtain⟨t3,q3,hm⟩:=d9 hm;refine⟨_,ldx (r:=[DI t3]) (c:=cI) (z:=1) (pre:=[DI m.From,DI m.To]) (post:=[lD 8 m.Records b9.c]) (b:=2) (off:=0) (fun _=>rfl) q3 rfl rfl (by omega) rfl,?_⟩;apply vb hm<;>intro _ hm;refine⟨rfl,?_⟩;refine ei hm fun c1 hm=>?_
 refine⟨([c1]:List b9).flatMap b9.c,([c1]:List b9).length,⟨rfl,rfl⟩,?_⟩;obtain⟨hg,hm⟩:=j0 hm;refine⟨hg,_,_,l6 (c:=b9.c) (l:=(j1:List b9)) (r:=(([c1]:List b9):List b9)),?_⟩;cases hm;exact⟨(_,((W (f1+1)),(j1++([c1]:List b9)))),sb 7,e1,D6 _⟩;cases hm;exact⟨(_,((W (f1+1)),j1)),sb 7,e1,D6 _⟩;cases hm;cases e1;have hm:=t2;apply vb hm<;>intro _ hm;refine⟨rfl,?_⟩;refine⟨?_,?_⟩;cases hm;exact d5v (d5t _);cases hm;exact d5v (d5t _);apply vb hm<;>intro _ hm;refine⟨rfl,?_⟩;refine⟨?_,?_⟩;cases hm;exact d5v (d5t _);cases hm;exact d5v (d5t _);cases hm;exact d5v (d1P);cases hm;cases e1;have hm:=t2;apply vb hm<;>intro _ hm;refine⟨rfl,?_⟩;refine⟨?_,?_⟩;cases hm;exact d5v (d5t _);cases hm;exact d5v (d5t _);apply vb hm<;>intro _ hm;refine⟨rfl,?_⟩;refine⟨?_,?_⟩;cases hm;exact d5v (d5t _);cases hm;exact d5v (d5t _);cases hm;exact d5v (d1P)
def a1W(d:e9)(picks:(List Int)):Option (e9×Int):=
 (M8 d).bind fun x1=>
 if(x1 !=0)=true then
  some ( zD0,85)
 else
  (a3S d.Box picks).bind fun x4=>
  (a7G x4).bind fun⟨x6,x7⟩=>
  some ((⟨d.Me,x6,x7,((0,0,0,0,0,0),(0,0,0,0,0,0),(0,0,0,0,0,0),(0,0,0,0,0,0),(0,0,0,0,0,0),(0,0,0,0,0,0))⟩:e9),0)
theorem b0k(d:e9)(picks:(List Int))(r:(e9×Int))(hm:a1W d picks=some r):p0 Tryz.prog 64 [.agg (e9.c d),lD 1 picks cI] (fun x=>x=.tup [.agg (e9.c r.1),DI r.2]):=by
 refine zn func64 rfl ?_;refine cy hm (a1u d) fun x1 hm=>?_
 apply vb hm<;>intro _ hm;cases hm;exact d5v (le6);refine cy hm (b5R d.Box picks) fun x4 hm=>?_
 refine cy hm (c3D x4) ?_;rintro⟨x6,x7⟩ hm;cases hm;exact d5v (d5t _)
def a6h(n:(Int×Int×Int×Int×Int)):Option b9:=
 (F1 n.2.1 9).bind fun x1=>
 (F1 n.2.2.1 50).bind fun x3=>
 (F1 n.2.2.2.1 50).bind fun x5=>
 (a5Z n.2.2.2.2).bind fun x7=>
 some (⟨(⟨0,0⟩:o4),(W (1+x1)),x3,x5,(⟨0,0⟩:o4),x7⟩:b9)
theorem c0p(n:(Int×Int×Int×Int×Int))(r:b9)(hm:a6h n=some r):p0 Tryz.prog 127 [.agg [DI n.1,DI n.2.1,DI n.2.2.1,DI n.2.2.2.1,DI n.2.2.2.2]] (fun x=>x=.agg (b9.c r)):=by
 refine zy d3i [] [] [] func127 rfl ?_;refine⟨rfl,?_⟩;refine⟨by decide,?_⟩;refine⟨by decide,?_⟩;refine⟨by decide,?_⟩;refine⟨by decide,?_⟩;refine cy hm (I8 n.2.1 9) fun x1 hm=>?_
 refine cy hm (I8 n.2.2.1 50) fun x3 hm=>?_
 refine cy hm (I8 n.2.2.2.1 50) fun x5 hm=>?_
 refine cy hm (c2k n.2.2.2.2) fun x7 hm=>?_
 cases hm;exact d5v (d5t _)
def a6d(out:(e9×e9×e9))(messages:(List c8))(y:a1M):Option ((e9×e9×e9)×(List c8)):=
 (F1 y.Depot 3).bind fun x1=>
 (F1 y.Kind 8).bind fun x3=>
 if(x3==3)=true then
  gd (0≤x1∧x1<3)<|
  (idx [out.1,out.2.1,out.2.2] x1).bind fun e6=>
  (F1 y.To 2).bind fun x8=>
  (a3E e6 ((W ((W (x1+1))+x8)).tmod 3)).bind fun⟨s2,j1,t2⟩=>
  if(t2==0)=true then
   gd (0≤x1∧x1<3)<|
   (idx [out.1,out.2.1,out.2.2] x1).bind fun s4=>
   Option.bind (some s2) fun h1=>
   Option.bind (some (if(x1==0)=true then h1 else out.1)) fun q2=>
   Option.bind (some (if(x1==1)=true then h1 else out.2.1)) fun p2=>
   Option.bind (some (if(x1==2)=true then h1 else out.2.2)) fun n2=>
   gd ((([]:List c8).length+messages.length)*88≤140737488355328∧([]:List c8).length+messages.length≤9223372036854775807)<|
   gd (((([]:List c8)++messages).length+([j1]:List c8).length)*88≤140737488355328∧(([]:List c8)++messages).length+([j1]:List c8).length≤9223372036854775807)<|
   some ((q2,p2,n2),((([]:List c8)++messages)++([j1]:List c8)))
  else
   some (out,messages)
 else
  if(x3==4)=true then
   gd (0≤x1∧x1<3)<|
   (idx [out.1,out.2.1,out.2.2] x1).bind fun k2=>
   (F1 y.To 2).bind fun j2=>
   (a3E k2 ((W ((W (x1+1))+j2)).tmod 3)).bind fun⟨h2,g1,g2⟩=>
   if(g2==0)=true then
    gd (0≤x1∧x1<3)<|
    (idx [out.1,out.2.1,out.2.2] x1).bind fun t4=>
    Option.bind (some h2) fun f1=>
    Option.bind (some (if(x1==0)=true then f1 else out.1)) fun f2=>
    Option.bind (some (if(x1==1)=true then f1 else out.2.1)) fun e2=>
    Option.bind (some (if(x1==2)=true then f1 else out.2.2)) fun c2=>
    gd ((([]:List c8).length+messages.length)*88≤140737488355328∧([]:List c8).length+messages.length≤9223372036854775807)<|
    gd (((([]:List c8)++messages).length+([g1]:List c8).length)*88≤140737488355328∧(([]:List c8)++messages).length+([g1]:List c8).length≤9223372036854775807)<|
    some ((f2,e2,c2),((([]:List c8)++messages)++([g1]:List c8)))
   else
    some (out,messages)
  else
   if(x3==5)=true then
    if((messages.length:Int)==0)=true then
     some (out,messages)
    else
     (F1 y.To (messages.length:Int)).bind fun v1=>
     (idx messages v1).bind fun z1=>
     gd (0≤z1.To∧z1.To<3)<|
     (idx [out.1,out.2.1,out.2.2] z1.To).bind fun b2=>
     (a0I b2 z1).bind fun⟨z2,q1,u2⟩=>
     gd ((([]:List c8).length+messages.length)*88≤140737488355328∧([]:List c8).length+messages.length≤9223372036854775807)<|
     if((y.Depot.tmod 2)==0)=true then
      gd ((0≤v1∧v1≤(messages.length:Int)))<|
      Option.bind (some (sub messages 0 (v1).toNat)) fun w1=>
      gd ((0≤(W (v1+1))∧(W (v1+1))≤(messages.length:Int)))<|
      Option.bind (some (sub messages ((W (v1+1))).toNat messages.length)) fun n1=>
      gd ((([]:List c8).length+w1.length)*88≤140737488355328∧([]:List c8).length+w1.length≤9223372036854775807)<|
      gd (((([]:List c8)++w1).length+n1.length)*88≤140737488355328∧(([]:List c8)++w1).length+n1.length≤9223372036854775807)<|
      if(u2==0)=true then
       gd (0≤z1.To∧z1.To<3)<|
       (idx [out.1,out.2.1,out.2.2] z1.To).bind fun q4=>
       Option.bind (some z2) fun e1=>
       Option.bind (some (if(z1.To==0)=true then e1 else out.1)) fun a2=>
       Option.bind (some (if(z1.To==1)=true then e1 else out.2.1)) fun y3=>
       Option.bind (some (if(z1.To==2)=true then e1 else out.2.2)) fun z3=>
       gd ((((([]:List c8)++w1)++n1).length+q1.length)*88≤140737488355328∧((([]:List c8)++w1)++n1).length+q1.length≤9223372036854775807)<|
       some ((a2,y3,z3),(((([]:List c8)++w1)++n1)++q1))
      else
       some (out,messages)
     else
      if(u2==0)=true then
       gd (0≤z1.To∧z1.To<3)<|
       (idx [out.1,out.2.1,out.2.2] z1.To).bind fun p4=>
       Option.bind (some z2) fun c1=>
       Option.bind (some (if(z1.To==0)=true then c1 else out.1)) fun u3=>
       Option.bind (some (if(z1.To==1)=true then c1 else out.2.1)) fun v3=>
       Option.bind (some (if(z1.To==2)=true then c1 else out.2.2)) fun w3=>
       gd (((([]:List c8)++messages).length+q1.length)*88≤140737488355328∧(([]:List c8)++messages).length+q1.length≤9223372036854775807)<|
       some ((u3,v3,w3),((([]:List c8)++messages)++q1))
      else
       some (out,messages)
   else
    if(x3==6)=true then
     if((messages.length:Int)==0)=true then
      some (out,messages)
     else
      (F1 y.To (messages.length:Int)).bind fun s1=>
      (idx messages s1).bind fun u1=>
      gd (0≤u1.To∧u1.To<3)<|
      (idx [out.1,out.2.1,out.2.2] u1.To).bind fun s3=>
      (a0I s3 u1).bind fun⟨v2,p1,w2⟩=>
      gd ((([]:List c8).length+messages.length)*88≤140737488355328∧([]:List c8).length+messages.length≤9223372036854775807)<|
      if((y.Depot.tmod 2)==0)=true then
       gd ((0≤s1∧s1≤(messages.length:Int)))<|
       Option.bind (some (sub messages 0 (s1).toNat)) fun t1=>
       gd ((0≤(W (s1+1))∧(W (s1+1))≤(messages.length:Int)))<|
       Option.bind (some (sub messages ((W (s1+1))).toNat messages.length)) fun k1=>
       gd ((([]:List c8).length+t1.length)*88≤140737488355328∧([]:List c8).length+t1.length≤9223372036854775807)<|
       gd (((([]:List c8)++t1).length+k1.length)*88≤140737488355328∧(([]:List c8)++t1).length+k1.length≤9223372036854775807)<|
       if(w2==0)=true then
        gd (0≤u1.To∧u1.To<3)<|
        (idx [out.1,out.2.1,out.2.2] u1.To).bind fun n4=>
        Option.bind (some v2) fun b1=>
        Option.bind (some (if(u1.To==0)=true then b1 else out.1)) fun t3=>
        Option.bind (some (if(u1.To==1)=true then b1 else out.2.1)) fun q3=>
        Option.bind (some (if(u1.To==2)=true then b1 else out.2.2)) fun p3=>
        gd ((((([]:List c8)++t1)++k1).length+p1.length)*88≤140737488355328∧((([]:List c8)++t1)++k1).length+p1.length≤9223372036854775807)<|
        some ((t3,q3,p3),(((([]:List c8)++t1)++k1)++p1))
       else
        some (out,messages)
      else
       if(w2==0)=true then
        gd (0≤u1.To∧u1.To<3)<|
        (idx [out.1,out.2.1,out.2.2] u1.To).bind fun k4=>
        Option.bind (some v2) fun a1=>
        Option.bind (some (if(u1.To==0)=true then a1 else out.1)) fun n3=>
        Option.bind (some (if(u1.To==1)=true then a1 else out.2.1)) fun k3=>
        Option.bind (some (if(u1.To==2)=true then a1 else out.2.2)) fun j3=>
        gd (((([]:List c8)++messages).length+p1.length)*88≤140737488355328∧(([]:List c8)++messages).length+p1.length≤9223372036854775807)<|
        some ((n3,k3,j3),((([]:List c8)++messages)++p1))
       else
        some (out,messages)
    else
     if(x3==7)=true then
      gd (0≤x1∧x1<3)<|
      (idx [out.1,out.2.1,out.2.2] x1).bind fun h3=>
      (a1W h3 y.Picks).bind fun⟨g3,f3⟩=>
      if(f3==0)=true then
       gd (0≤x1∧x1<3)<|
       (idx [out.1,out.2.1,out.2.2] x1).bind fun j4=>
       Option.bind (some g3) fun x2=>
       Option.bind (some (if(x1==0)=true then x2 else out.1)) fun e3=>
       Option.bind (some (if(x1==1)=true then x2 else out.2.1)) fun c3=>
       Option.bind (some (if(x1==2)=true then x2 else out.2.2)) fun b3=>
       some ((e3,c3,b3),messages)
      else
       some (out,messages)
     else
      gd (0≤x1∧x1<3)<|
      (idx [out.1,out.2.1,out.2.2] x1).bind fun a3=>
      (a6h y.Record).bind fun x4=>
      (a5x a3 x4).bind fun⟨y4,h4,z4⟩=>
      if(z4==0)=true then
       gd (0≤x1∧x1<3)<|
       (idx [out.1,out.2.1,out.2.2] x1).bind fun g4=>
       Option.bind (some y4) fun y2=>
       Option.bind (some (if(x1==0)=true then y2 else out.1)) fun u4=>
       Option.bind (some (if(x1==1)=true then y2 else out.2.1)) fun v4=>
       Option.bind (some (if(x1==2)=true then y2 else out.2.2)) fun w4=>
       some ((u4,v4,w4),messages)
      else
       some (out,messages)
theorem c1L(out:(e9×e9×e9))(messages:(List c8))(y:a1M)(r:((e9×e9×e9)×(List c8)))(hm:a6d out messages y=some r):p0 Tryz.prog 115 [.agg (e9.c out.1++(e9.c out.2.1++e9.c out.2.2)),lD 9 messages c8.c,.agg (a1M.c y)] (fun x=>x=.tup [.agg (e9.c r.1.1++(e9.c r.1.2.1++e9.c r.1.2.2)),lD 9 r.2 c8.c]):=by
 refine zy d3F [] [] [] func115 rfl ?_;refine cy hm (I8 y.Depot 3) fun x1 hm=>?_
 refine cy hm (I8 y.Kind 8) fun x3 hm=>?_
 apply vb hm<;>intro h5 hm;refine VIf.t h5 ?_;refine⟨rfl,?_⟩;obtain⟨hg,hm⟩:=j0 hm;refine⟨hg,?_⟩;obtain⟨e6,hx7,hm⟩:=d9 hm;refine⟨_,a3K (r:=(e9.c e6)) (c:=e9.c) (z:=40) (fun _=>rfl) hx7 rfl (by omega) rfl,?_⟩;refine cy hm (I8 y.To 2) fun x8 hm=>?_
 refine⟨by decide,?_⟩;refine cy hm (b0P e6 ((W ((W (x1+1))+x8)).tmod 3)) ?_;rintro⟨q4,z1,p4⟩ hm;apply vb hm<;>intro _ hm;obtain⟨hg,hm⟩:=j0 hm;refine⟨hg,?_⟩;obtain⟨n4,q1,hm⟩:=d9 hm;obtain⟨n3,hy,hm⟩:=d9 hm;obtain⟨p1,hq0,hm⟩:=d9 hm;obtain⟨n1,hq1,hm⟩:=d9 hm;obtain⟨k1,hq2,hm⟩:=d9 hm;refine⟨(e9.c p1++(e9.c n1++e9.c k1)),b0L (y:=n3) (ys:=[p1,n1,k1]) (c:=e9.c) (z:=40) (fun _=>rfl) q1 rfl (by omega) (by cases hy;rfl) rfl (by cases hq0;cases hq1;cases hq2;exact L7 q1),?_⟩;clear hy hq0 hq1 hq2;refine⟨rfl,?_⟩;refine⟨?_,?_⟩;refine⟨([z1]:List c8).flatMap c8.c,([z1]:List c8).length,⟨rfl,rfl⟩,?_⟩;refine⟨([]:List c8).flatMap c8.c,([]:List c8).length,⟨rfl,rfl⟩,?_⟩;obtain⟨hg,hm⟩:=j0 hm;refine⟨hg,_,_,l6 (c:=c8.c) (l:=(([]:List c8):List c8)) (r:=(messages:List c8)),?_⟩;obtain⟨hg,hm⟩:=j0 hm;refine⟨hg,_,_,l6 (c:=c8.c) (l:=((([]:List c8)++messages):List c8)) (r:=(([z1]:List c8):List c8)),?_⟩;cases hm;exact d5v (d5t _);refine⟨([]:List c8).flatMap c8.c,([]:List c8).length,⟨rfl,rfl⟩,?_⟩;obtain⟨hg,hm⟩:=j0 hm;refine⟨hg,_,_,l6 (c:=c8.c) (l:=(([]:List c8):List c8)) (r:=(messages:List c8)),?_⟩;refine⟨([z1]:List c8).flatMap c8.c,([z1]:List c8).length,⟨rfl,rfl⟩,?_⟩;obtain⟨hg,hm⟩:=j0 hm;refine⟨hg,_,_,l6 (c:=c8.c) (l:=((([]:List c8)++messages):List c8)) (r:=(([z1]:List c8):List c8)),?_⟩;cases hm;exact d5v (d5t _);cases hm;exact d5v (d5t _);apply vb hm<;>intro _ hm;refine⟨rfl,?_⟩;obtain⟨hg,hm⟩:=j0 hm;refine⟨hg,?_⟩;obtain⟨j1,k3,hm⟩:=d9 hm;refine⟨_,a3K (r:=(e9.c j1)) (c:=e9.c) (z:=40) (fun _=>rfl) k3 rfl (by omega) rfl,?_⟩;refine cy hm (I8 y.To 2) fun j3 hm=>?_
 refine⟨by decide,?_⟩;refine cy hm (b0P j1 ((W ((W (x1+1))+j3)).tmod 3)) ?_;rintro⟨k4,u1,j4⟩ hm;apply vb hm<;>intro _ hm;obtain⟨hg,hm⟩:=j0 hm;refine⟨hg,?_⟩;obtain⟨h4,h1,hm⟩:=d9 hm;obtain⟨h3,hy,hm⟩:=d9 hm;obtain⟨g1,hq0,hm⟩:=d9 hm;obtain⟨f1,hq1,hm⟩:=d9 hm;obtain⟨e1,hq2,hm⟩:=d9 hm;refine⟨(e9.c g1++(e9.c f1++e9.c e1)),b0L (y:=h3) (ys:=[g1,f1,e1]) (c:=e9.c) (z:=40) (fun _=>rfl) h1 rfl (by omega) (by cases hy;rfl) rfl (by cases hq0;cases hq1;cases hq2;exact L7 h1),?_⟩;clear hy hq0 hq1 hq2;refine⟨rfl,?_⟩;refine⟨?_,?_⟩;refine⟨([u1]:List c8).flatMap c8.c,([u1]:List c8).length,⟨rfl,rfl⟩,?_⟩;refine⟨([]:List c8).flatMap c8.c,([]:List c8).length,⟨rfl,rfl⟩,?_⟩;obtain⟨hg,hm⟩:=j0 hm;refine⟨hg,_,_,l6 (c:=c8.c) (l:=(([]:List c8):List c8)) (r:=(messages:List c8)),?_⟩;obtain⟨hg,hm⟩:=j0 hm;refine⟨hg,_,_,l6 (c:=c8.c) (l:=((([]:List c8)++messages):List c8)) (r:=(([u1]:List c8):List c8)),?_⟩;cases hm;exact d5v (d5t _);refine⟨([]:List c8).flatMap c8.c,([]:List c8).length,⟨rfl,rfl⟩,?_⟩;obtain⟨hg,hm⟩:=j0 hm;refine⟨hg,_,_,l6 (c:=c8.c) (l:=(([]:List c8):List c8)) (r:=(messages:List c8)),?_⟩;refine⟨([u1]:List c8).flatMap c8.c,([u1]:List c8).length,⟨rfl,rfl⟩,?_⟩;obtain⟨hg,hm⟩:=j0 hm;refine⟨hg,_,_,l6 (c:=c8.c) (l:=((([]:List c8)++messages):List c8)) (r:=(([u1]:List c8):List c8)),?_⟩;cases hm;exact d5v (d5t _);cases hm;exact d5v (d5t _);apply vb hm<;>intro g3 hm;refine VIf.t g3 ?_;apply vb hm<;>intro _ hm;cases hm;exact d5v (d5t _);refine cy hm (I8 y.To ((messages.length:Int))) fun c1 hm=>?_
 refine ei hm fun f3 hm=>?_
 refine⟨rfl,?_⟩;obtain⟨hg,hm⟩:=j0 hm;refine⟨hg,?_⟩;obtain⟨b1,e3,hm⟩:=d9 hm;refine⟨_,a3K (r:=(e9.c b1)) (c:=e9.c) (z:=40) (fun _=>rfl) e3 rfl (by omega) rfl,?_⟩;refine cy hm (a6L b1 f3) ?_;rintro⟨g4,a1,f4⟩ hm;refine⟨([]:List c8).flatMap c8.c,([]:List c8).length,⟨rfl,rfl⟩,?_⟩;obtain⟨hg,hm⟩:=j0 hm;refine⟨hg,_,_,l6 (c:=c8.c) (l:=(([]:List c8):List c8)) (r:=(messages:List c8)),?_⟩;refine⟨by decide,?_⟩;apply vb hm<;>intro _ hm;refine⟨rfl,?_⟩;obtain⟨hg,hm⟩:=j0 hm;obtain⟨v1,hy,hm⟩:=d9 hm;refine⟨hg,_,(S1 (c:=c8.c) (z:=9) (fun _=>rfl) _ _ _).trans (Y7 _ (E0 hy)),?_⟩;have hl:v1.length=(c1).toNat-0:=by rw[←E0 hy];exact a0r (by omega)
 rw[←hl];obtain⟨hg,hm⟩:=j0 hm;obtain⟨s1,hy,hm⟩:=d9 hm;refine⟨hg,_,(S1 (c:=c8.c) (z:=9) (fun _=>rfl) _ _ _).trans (Y7 _ (E0 hy)),?_⟩;have hl:s1.length=messages.length-((W (c1+1))).toNat:=by rw[←E0 hy];exact a0r (by omega)
 rw[←hl];refine⟨([]:List c8).flatMap c8.c,([]:List c8).length,⟨rfl,rfl⟩,?_⟩;obtain⟨hg,hm⟩:=j0 hm;refine⟨hg,_,_,l6 (c:=c8.c) (l:=(([]:List c8):List c8)) (r:=(v1:List c8)),?_⟩;obtain⟨hg,hm⟩:=j0 hm;refine⟨hg,_,_,l6 (c:=c8.c) (l:=((([]:List c8)++v1):List c8)) (r:=(s1:List c8)),?_⟩;apply vb hm<;>intro _ hm;obtain⟨hg,hm⟩:=j0 hm;refine⟨hg,?_⟩;obtain⟨e4,x2,hm⟩:=d9 hm;obtain⟨c3,hy,hm⟩:=d9 hm;obtain⟨y2,hq0,hm⟩:=d9 hm;obtain⟨z2,hq1,hm⟩:=d9 hm;obtain⟨u2,hq2,hm⟩:=d9 hm;refine⟨(e9.c y2++(e9.c z2++e9.c u2)),b0L (y:=c3) (ys:=[y2,z2,u2]) (c:=e9.c) (z:=40) (fun _=>rfl) x2 rfl (by omega) (by cases hy;rfl) rfl (by cases hq0;cases hq1;cases hq2;exact L7 x2),?_⟩;clear hy hq0 hq1 hq2;refine⟨rfl,?_⟩;obtain⟨hg,hm⟩:=j0 hm;refine⟨hg,_,_,l6 (c:=c8.c) (l:=(((([]:List c8)++v1)++s1):List c8)) (r:=(a1:List c8)),?_⟩;cases hm;exact d5v (d5t _);cases hm;exact d5v (d5t _);apply vb hm<;>intro _ hm;obtain⟨hg,hm⟩:=j0 hm;refine⟨hg,?_⟩;obtain⟨c4,v2,hm⟩:=d9 hm;obtain⟨b3,hy,hm⟩:=d9 hm;obtain⟨w2,hq0,hm⟩:=d9 hm;obtain⟨s2,hq1,hm⟩:=d9 hm;obtain⟨t2,hq2,hm⟩:=d9 hm;refine⟨(e9.c w2++(e9.c s2++e9.c t2)),b0L (y:=b3) (ys:=[w2,s2,t2]) (c:=e9.c) (z:=40) (fun _=>rfl) v2 rfl (by omega) (by cases hy;rfl) rfl (by cases hq0;cases hq1;cases hq2;exact L7 v2),?_⟩;clear hy hq0 hq1 hq2;refine⟨rfl,?_⟩;obtain⟨hg,hm⟩:=j0 hm;refine⟨hg,_,_,l6 (c:=c8.c) (l:=((([]:List c8)++messages):List c8)) (r:=(a1:List c8)),?_⟩;cases hm;exact d5v (d5t _);cases hm;exact d5v (d5t _);apply vb hm<;>intro _ hm;apply vb hm<;>intro _ hm;cases hm;exact d5v (d5t _);refine cy hm (I8 y.To ((messages.length:Int))) fun q2 hm=>?_
 refine ei hm fun a3 hm=>?_
 refine⟨rfl,?_⟩;obtain⟨hg,hm⟩:=j0 hm;refine⟨hg,?_⟩;obtain⟨p2,x4,hm⟩:=d9 hm;refine⟨_,a3K (r:=(e9.c p2)) (c:=e9.c) (z:=40) (fun _=>rfl) x4 rfl (by omega) rfl,?_⟩;refine cy hm (a6L p2 a3) ?_;rintro⟨b4,n2,a4⟩ hm;refine⟨([]:List c8).flatMap c8.c,([]:List c8).length,⟨rfl,rfl⟩,?_⟩;obtain⟨hg,hm⟩:=j0 hm;refine⟨hg,_,_,l6 (c:=c8.c) (l:=(([]:List c8):List c8)) (r:=(messages:List c8)),?_⟩;refine⟨by decide,?_⟩;apply vb hm<;>intro _ hm;refine⟨rfl,?_⟩;obtain⟨hg,hm⟩:=j0 hm;obtain⟨w1,hy,hm⟩:=d9 hm;refine⟨hg,_,(S1 (c:=c8.c) (z:=9) (fun _=>rfl) _ _ _).trans (Y7 _ (E0 hy)),?_⟩;have hl:w1.length=(q2).toNat-0:=by rw[←E0 hy];exact a0r (by omega)
 rw[←hl];obtain⟨hg,hm⟩:=j0 hm;obtain⟨t1,hy,hm⟩:=d9 hm;refine⟨hg,_,(S1 (c:=c8.c) (z:=9) (fun _=>rfl) _ _ _).trans (Y7 _ (E0 hy)),?_⟩;have hl:t1.length=messages.length-((W (q2+1))).toNat:=by rw[←E0 hy];exact a0r (by omega)
 rw[←hl];refine⟨([]:List c8).flatMap c8.c,([]:List c8).length,⟨rfl,rfl⟩,?_⟩;obtain⟨hg,hm⟩:=j0 hm;refine⟨hg,_,_,l6 (c:=c8.c) (l:=(([]:List c8):List c8)) (r:=(w1:List c8)),?_⟩;obtain⟨hg,hm⟩:=j0 hm;refine⟨hg,_,_,l6 (c:=c8.c) (l:=((([]:List c8)++w1):List c8)) (r:=(t1:List c8)),?_⟩;apply vb hm<;>intro _ hm;obtain⟨hg,hm⟩:=j0 hm;refine⟨hg,?_⟩;obtain⟨x5,k2,hm⟩:=d9 hm;obtain⟨y4,hy,hm⟩:=d9 hm;obtain⟨j2,hq0,hm⟩:=d9 hm;obtain⟨h2,hq1,hm⟩:=d9 hm;obtain⟨g2,hq2,hm⟩:=d9 hm;refine⟨(e9.c j2++(e9.c h2++e9.c g2)),b0L (y:=y4) (ys:=[j2,h2,g2]) (c:=e9.c) (z:=40) (fun _=>rfl) k2 rfl (by omega) (by cases hy;rfl) rfl (by cases hq0;cases hq1;cases hq2;exact L7 k2),?_⟩;clear hy hq0 hq1 hq2;refine⟨rfl,?_⟩;obtain⟨hg,hm⟩:=j0 hm;refine⟨hg,_,_,l6 (c:=c8.c) (l:=(((([]:List c8)++w1)++t1):List c8)) (r:=(n2:List c8)),?_⟩;cases hm;exact d5v (d5t _);cases hm;exact d5v (d5t _);apply vb hm<;>intro _ hm;obtain⟨hg,hm⟩:=j0 hm;refine⟨hg,?_⟩;obtain⟨y5,f2,hm⟩:=d9 hm;obtain⟨z4,hy,hm⟩:=d9 hm;obtain⟨e2,hq0,hm⟩:=d9 hm;obtain⟨c2,hq1,hm⟩:=d9 hm;obtain⟨b2,hq2,hm⟩:=d9 hm;refine⟨(e9.c e2++(e9.c c2++e9.c b2)),b0L (y:=z4) (ys:=[e2,c2,b2]) (c:=e9.c) (z:=40) (fun _=>rfl) f2 rfl (by omega) (by cases hy;rfl) rfl (by cases hq0;cases hq1;cases hq2;exact L7 f2),?_⟩;clear hy hq0 hq1 hq2;refine⟨rfl,?_⟩;obtain⟨hg,hm⟩:=j0 hm;refine⟨hg,_,_,l6 (c:=c8.c) (l:=((([]:List c8)++messages):List c8)) (r:=(n2:List c8)),?_⟩;cases hm;exact d5v (d5t _);cases hm;exact d5v (d5t _);apply vb hm<;>intro _ hm;refine⟨rfl,?_⟩;obtain⟨hg,hm⟩:=j0 hm;refine⟨hg,?_⟩;obtain⟨a2,u4,hm⟩:=d9 hm;refine⟨_,a3K (r:=(e9.c a2)) (c:=e9.c) (z:=40) (fun _=>rfl) u4 rfl (by omega) rfl,?_⟩;refine cy hm (b0k a2 y.Picks) ?_;rintro⟨z5,u5⟩ hm;apply vb hm<;>intro _ hm;obtain⟨hg,hm⟩:=j0 hm;refine⟨hg,?_⟩;obtain⟨v5,y3,hm⟩:=d9 hm;obtain⟨v4,hy,hm⟩:=d9 hm;obtain⟨z3,hq0,hm⟩:=d9 hm;obtain⟨u3,hq1,hm⟩:=d9 hm;obtain⟨v3,hq2,hm⟩:=d9 hm;refine⟨(e9.c z3++(e9.c u3++e9.c v3)),b0L (y:=v4) (ys:=[z3,u3,v3]) (c:=e9.c) (z:=40) (fun _=>rfl) y3 rfl (by omega) (by cases hy;rfl) rfl (by cases hq0;cases hq1;cases hq2;exact L7 y3),?_⟩;clear hy hq0 hq1 hq2;cases hm;exact d5v (d5t _);cases hm;exact d5v (d5t _);refine⟨rfl,?_⟩;obtain⟨hg,hm⟩:=j0 hm;refine⟨hg,?_⟩;obtain⟨w3,w4,hm⟩:=d9 hm;refine⟨_,a3K (r:=(e9.c w3)) (c:=e9.c) (z:=40) (fun _=>rfl) w4 rfl (by omega) rfl,?_⟩;refine cy hm (c0p y.Record) fun s4 hm=>?_
 refine cy hm (b5a w3 s4) ?_;rintro⟨w5,s5,t5⟩ hm;apply vb hm<;>intro _ hm;obtain⟨hg,hm⟩:=j0 hm;refine⟨hg,?_⟩;obtain⟨q5,s3,hm⟩:=d9 hm;obtain⟨t4,hy,hm⟩:=d9 hm;obtain⟨t3,hq0,hm⟩:=d9 hm;obtain⟨q3,hq1,hm⟩:=d9 hm;obtain⟨p3,hq2,hm⟩:=d9 hm;refine⟨(e9.c t3++(e9.c q3++e9.c p3)),b0L (y:=t4) (ys:=[t3,q3,p3]) (c:=e9.c) (z:=40) (fun _=>rfl) s3 rfl (by omega) (by cases hy;rfl) rfl (by cases hq0;cases hq1;cases hq2;exact L7 s3),?_⟩;clear hy hq0 hq1 hq2;cases hm;exact d5v (d5t _);cases hm;exact d5v (d5t _)
def a0H:(Int×(e9×e9×e9))→Option (Sum (Int×(e9×e9×e9)) (Int×(e9×e9×e9))):=fun(x1,z1)=>
 if(decide (x1<3))=true then
  (a0Z x1).bind fun⟨v1,q1⟩=>
  gd (0≤x1∧x1<3)<|
  (idx [z1.1,z1.2.1,z1.2.2] x1).bind fun p1=>
  Option.bind (some v1) fun u1=>
  Option.bind (some (if(x1==0)=true then u1 else z1.1)) fun w1=>
  Option.bind (some (if(x1==1)=true then u1 else z1.2.1)) fun s1=>
  Option.bind (some (if(x1==2)=true then u1 else z1.2.2)) fun t1=>
  some (.inl ((W (x1+1)),(w1,s1,t1)))
 else
  some (.inr (x1,z1))
def a2l(l:(List a1M)):((List c8)×Int×(e9×e9×e9))→Option (Sum ((List c8)×Int×(e9×e9×e9)) ((List c8)×Int×(e9×e9×e9))):=fun(messages40,x1,z1)=>
 if(decide (x1<(l.length:Int)))=true then
  if(decide (x1<14))=true then
   (idx l x1).bind fun u1=>
   (a6d z1 messages40 u1).bind fun⟨v1,w1⟩=>
   some (.inl (w1,(W (x1+1)),v1))
  else
   some (.inr (messages40,x1,z1))
 else
  some (.inr (messages40,x1,z1))
def a4Q(l:(List a1M)):Option ((e9×e9×e9)×(List c8)):=
 (o8 a0H (0,( zD0, zD0, zD0))).bind fun(u1,x1)=>
 (o8 (a2l l) ([],0,x1)).bind fun(messages57,v1,z1)=>
 some (z1,messages57)
theorem b9i(l:(List a1M))(r:((e9×e9×e9)×(List c8)))(hm:a4Q l=some r):p0 Tryz.prog 54 [lD 9 l a1M.c] (fun x=>x=.tup [.agg (e9.c r.1.1++(e9.c r.1.2.1++e9.c r.1.2.2)),lD 9 r.2 c8.c]):=by
 refine zy d5i [] [] [] func54 rfl ?_;obtain⟨c1,he,j1⟩:=d9 hm;refine d5w a0H (fun(u1,x1)=>⟨[(0,lD 9 l a1M.c),(2,.own 0 0),(4,.own 1 0),(5,DI u1)],[(0,.blk [DI 0,nS,nS,nS,DI 0,DI 0,DI 0,DI 0,DI 0,DI 0,DI 0,DI 0,DI 0,DI 0,DI 0,DI 0,DI 0,DI 0,DI 0,DI 0,DI 0,DI 0,DI 0,DI 0,DI 0,DI 0,DI 0,DI 0,DI 0,DI 0,DI 0,DI 0,DI 0,DI 0,DI 0,DI 0,DI 0,DI 0,DI 0,DI 0,DI 0,nS,nS,nS,DI 0,DI 0,DI 0,DI 0,DI 0,DI 0,DI 0,DI 0,DI 0,DI 0,DI 0,DI 0,DI 0,DI 0,DI 0,DI 0,DI 0,DI 0,DI 0,DI 0,DI 0,DI 0,DI 0,DI 0,DI 0,DI 0,DI 0,DI 0,DI 0,DI 0,DI 0,DI 0,DI 0,DI 0,DI 0,DI 0,DI 0,nS,nS,nS,DI 0,DI 0,DI 0,DI 0,DI 0,DI 0,DI 0,DI 0,DI 0,DI 0,DI 0,DI 0,DI 0,DI 0,DI 0,DI 0,DI 0,DI 0,DI 0,DI 0,DI 0,DI 0,DI 0,DI 0,DI 0,DI 0,DI 0,DI 0,DI 0,DI 0,DI 0,DI 0,DI 0,DI 0,DI 0,DI 0] 92),(1,.blk (e9.c x1.1++(e9.c x1.2.1++e9.c x1.2.2)) 92)],2⟩) (0,( zD0, zD0, zD0)) (I1.of 2 rfl (tA rfl) ⟨hR rfl,⟨_,rfl,⟨d5t _,d5u,d5u,d5u,d5t _,d5t _,d5t _,d5t _,d5t _,d5t _,d5t _,d5t _,d5t _,d5t _,d5t _,d5t _,d5t _,d5t _,d5t _,d5t _,d5t _,d5t _,d5t _,d5t _,d5t _,d5t _,d5t _,d5t _,d5t _,d5t _,d5t _,d5t _,d5t _,d5t _,d5t _,d5t _,d5t _,d5t _,d5t _,d5t _,d5t _,d5u,d5u,d5u,d5t _,d5t _,d5t _,d5t _,d5t _,d5t _,d5t _,d5t _,d5t _,d5t _,d5t _,d5t _,d5t _,d5t _,d5t _,d5t _,d5t _,d5t _,d5t _,d5t _,d5t _,d5t _,d5t _,d5t _,d5t _,d5t _,d5t _,d5t _,d5t _,d5t _,d5t _,d5t _,d5t _,d5t _,d5t _,d5t _,d5t _,d5u,d5u,d5u,d5t _,d5t _,d5t _,d5t _,d5t _,d5t _,d5t _,d5t _,d5t _,d5t _,d5t _,d5t _,d5t _,d5t _,d5t _,d5t _,d5t _,d5t _,d5t _,d5t _,d5t _,d5t _,d5t _,d5t _,d5t _,d5t _,d5t _,d5t _,d5t _,d5t _,d5t _,d5t _,d5t _,d5t _,d5t _,d5t _,trivial⟩⟩,trivial⟩) he ?_;rintro b1 ⟨u1,x1⟩ b hm p1;apply vb hm<;>intro _ hm;refine cy hm (a8K u1) ?_;rintro⟨a1,x2⟩ hm;obtain⟨hg,hm⟩:=j0 hm;refine⟨hg,?_⟩;obtain⟨y2,n1,hm⟩:=d9 hm;obtain⟨h1,hy,hm⟩:=d9 hm;obtain⟨v1,hq0,hm⟩:=d9 hm;obtain⟨w1,hq1,hm⟩:=d9 hm;obtain⟨s1,hq2,hm⟩:=d9 hm;refine⟨(e9.c v1++(e9.c w1++e9.c s1)),b0L (y:=h1) (ys:=[v1,w1,s1]) (c:=e9.c) (z:=40) (fun _=>rfl) n1 rfl (by omega) (by cases hy;rfl) rfl (by cases hq0;cases hq1;cases hq2;exact L7 n1),?_⟩;clear hy hq0 hq1 hq2;cases hm;exact⟨(_,((W (u1+1)),(v1,w1,s1))),sb 2,p1,D6 _⟩;cases hm;cases p1;have hm:=j1;obtain⟨z2,he,k1⟩:=d9 hm;refine d5w (a2l l) (fun(messages91,t1,z1)=>⟨[(0,lD 9 l a1M.c),(2,.own 0 0),(4,.own 1 0),(6,lD 9 messages91 c8.c),(7,DI t1)],[(0,.blk [DI 0,nS,nS,nS,DI 0,DI 0,DI 0,DI 0,DI 0,DI 0,DI 0,DI 0,DI 0,DI 0,DI 0,DI 0,DI 0,DI 0,DI 0,DI 0,DI 0,DI 0,DI 0,DI 0,DI 0,DI 0,DI 0,DI 0,DI 0,DI 0,DI 0,DI 0,DI 0,DI 0,DI 0,DI 0,DI 0,DI 0,DI 0,DI 0,DI 0,nS,nS,nS,DI 0,DI 0,DI 0,DI 0,DI 0,DI 0,DI 0,DI 0,DI 0,DI 0,DI 0,DI 0,DI 0,DI 0,DI 0,DI 0,DI 0,DI 0,DI 0,DI 0,DI 0,DI 0,DI 0,DI 0,DI 0,DI 0,DI 0,DI 0,DI 0,DI 0,DI 0,DI 0,DI 0,DI 0,DI 0,DI 0,DI 0,nS,nS,nS,DI 0,DI 0,DI 0,DI 0,DI 0,DI 0,DI 0,DI 0,DI 0,DI 0,DI 0,DI 0,DI 0,DI 0,DI 0,DI 0,DI 0,DI 0,DI 0,DI 0,DI 0,DI 0,DI 0,DI 0,DI 0,DI 0,DI 0,DI 0,DI 0,DI 0,DI 0,DI 0,DI 0,DI 0,DI 0,DI 0] 92),(1,.blk (e9.c z1.1++(e9.c z1.2.1++e9.c z1.2.2)) 92)],2⟩) ([],0,x1) (I1.of 2 rfl ⟨tR rfl,tR rfl,tR rfl,⟨_,rfl,d5u⟩,tR rfl,trivial⟩ ⟨hR rfl,hR rfl,trivial⟩) he ?_;rintro u2 ⟨messages91,t1,z1⟩ b hm q1;apply vb hm<;>intro _ hm;apply vb hm<;>intro _ hm;refine⟨rfl,?_⟩;refine ei hm fun g1 hm=>?_
 refine cy hm (c1L z1 messages91 g1) ?_;rintro⟨f1,e1⟩ hm;cases hm;exact⟨(_,(e1,(W (t1+1)),f1)),sb 2,q1,D6 _⟩;cases hm;cases q1;have hm:=k1;cases hm;exact d5v (d5t _);cases hm;cases q1;have hm:=k1;cases hm;exact d5v (d5t _)
def a1C(me:Int):Option (e9×Int):=
 (F7 me).bind fun x1=>
 if(!x1)=true then
  some ( zD0,1)
 else
  some ((⟨me,(⟨[],[]⟩:n9),[],((0,0,0,0,0,0),(0,0,0,0,0,0),(0,0,0,0,0,0),(0,0,0,0,0,0),(0,0,0,0,0,0),(0,0,0,0,0,0))⟩:e9),0)
theorem b2J(me:Int)(r:(e9×Int))(hm:a1C me=some r):p0 Tryz.prog 55 [DI me] (fun x=>x=.tup [.agg (e9.c r.1),DI r.2]):=by
 refine zn func55 rfl ?_;refine cy hm (V0 me) fun x1 hm=>?_
 apply vb hm<;>intro _ hm;cases hm;exact d5v (le6);cases hm;exact d5v (le6)
def Z1(n:Int):Option Bool:=
 (D0 n 0 60).bind fun x1=>
 some (!x1)
theorem a9Y(n:Int)(r:Bool)(hm:Z1 n=some r):p0 Tryz.prog 170 [DI n] (fun x=>x=DB r):=by
 refine zn func170 rfl ?_;refine cy hm (H8 n 0 60) fun x1 hm=>?_
 exact hm.rr
def G0(s:(List Int)):Int→Option (Sum Int (Sum Int Int)):=fun v7=>
 if(decide (v7<(s.length:Int)))=true then
  (idx s v7).bind fun x1=>
  (Z1 x1).bind fun z1=>
  if z1=true then
   some (.inr (.inr v7))
  else
   some (.inl (W (v7+1)))
 else
  some (.inr (.inl v7))
def I5(s:(List Int)):Option Int:=
 (o8 (G0 s) 0).bind fun e=>
 match e with
 |.inl z1=>
  some (-1)
 |.inr x1=>
  some x1
theorem Z0(s:(List Int))(r:Int)(hm:I5 s=some r):p0 Tryz.prog 189 [lD 1 s cI,.fn 170 [] []] (fun x=>x=DI r):=by
 refine zn func189 rfl ?_;obtain⟨v1,he,z1⟩:=d9 hm;refine d5w (G0 s) (fun v7=>⟨[(0,lD 1 s cI),(1,.fn 170 [] []),(7,DI (s.length:Int)),(8,DI v7)],[],0⟩) 0 (sb 0) he ?_;rintro w1 v7 b hm x1;apply vb hm<;>intro _ hm;refine ei hm fun u1 hm=>?_
 refine cy hm (a9Y u1) fun s1 hm=>?_
 apply vb hm<;>intro _ hm;cases hm;cases x1;have hm:=z1;exact hm.rr;cases hm;exact⟨(_,(W (v7+1))),sb 0,x1,D6 _⟩;cases hm;cases x1;have hm:=z1;exact hm.rr
def B2(s:(List Int)):Option Bool:=
 (I5 s).bind fun x1=>
 some (decide (x1≥0))
theorem U6(s:(List Int))(r:Bool)(hm:B2 s=some r):p0 Tryz.prog 169 [lD 1 s cI,.fn 170 [] []] (fun x=>x=DB r):=by
 refine zn func169 rfl ?_;refine cy hm (Z0 s) fun x1 hm=>?_
 exact hm.rr
def X6(l:(Int×Int×Int×Int×Int×Int)):Option Bool:=
 (B2 [l.1,l.2.1,l.2.2.1,l.2.2.2.1,l.2.2.2.2.1,l.2.2.2.2.2]).bind fun x1=>
 some (!x1)
theorem a5R(l:(Int×Int×Int×Int×Int×Int))(r:Bool)(hm:X6 l=some r):p0 Tryz.prog 151 [.agg [DI l.1,DI l.2.1,DI l.2.2.1,DI l.2.2.2.1,DI l.2.2.2.2.1,DI l.2.2.2.2.2]] (fun x=>x=DB r):=by
 refine zn func151 rfl ?_;refine co hm (U6 [l.1,l.2.1,l.2.2.1,l.2.2.2.1,l.2.2.2.2.1,l.2.2.2.2.2]) fun x1 hm=>?_
 exact hm.rr
def R3(d:e9):Int→Option (Sum Int (Sum Int Bool)):=fun v4=>
 if(decide (v4<6))=true then
  (idx [d.Known.1,d.Known.2.1,d.Known.2.2.1,d.Known.2.2.2.1,d.Known.2.2.2.2.1,d.Known.2.2.2.2.2] v4).bind fun x1=>
  (X6 x1).bind fun z1=>
  if(!z1)=true then
   some (.inr (.inr false))
  else
   some (.inl (W (v4+1)))
 else
  some (.inr (.inl v4))
def P0(d:e9):Option Bool:=
 (o8 (R3 d) 0).bind fun e=>
 match e with
 |.inl v1=>
  (F7 d.Me).bind fun x1=>
  if x1=true then
   (a0n d.Box d.Written).bind fun z1=>
   some z1
  else
   some false
 |.inr u1=>
  some u1
theorem a2e(d:e9)(r:Bool)(hm:P0 d=some r):p0 Tryz.prog 117 [.agg (e9.c d)] (fun x=>x=DB r):=by
 refine zn func117 rfl ?_;obtain⟨w1,he,z1⟩:=d9 hm;refine d5w (R3 d) (fun v4=>⟨[(1,.own 0 0),(6,.agg [DI d.Known.1.1,DI d.Known.1.2.1,DI d.Known.1.2.2.1,DI d.Known.1.2.2.2.1,DI d.Known.1.2.2.2.2.1,DI d.Known.1.2.2.2.2.2,DI d.Known.2.1.1,DI d.Known.2.1.2.1,DI d.Known.2.1.2.2.1,DI d.Known.2.1.2.2.2.1,DI d.Known.2.1.2.2.2.2.1,DI d.Known.2.1.2.2.2.2.2,DI d.Known.2.2.1.1,DI d.Known.2.2.1.2.1,DI d.Known.2.2.1.2.2.1,DI d.Known.2.2.1.2.2.2.1,DI d.Known.2.2.1.2.2.2.2.1,DI d.Known.2.2.1.2.2.2.2.2,DI d.Known.2.2.2.1.1,DI d.Known.2.2.2.1.2.1,DI d.Known.2.2.2.1.2.2.1,DI d.Known.2.2.2.1.2.2.2.1,DI d.Known.2.2.2.1.2.2.2.2.1,DI d.Known.2.2.2.1.2.2.2.2.2,DI d.Known.2.2.2.2.1.1,DI d.Known.2.2.2.2.1.2.1,DI d.Known.2.2.2.2.1.2.2.1,DI d.Known.2.2.2.2.1.2.2.2.1,DI d.Known.2.2.2.2.1.2.2.2.2.1,DI d.Known.2.2.2.2.1.2.2.2.2.2,DI d.Known.2.2.2.2.2.1,DI d.Known.2.2.2.2.2.2.1,DI d.Known.2.2.2.2.2.2.2.1,DI d.Known.2.2.2.2.2.2.2.2.1,DI d.Known.2.2.2.2.2.2.2.2.2.1,DI d.Known.2.2.2.2.2.2.2.2.2.2]),(7,DI v4)],[(0,.blk (e9.c d) 91)],1⟩) 0 (sb 1) he ?_;rintro s1 v4 b hm x1;apply vb hm<;>intro _ hm;obtain⟨v1,u1,hm⟩:=d9 hm;refine⟨a2x u1,_,a3K (c:=cf1) (z:=6) (fun _=>rfl) u1 rfl (by omega) rfl,?_⟩;refine cy hm (a5R v1) fun t1 hm=>?_
 apply vb hm<;>intro _ hm;cases hm;cases x1;have hm:=z1;exact hm.rr;cases hm;exact⟨(_,(W (v4+1))),sb 1,x1,D6 _⟩;cases hm;cases x1;have hm:=z1;refine cy hm (V0 d.Me) fun q1 hm=>?_
 apply vb hm<;>intro _ hm;refine cy hm (b2u d.Box d.Written) fun p1 hm=>?_
 exact hm.rr;exact hm.rr
def W7(d:e9):Option ((List d8)×(List d8)×(List b9)×Int×Int×Int×Int×Int×Int×Int×Int×Int×Int×Int×Int×Int×Int×Int×Int×Int×Int×Int×Int×Int×Int×Int×Int×Int×Int×Int×Int×Int×Int×Int×Int×Int×Int×Int×Int×Int):=
 (F3 d.Box).bind fun x1=>
 (l3 d.Written).bind fun z1=>
 some (x1.Thread,x1.Loose,z1,d.Me,d.Known.1.1,d.Known.1.2.1,d.Known.1.2.2.1,d.Known.1.2.2.2.1,d.Known.1.2.2.2.2.1,d.Known.1.2.2.2.2.2,d.Known.2.1.1,d.Known.2.1.2.1,d.Known.2.1.2.2.1,d.Known.2.1.2.2.2.1,d.Known.2.1.2.2.2.2.1,d.Known.2.1.2.2.2.2.2,d.Known.2.2.1.1,d.Known.2.2.1.2.1,d.Known.2.2.1.2.2.1,d.Known.2.2.1.2.2.2.1,d.Known.2.2.1.2.2.2.2.1,d.Known.2.2.1.2.2.2.2.2,d.Known.2.2.2.1.1,d.Known.2.2.2.1.2.1,d.Known.2.2.2.1.2.2.1,d.Known.2.2.2.1.2.2.2.1,d.Known.2.2.2.1.2.2.2.2.1,d.Known.2.2.2.1.2.2.2.2.2,d.Known.2.2.2.2.1.1,d.Known.2.2.2.2.1.2.1,d.Known.2.2.2.2.1.2.2.1,d.Known.2.2.2.2.1.2.2.2.1,d.Known.2.2.2.2.1.2.2.2.2.1,d.Known.2.2.2.2.1.2.2.2.2.2,d.Known.2.2.2.2.2.1,d.Known.2.2.2.2.2.2.1,d.Known.2.2.2.2.2.2.2.1,d.Known.2.2.2.2.2.2.2.2.1,d.Known.2.2.2.2.2.2.2.2.2.1,d.Known.2.2.2.2.2.2.2.2.2.2)
def a3B(d:e9)(r_:b9)(v8:(List d8))(v9:(List d8))(z1:(List b9))(u1:Int)(v1:Int)(w1:Int)(s1:Int)(t1:Int)(q1:Int)(p1:Int)(n1:Int)(k1:Int)(j1:Int)(h1:Int)(g1:Int)(f1:Int)(e1:Int)(c1:Int)(b1:Int)(a1:Int)(x2:Int)(y2:Int)(z2:Int)(u2:Int)(v2:Int)(w2:Int)(s2:Int)(t2:Int)(q2:Int)(p2:Int)(n2:Int)(k2:Int)(j2:Int)(h2:Int)(g2:Int)(f2:Int)(e2:Int)(c2:Int)(b2:Int)(a2:Int)(x3:Int):Option (B8×Int):=
 (Q2 (⟨v8,v9⟩:n9) z1 (⟨(⟨d.Me,x3⟩:o4),r_.Kind,r_.Day,r_.Known,r_.Of,r_.Text⟩:b9)).bind fun⟨y3,z3,x1⟩=>
 if(x1==0)=true then
  some ((⟨(⟨u1,y3,z3,((v1,w1,s1,t1,q1,p1),(n1,k1,j1,h1,g1,f1),(e1,c1,b1,a1,x2,y2),(z2,u2,v2,w2,s2,t2),(q2,p2,n2,k2,j2,h2),(g2,f2,e2,c2,b2,a2))⟩:e9)⟩:B8),x1)
 else
  some ((⟨(⟨u1,(⟨v8,v9⟩:n9),z1,((v1,w1,s1,t1,q1,p1),(n1,k1,j1,h1,g1,f1),(e1,c1,b1,a1,x2,y2),(z2,u2,v2,w2,s2,t2),(q2,p2,n2,k2,j2,h2),(g2,f2,e2,c2,b2,a2))⟩:e9)⟩:B8),x1)
def a4U(d:e9)(r_:b9):Option (e9×b9×Int):=
 (P0 d).bind fun x1=>
 if(!x1)=true then
  some ( zD0,(⟨(⟨0,0⟩:o4),0,0,0,(⟨0,0⟩:o4),(⟨#[]⟩:ByteArray)⟩:b9),85)
 else
  (W7 d).bind fun⟨v8,v9,w1,s1,t1,q1,p1,n1,k1,j1,h1,g1,f1,e1,c1,b1,a1,x2,y2,z2,u2,v2,w2,s2,t2,q2,p2,n2,k2,j2,h2,g2,f2,e2,c2,b2,a2,x3,y3,z3⟩=>
  (V8 d.Written).bind fun z1=>
  (idx [z1.1,z1.2.1,z1.2.2.1,z1.2.2.2.1,z1.2.2.2.2.1,z1.2.2.2.2.2] d.Me).bind fun u1=>
  (a3B d r_ v8 v9 w1 s1 t1 q1 p1 n1 k1 j1 h1 g1 f1 e1 c1 b1 a1 x2 y2 z2 u2 v2 w2 s2 t2 q2 p2 n2 k2 j2 h2 g2 f2 e2 c2 b2 a2 x3 y3 z3 u1).bind fun⟨u3,v1⟩=>
  if(v1 !=0)=true then
   some ( zD0,(⟨(⟨0,0⟩:o4),0,0,0,(⟨0,0⟩:o4),(⟨#[]⟩:ByteArray)⟩:b9),v1)
  else
   some (u3.Depot,(⟨(⟨d.Me,u1⟩:o4),r_.Kind,r_.Day,r_.Known,r_.Of,r_.Text⟩:b9),0)
theorem c0g(d:e9)(r_:b9)(r:(e9×b9×Int))(hm:a4U d r_=some r):p0 Tryz.prog 57 [.agg (e9.c d),.agg (b9.c r_)] (fun x=>x=.tup [.agg (e9.c r.1),.agg (b9.c r.2.1),DI r.2.2]):=by
 refine zy d4v [80,112,155,175] [102,137] [118,119] func57 rfl ?_;refine cy hm (a2e d) fun x1 hm=>?_
 apply vb hm<;>intro _ hm;cases hm;exact d5v (le7);obtain⟨y3,s3,hm⟩:=d9 hm;refine a3r.ofZ pok ⟨[(0,.agg (e9.c d)),(1000002,.own 0 0),(1000003,.own 1 0),(1000004,.own 2 0),(1000005,.own 3 0)],[(0,.blk (e9.c d) 91),(1,.blk (b9.c r_) 38),(2,.blk  zC 91),(3,.blk [DI 0,DI 0,DI 0,DI 0,DI 0,DI 0,DI 0,.v (.string (⟨#[]⟩:ByteArray))] 38)],4⟩ (match y3 with|(v8,v9,z1,v1,w1,s1,t1,q1,p1,n1,k1,j1,h1,g1,f1,e1,c1,b1,a1,x2,y2,z2,u2,v2,w2,s2,t2,q2,p2,n2,k2,j2,h2,g2,f2,e2,c2,b2,a2,x3)=>(⟨[(2,.own 0 0),(3,.own 1 0),(4,.own 2 0),(5,.own 3 0),(15,.own 8 0)],[(0,.blk (e9.c d) 91),(1,.blk (b9.c r_) 38),(2,.blk  zC 91),(3,.blk [DI 0,DI 0,DI 0,DI 0,DI 0,DI 0,DI 0,.v (.string (⟨#[]⟩:ByteArray))] 38),(5,rE 5 v8 d8.c 53),(6,rE 5 v9 d8.c 53),(7,rE 8 z1 b9.c 38),(8,.blk [DI v1,.row 5 5,.row 6 5,.row 7 8,DI w1,DI s1,DI t1,DI q1,DI p1,DI n1,DI k1,DI j1,DI h1,DI g1,DI f1,DI e1,DI c1,DI b1,DI a1,DI x2,DI y2,DI z2,DI u2,DI v2,DI w2,DI s2,DI t2,DI q2,DI p2,DI n2,DI k2,DI j2,DI h2,DI g2,DI f2,DI e2,DI c2,DI b2,DI a2,DI x3] 173)],9⟩:Sy):Sy) c7Q [80,112,155,175] [102,137] [118,119] func118 rfl rfl rfl (sb 4) (fun sv=>?_) ?_
 have hm:=s3;refine⟨rfl,?_⟩;obtain⟨n3,t3,hm⟩:=d9 hm;refine .inr (b3r.mk ⟨_,_,a2c d.Box _ t3,?_⟩);obtain⟨k3,q3,hm⟩:=d9 hm;refine .inl (a5X.mk ⟨_,_,_,_,o9 d.Written _ q3,?_⟩);cases hm;exact sb 9;obtain⟨v8,v9,z1,v1,w1,s1,t1,q1,p1,n1,k1,j1,h1,g1,f1,e1,c1,b1,a1,x2,y2,z2,u2,v2,w2,s2,t2,q2,p2,n2,k2,j2,h2,g2,f2,e2,c2,b2,a2,x3⟩:=y3;refine⟨rfl,?_⟩;refine cy hm (a2O d.Written) fun j3 hm=>?_
 obtain⟨u1,z3,hm⟩:=d9 hm;refine⟨a2x z3,_,a3K (c:=cI) (z:=1) (fun _=>rfl) z3 rfl (by omega) rfl,?_⟩;obtain⟨u3,p3,hm⟩:=d9 hm;refine a3r.ofZ pok ⟨[(0,.own 8 0),(1,.agg [DI d.Me,DI u1,DI r_.Kind,DI r_.Day,DI r_.Known,DI r_.Of.Depot,DI r_.Of.No,.v (.string r_.Text)]),(1000003,.own 1 0),(1000004,.own 2 0),(1000005,.own 3 0),(1000007,.own 8 0)],[(1,.blk [DI d.Me,DI u1,DI r_.Kind,DI r_.Day,DI r_.Known,DI r_.Of.Depot,DI r_.Of.No,.v (.string r_.Text)] 38),(2,.blk  zC 91),(3,.blk [DI 0,DI 0,DI 0,DI 0,DI 0,DI 0,DI 0,.v (.string (⟨#[]⟩:ByteArray))] 38),(5,rE 5 v8 d8.c 53),(6,rE 5 v9 d8.c 53),(7,rE 8 z1 b9.c 38),(8,.blk [DI v1,.row 5 5,.row 6 5,.row 7 8,DI w1,DI s1,DI t1,DI q1,DI p1,DI n1,DI k1,DI j1,DI h1,DI g1,DI f1,DI e1,DI c1,DI b1,DI a1,DI x2,DI y2,DI z2,DI u2,DI v2,DI w2,DI s2,DI t2,DI q2,DI p2,DI n2,DI k2,DI j2,DI h2,DI g2,DI f2,DI e2,DI c2,DI b2,DI a2,DI x3] 173)],9⟩ (match u3 with|(v3,w3)=>(⟨[(3,.own 1 0),(4,.own 2 0),(5,.own 3 0),(7,.own 8 0),(28,DI w3)],[(1,.blk [DI d.Me,DI u1,DI r_.Kind,DI r_.Day,DI r_.Known,DI r_.Of.Depot,DI r_.Of.No,.v (.string r_.Text)] 38),(2,.blk  zC 91),(3,.blk [DI 0,DI 0,DI 0,DI 0,DI 0,DI 0,DI 0,.v (.string (⟨#[]⟩:ByteArray))] 38),(8,.blk (e9.c v3.Depot) 173)],9⟩:Sy):Sy) d0T [80,112,155,175] [102,137] [118,119] func119 rfl rfl rfl (sb 9) (fun sv=>?_) ?_
 have hm:=p3;refine⟨rfl,?_⟩;refine co hm (a6z ((⟨v8,v9⟩:n9)) z1 ((⟨(⟨d.Me,u1⟩:o4),r_.Kind,r_.Day,r_.Known,r_.Of,r_.Text⟩:b9))) ?_;rintro⟨h3,g3,f3⟩ hm;apply vb hm<;>intro _ hm;cases hm;exact sb 9;cases hm;exact sb 9;obtain⟨v3,w3⟩:=u3;apply vb hm<;>intro _ hm;cases hm;exact d5v (le7);refine⟨rfl,?_⟩;cases hm;exact d5v (d5t _)
def K5(k:B8)(to_:Int):Option c8:=
 (V8 k.Depot.Written).bind fun x1=>
 some (⟨k.Depot.Me,to_,x1,[]⟩:c8)
theorem a3a(k:B8)(to_:Int)(r:c8)(hm:K5 k to_=some r):p0 Tryz.prog 122 [.ptr (B8.c k) 0,DI to_] (fun x=>x=.agg (c8.c r)):=by
 refine zy d2l [] [] [] func122 rfl ?_;refine⟨rfl,?_⟩;refine cy hm (a2O k.Depot.Written) fun x1 hm=>?_
 cases hm;exact d5v (d4A)
def a3q(z1:(List d8))(u1:(List d8)):Option ((List d8)×(List d8)):=
 (X5 (⟨z1,u1⟩:n9)).bind fun x1=>
 some (x1.Thread,x1.Loose)
def a4T(d:e9)(to_:Int):Option (e9×c8×Int):=
 (P0 d).bind fun x1=>
 if(!x1)=true then
  some ( zD0,(⟨0,0,(0,0,0,0,0,0),[]⟩:c8),85)
 else
  (F7 to_).bind fun x4=>
  if(!x4)=true then
   some ( zD0,(⟨0,0,(0,0,0,0,0,0),[]⟩:c8),1)
  else
   if(to_==d.Me)=true then
    some ( zD0,(⟨0,0,(0,0,0,0,0,0),[]⟩:c8),1)
   else
    (W7 d).bind fun⟨z3,u3,z1,u1,v1,w1,s1,t1,q1,p1,n1,k1,j1,h1,g1,f1,e1,c1,b1,a1,x2,y2,z2,u2,v2,w2,s2,t2,q2,p2,n2,k2,j2,h2,g2,f2,e2,c2,b2,a2⟩=>
    (a3q z3 u3).bind fun⟨x3,y3⟩=>
    (K5 (⟨(⟨u1,(⟨x3,y3⟩:n9),z1,((v1,w1,s1,t1,q1,p1),(n1,k1,j1,h1,g1,f1),(e1,c1,b1,a1,x2,y2),(z2,u2,v2,w2,s2,t2),(q2,p2,n2,k2,j2,h2),(g2,f2,e2,c2,b2,a2))⟩:e9)⟩:B8) to_).bind fun v3=>
    some ((⟨u1,(⟨x3,y3⟩:n9),z1,((v1,w1,s1,t1,q1,p1),(n1,k1,j1,h1,g1,f1),(e1,c1,b1,a1,x2,y2),(z2,u2,v2,w2,s2,t2),(q2,p2,n2,k2,j2,h2),(g2,f2,e2,c2,b2,a2))⟩:e9),v3,0)
theorem b9y(d:e9)(to_:Int)(r:(e9×c8×Int))(hm:a4T d to_=some r):p0 Tryz.prog 59 [.agg (e9.c d),DI to_] (fun x=>x=.tup [.agg (e9.c r.1),.agg (c8.c r.2.1),DI r.2.2]):=by
 refine zy d4T [80,112,155,175] [102,137] [118,121] func59 rfl ?_;refine cy hm (a2e d) fun x1 hm=>?_
 apply vb hm<;>intro _ hm;cases hm;exact d5v (le8);refine cy hm (V0 to_) fun x4 hm=>?_
 apply vb hm<;>intro _ hm;cases hm;exact d5v (le8);apply vb hm<;>intro _ hm;cases hm;exact d5v (le8);obtain⟨v3,s3,hm⟩:=d9 hm;refine a3r.ofZ pok ⟨[(0,.agg (e9.c d)),(1000001,DI to_),(1000004,.own 1 0),(1000005,.own 2 0)],[(1,.blk  zC 91),(2,.blk [DI 0,DI 0,DI 0,DI 0,DI 0,DI 0,DI 0,DI 0,nS] 86)],3⟩ (match v3 with|(x3,y3,z1,u1,v1,w1,s1,t1,q1,p1,n1,k1,j1,h1,g1,f1,e1,c1,b1,a1,x2,y2,z2,u2,v2,w2,s2,t2,q2,p2,n2,k2,j2,h2,g2,f2,e2,c2,b2,a2)=>(⟨[(1,DI to_),(4,.own 1 0),(5,.own 2 0),(27,.own 7 0)],[(1,.blk  zC 91),(2,.blk [DI 0,DI 0,DI 0,DI 0,DI 0,DI 0,DI 0,DI 0,nS] 86),(4,rE 5 x3 d8.c 53),(5,rE 5 y3 d8.c 53),(6,rE 8 z1 b9.c 38),(7,.blk [DI u1,.row 4 5,.row 5 5,.row 6 8,DI v1,DI w1,DI s1,DI t1,DI q1,DI p1,DI n1,DI k1,DI j1,DI h1,DI g1,DI f1,DI e1,DI c1,DI b1,DI a1,DI x2,DI y2,DI z2,DI u2,DI v2,DI w2,DI s2,DI t2,DI q2,DI p2,DI n2,DI k2,DI j2,DI h2,DI g2,DI f2,DI e2,DI c2,DI b2,DI a2] 173)],8⟩:Sy):Sy) c7Q [80,112,155,175] [102,137] [118,121] func118 rfl rfl rfl (sb 3) (fun sv=>?_) ?_
 have hm:=s3;refine⟨rfl,?_⟩;obtain⟨n3,t3,hm⟩:=d9 hm;refine .inr (b3r.mk ⟨_,_,a2c d.Box _ t3,?_⟩);obtain⟨k3,q3,hm⟩:=d9 hm;refine .inl (a5X.mk ⟨_,_,_,_,o9 d.Written _ q3,?_⟩);cases hm;exact sb 8;obtain⟨x3,y3,z1,u1,v1,w1,s1,t1,q1,p1,n1,k1,j1,h1,g1,f1,e1,c1,b1,a1,x2,y2,z2,u2,v2,w2,s2,t2,q2,p2,n2,k2,j2,h2,g2,f2,e2,c2,b2,a2⟩:=v3;obtain⟨w3,p3,hm⟩:=d9 hm;refine a3r.ofZ pok ⟨[(0,.own 7 0),(1000001,DI to_),(1000004,.own 1 0),(1000005,.own 2 0),(1000007,.own 7 0)],[(1,.blk  zC 91),(2,.blk [DI 0,DI 0,DI 0,DI 0,DI 0,DI 0,DI 0,DI 0,nS] 86),(4,rE 5 x3 d8.c 53),(5,rE 5 y3 d8.c 53),(6,rE 8 z1 b9.c 38),(7,.blk [DI u1,.row 4 5,.row 5 5,.row 6 8,DI v1,DI w1,DI s1,DI t1,DI q1,DI p1,DI n1,DI k1,DI j1,DI h1,DI g1,DI f1,DI e1,DI c1,DI b1,DI a1,DI x2,DI y2,DI z2,DI u2,DI v2,DI w2,DI s2,DI t2,DI q2,DI p2,DI n2,DI k2,DI j2,DI h2,DI g2,DI f2,DI e2,DI c2,DI b2,DI a2] 173)],8⟩ (match w3 with|(z3,u3)=>(⟨[(1,DI to_),(4,.own 1 0),(5,.own 2 0),(7,.own 7 0),(29,.tup [])],[(1,.blk  zC 91),(2,.blk [DI 0,DI 0,DI 0,DI 0,DI 0,DI 0,DI 0,DI 0,nS] 86),(6,rE 8 z1 b9.c 38),(7,.blk [DI u1,lD 5 z3 d8.c,lD 5 u3 d8.c,.row 6 8,DI v1,DI w1,DI s1,DI t1,DI q1,DI p1,DI n1,DI k1,DI j1,DI h1,DI g1,DI f1,DI e1,DI c1,DI b1,DI a1,DI x2,DI y2,DI z2,DI u2,DI v2,DI w2,DI s2,DI t2,DI q2,DI p2,DI n2,DI k2,DI j2,DI h2,DI g2,DI f2,DI e2,DI c2,DI b2,DI a2] 173)],8⟩:Sy):Sy) [] [80,112,155,175] [102,137] [118,121] func121 rfl rfl rfl (sb 8) (fun sv=>?_) ?_
 have hm:=p3;refine co hm (a7O ((⟨x3,y3⟩:n9))) fun j3 hm=>?_
 cases hm;exact sb 8;obtain⟨z3,u3⟩:=w3;refine⟨rfl,?_⟩;refine co hm (a3a ((⟨(⟨u1,(⟨z3,u3⟩:n9),z1,((v1,w1,s1,t1,q1,p1),(n1,k1,j1,h1,g1,f1),(e1,c1,b1,a1,x2,y2),(z2,u2,v2,w2,s2,t2),(q2,p2,n2,k2,j2,h2),(g2,f2,e2,c2,b2,a2))⟩:e9)⟩:B8)) to_) fun h3 hm=>?_
 cases hm;exact d5v (d5t _)
def Z4(r_:b9):Option Bool:=
 (w7 r_).bind fun x1=>
 some (!x1)
theorem a9W(r_:b9)(r:Bool)(hm:Z4 r_=some r):p0 Tryz.prog 154 [.agg (b9.c r_)] (fun x=>x=DB r):=by
 refine zn func154 rfl ?_;refine cy hm (C9 r_) fun x1 hm=>?_
 exact hm.rr
def B6(s:(List b9)):Int→Option (Sum Int (Sum Int Int)):=fun v7=>
 if(decide (v7<(s.length:Int)))=true then
  (idx s v7).bind fun x1=>
  (Z4 x1).bind fun z1=>
  if z1=true then
   some (.inr (.inr v7))
  else
   some (.inl (W (v7+1)))
 else
  some (.inr (.inl v7))
def C6(s:(List b9)):Option Int:=
 (o8 (B6 s) 0).bind fun e=>
 match e with
 |.inl z1=>
  some (-1)
 |.inr x1=>
  some x1
theorem L8(s:(List b9))(r:Int)(hm:C6 s=some r):p0 Tryz.prog 171 [lD 8 s b9.c,.fn 154 [] []] (fun x=>x=DI r):=by
 refine zn func171 rfl ?_;obtain⟨v1,he,z1⟩:=d9 hm;refine d5w (B6 s) (fun v7=>⟨[(0,lD 8 s b9.c),(1,.fn 154 [] []),(7,DI (s.length:Int)),(8,DI v7)],[],0⟩) 0 (sb 0) he ?_;rintro w1 v7 b hm x1;apply vb hm<;>intro _ hm;refine ei hm fun u1 hm=>?_
 refine cy hm (a9W u1) fun s1 hm=>?_
 apply vb hm<;>intro _ hm;cases hm;cases x1;have hm:=z1;exact hm.rr;cases hm;exact⟨(_,(W (v7+1))),sb 0,x1,D6 _⟩;cases hm;cases x1;have hm:=z1;exact hm.rr
def w6(s:(List b9)):Option Bool:=
 (C6 s).bind fun x1=>
 some (decide (x1≥0))
theorem K4(s:(List b9))(r:Bool)(hm:w6 s=some r):p0 Tryz.prog 153 [lD 8 s b9.c,.fn 154 [] []] (fun x=>x=DB r):=by
 refine zn func153 rfl ?_;refine cy hm (L8 s) fun x1 hm=>?_
 exact hm.rr
def a0V(m:c8):Option Bool:=
 (F7 m.From).bind fun x1=>
 if x1=true then
  (F7 m.To).bind fun x4=>
  if x4=true then
   if(m.From !=m.To)=true then
    (X6 m.Have).bind fun x8=>
    if x8=true then
     if(decide ((m.Records.length:Int)≤6))=true then
      (w6 m.Records).bind fun z1=>
      some (!z1)
     else
      some false
    else
     some false
   else
    some false
  else
   some false
 else
  some false
theorem b1i(m:c8)(r:Bool)(hm:a0V m=some r):p0 Tryz.prog 124 [.agg (c8.c m)] (fun x=>x=DB r):=by
 refine zn func124 rfl ?_;refine cy hm (V0 m.From) fun x1 hm=>?_
 apply vb hm<;>intro _ hm;refine cy hm (V0 m.To) fun x4 hm=>?_
 apply vb hm<;>intro _ hm;apply vb hm<;>intro _ hm;refine cy hm (a5R m.Have) fun x8 hm=>?_
 apply vb hm<;>intro _ hm;apply vb hm<;>intro _ hm;refine cy hm (K4 m.Records) fun z1 hm=>?_
 exact hm.rr;exact hm.rr;exact hm.rr;exact hm.rr;exact hm.rr;exact hm.rr
def F2(r_:b9)(c_0:(Int×Int×Int×Int×Int×Int)):Option Bool:=
 gd (0≤r_.At.Depot∧r_.At.Depot<6)<|
 (idx [c_0.1,c_0.2.1,c_0.2.2.1,c_0.2.2.2.1,c_0.2.2.2.2.1,c_0.2.2.2.2.2] r_.At.Depot).bind fun e1=>
 some (decide (r_.At.No<e1))
theorem a2E(r_:b9)(c_0:(Int×Int×Int×Int×Int×Int))(r:Bool)(hm:F2 r_ c_0=some r):p0 Tryz.prog 156 [.agg (b9.c r_),.ptr [DI c_0.1,DI c_0.2.1,DI c_0.2.2.1,DI c_0.2.2.2.1,DI c_0.2.2.2.2.1,DI c_0.2.2.2.2.2] 0] (fun x=>x=DB r):=by
 refine zy d2n [] [] [] func156 rfl ?_;refine⟨rfl,?_⟩;obtain⟨hg,hm⟩:=j0 hm;refine⟨hg,?_⟩;obtain⟨e1,hx2,hm⟩:=d9 hm;refine d1G (a3K (r:=[DI e1]) (c:=cI) (z:=1) (fun _=>rfl) hx2 rfl (by omega) rfl) ?_;exact hm.rr
def A6(s:(List b9))(c1_0:(Int×Int×Int×Int×Int×Int)):Int→Option (Sum Int (Sum Int Int)):=fun v7=>
 if(decide (v7<(s.length:Int)))=true then
  (idx s v7).bind fun x1=>
  (F2 x1 c1_0).bind fun z1=>
  if z1=true then
   some (.inr (.inr v7))
  else
   some (.inl (W (v7+1)))
 else
  some (.inr (.inl v7))
def B3(s:(List b9))(c1_0:(Int×Int×Int×Int×Int×Int)):Option Int:=
 (o8 (A6 s c1_0) 0).bind fun e=>
 match e with
 |.inl z1=>
  some (-1)
 |.inr x1=>
  some x1
theorem J8(s:(List b9))(c1_0:(Int×Int×Int×Int×Int×Int))(r:Int)(hm:B3 s c1_0=some r):p0 Tryz.prog 171 [lD 8 s b9.c,.fn 156 [] [.ptr [DI c1_0.1,DI c1_0.2.1,DI c1_0.2.2.1,DI c1_0.2.2.2.1,DI c1_0.2.2.2.2.1,DI c1_0.2.2.2.2.2] 0]] (fun x=>x=DI r):=by
 refine zn func171 rfl ?_;obtain⟨v1,he,z1⟩:=d9 hm;refine d5w (A6 s c1_0) (fun v7=>⟨[(0,lD 8 s b9.c),(1,.fn 156 [] [.ptr [DI c1_0.1,DI c1_0.2.1,DI c1_0.2.2.1,DI c1_0.2.2.2.1,DI c1_0.2.2.2.2.1,DI c1_0.2.2.2.2.2] 0]),(7,DI (s.length:Int)),(8,DI v7)],[],0⟩) 0 (sb 0) he ?_;rintro w1 v7 b hm x1;apply vb hm<;>intro _ hm;refine ei hm fun u1 hm=>?_
 refine cy hm (a2E u1 c1_0) fun s1 hm=>?_
 apply vb hm<;>intro _ hm;cases hm;cases x1;have hm:=z1;exact hm.rr;cases hm;exact⟨(_,(W (v7+1))),sb 0,x1,D6 _⟩;cases hm;cases x1;have hm:=z1;exact hm.rr
def A4(c1_0:(Int×Int×Int×Int×Int×Int)):(Int×Int×(List b9))→Option (Sum (Int×Int×(List b9)) (Int×Int×(List b9))):=fun(z1,u1,x1)=>
 if(decide (u1<(x1.length:Int)))=true then
  (idx x1 u1).bind fun s1=>
  (idx x1 u1).bind fun v1=>
  (F2 v1 c1_0).bind fun w1=>
  if(!w1)=true then
   (idx x1 z1).bind fun t1=>
   (idx x1 z1).bind fun q1=>
   some (.inl ((W (z1+1)),(W (u1+1)),(x1.set z1.toNat v1)))
  else
   some (.inl (z1,(W (u1+1)),x1))
 else
  some (.inr (z1,u1,x1))
def u7(s:(List b9))(c1_0:(Int×Int×Int×Int×Int×Int)):Option (List b9):=
 (B3 s c1_0).bind fun x1=>
 if(x1==(-1))=true then
  some s
 else
  (o8 (A4 c1_0) (x1,(W (x1+1)),s)).bind fun(z1,v1,u1)=>
  gd (0≤z1∧z1.toNat≤u1.length∧0<u1.length) (some (u1.take z1.toNat))
theorem J3(s:(List b9))(c1_0:(Int×Int×Int×Int×Int×Int))(r:(List b9))(hm:u7 s c1_0=some r):b5E Tryz.prog 155 8 s.length (s.flatMap b9.c) 38 [.fn 156 [] [.ptr [DI c1_0.1,DI c1_0.2.1,DI c1_0.2.2.1,DI c1_0.2.2.2.1,DI c1_0.2.2.2.2.1,DI c1_0.2.2.2.2.2] 0]] 8 r.length (r.flatMap b9.c):=by
 refine c5J (X:=⟨Tryz.prog,tt,Tryz.f155.ntmps,[],[],[],[],[],[]⟩) (t:=27) (ty:=38) (args:=[.fn 156 [] [.ptr [DI c1_0.1,DI c1_0.2.1,DI c1_0.2.2.1,DI c1_0.2.2.2.1,DI c1_0.2.2.2.2.1,DI c1_0.2.2.2.2.2] 0]]) pok func155 rfl rfl (J6 rfl) .mk rfl rfl rfl rfl rfl rfl ?_;refine co hm (J8 s c1_0) fun x1 hm=>?_
 apply vb hm<;>intro _ hm;cases hm;exact⟨rfl,rfl⟩;obtain⟨p1,he,q1⟩:=d9 hm;refine d5w (A4 c1_0) (fun(z1,u1,v1)=>⟨[(0,.row 0 8),(1,.fn 156 [] [.ptr [DI c1_0.1,DI c1_0.2.1,DI c1_0.2.2.1,DI c1_0.2.2.2.1,DI c1_0.2.2.2.2.1,DI c1_0.2.2.2.2.2] 0]),(5,DI z1),(6,DI u1)],[(0,rE 8 v1 b9.c 38)],1⟩) (x1,(W (x1+1)),s) (sb 1) he ?_;rintro n1 ⟨z1,u1,v1⟩ b hm w1;apply vb hm<;>intro _ hm;refine eb hm fun _ hm=>?_
 refine er hm fun s1 hm=>?_
 refine cy hm (a2E s1 c1_0) fun k1 hm=>?_
 apply vb hm<;>intro _ hm;refine eb hm fun _ hm=>?_
 obtain⟨j1,t1,hm⟩:=d9 hm;refine⟨_,c3T (fun _=>rfl) t1,_,c4H (y:=s1) (fun _=>rfl) t1,?_⟩;cases hm;exact⟨(_,((W (z1+1)),(W (u1+1)),(v1.set z1.toNat s1))),sb 1,w1,D6 _⟩;cases hm;exact⟨(_,(z1,(W (u1+1)),v1)),sb 1,w1,D6 _⟩;cases hm;cases w1;have hm:=q1;obtain⟨hg,hm⟩:=j0 hm;cases hm;exact d3L (fun _=>rfl) hg
def S7(k:B8)(have_:(Int×Int×Int×Int×Int×Int)):Option (List b9):=
 (D8 k.Depot.Written).bind fun x1=>
 (u7 x1.Records have_).bind fun x3=>
 gd ((0≤(if 6<(x3.length:Int)then 6 else(x3.length:Int))∧(if 6<(x3.length:Int)then 6 else(x3.length:Int))≤(x3.length:Int)))<|
 Option.bind (some (sub x3 0 ((if 6<(x3.length:Int)then 6 else(x3.length:Int))).toNat)) fun sl5=>
 (l3 sl5).bind fun x6=>
 some x6
theorem a8A(k:B8)(have_:(Int×Int×Int×Int×Int×Int))(r:(List b9))(hm:S7 k have_=some r):p0 Tryz.prog 125 [.ptr (B8.c k) 0,.agg [DI have_.1,DI have_.2.1,DI have_.2.2.1,DI have_.2.2.2.1,DI have_.2.2.2.2.1,DI have_.2.2.2.2.2]] (fun x=>x=lD 8 r b9.c):=by
 refine zy [] [80,112,155,175] [102,104] [] func125 rfl ?_;obtain⟨x1,hx2,hm⟩:=d9 hm;refine .inr (b3r.mk ⟨_,_,b4i k.Depot.Written _ hx2,?_⟩);obtain⟨x3,hx4,hm⟩:=d9 hm;refine .inl (c4p.mk ⟨_,_,_,_,_,_,_,rfl,J3 x1.Records have_ _ hx4,?_⟩);refine Or.inr ⟨_,rfl,?_⟩;obtain⟨hg,hm⟩:=j0 hm;obtain⟨sl5,hy,hm⟩:=d9 hm;refine⟨hg,_,(S1 (c:=b9.c) (z:=8) (fun _=>rfl) _ _ _).trans (Y7 _ (E0 hy)),?_⟩;have hl:sl5.length=((if 6<(x3.length:Int)then 6 else(x3.length:Int))).toNat-0:=by rw[←E0 hy];exact a0r (by omega)
 rw[←hl];obtain⟨x6,hx7,hm⟩:=d9 hm;refine .inl (a5X.mk ⟨_,_,_,_,o9 sl5 _ hx7,?_⟩);cases hm;exact d5v (d5t _)
def a3w(d:e9):Option B8:=
 (F3 d.Box).bind fun x1=>
 (l3 d.Written).bind fun z1=>
 some (⟨(⟨d.Me,x1,z1,d.Known⟩:e9)⟩:B8)
def a2S(x1:B8)(u1:b9):Option (B8×Int):=
 (Q2 x1.Depot.Box x1.Depot.Written u1).bind fun⟨v1,w1,z1⟩=>
 if(z1==0)=true then
  some ((⟨(⟨x1.Depot.Me,v1,w1,x1.Depot.Known⟩:e9)⟩:B8),z1)
 else
  some (x1,z1)
def a1Z(x1:B8):Option B8:=
 (X5 x1.Depot.Box).bind fun z1=>
 some (⟨(⟨x1.Depot.Me,z1,x1.Depot.Written,x1.Depot.Known⟩:e9)⟩:B8)
end Go.Proofs.YtggdlgclohnbaaaGreatDoor
