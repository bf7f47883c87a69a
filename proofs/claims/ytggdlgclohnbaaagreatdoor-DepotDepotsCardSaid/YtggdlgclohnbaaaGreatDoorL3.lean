/- Functions as Lean functions. -/
import Derived.Test.YtggdlgclohnbaaaGreatDoorL2
set_option linter.unusedVariables false
set_option linter.unusedSimpArgs false
namespace Go.Proofs.YtggdlgclohnbaaaGreatDoor
open Go Go.RowKit Go.Sx
set_option maxRecDepth 100000
set_option maxHeartbeats 20000000
def I7(m:c8):(Int×B8)→Option (Sum (Int×B8) (Sum (Int×B8) (e9×(List c8)×Int))):=fun(z1,u1)=>
 if(decide (z1<(m.Records.length:Int)))=true then
  (idx m.Records z1).bind fun v1=>
  (V8 u1.Depot.Written).bind fun x1=>
  (idx [x1.1,x1.2.1,x1.2.2.1,x1.2.2.2.1,x1.2.2.2.2.1,x1.2.2.2.2.2] v1.At.Depot).bind fun s1=>
  if(decide (s1<v1.At.No))=true then
   some (.inl ((W (z1+1)),u1))
  else
   (a2S u1 v1).bind fun⟨t1,w1⟩=>
   if(w1 !=0)=true then
    some (.inr (.inr ( zD0,[],w1)))
   else
    some (.inl ((W (z1+1)),t1))
 else
  some (.inr (.inl (z1,u1)))
def M5(m:c8):(Bool×Int×B8)→Option (Sum (Bool×Int×B8) (Bool×Int×B8)):=fun(more128,z1,x1)=>
 if(decide (z1<6))=true then
  (idx [m.Have.1,m.Have.2.1,m.Have.2.2.1,m.Have.2.2.2.1,m.Have.2.2.2.2.1,m.Have.2.2.2.2.2] z1).bind fun q1=>
  gd (0≤m.From∧m.From<6)<|
  gd (0≤z1∧z1<6)<|
  (idx [x1.Depot.Known.1,x1.Depot.Known.2.1,x1.Depot.Known.2.2.1,x1.Depot.Known.2.2.2.1,x1.Depot.Known.2.2.2.2.1,x1.Depot.Known.2.2.2.2.2] m.From).bind fun v1=>
  (idx [v1.1,v1.2.1,v1.2.2.1,v1.2.2.2.1,v1.2.2.2.2.1,v1.2.2.2.2.2] z1).bind fun p1=>
  gd (0≤m.From∧m.From<6)<|
  gd (0≤z1∧z1<6)<|
  (idx [x1.Depot.Known.1,x1.Depot.Known.2.1,x1.Depot.Known.2.2.1,x1.Depot.Known.2.2.2.1,x1.Depot.Known.2.2.2.2.1,x1.Depot.Known.2.2.2.2.2] m.From).bind fun u1=>
  (idx [u1.1,u1.2.1,u1.2.2.1,u1.2.2.2.1,u1.2.2.2.2.1,u1.2.2.2.2.2] z1).bind fun u2=>
  Option.bind (some (if q1>p1 then q1 else p1)) fun w1=>
  Option.bind (some (if(z1==0)=true then w1 else u1.1)) fun e1=>
  Option.bind (some (if(z1==1)=true then w1 else u1.2.1)) fun c1=>
  Option.bind (some (if(z1==2)=true then w1 else u1.2.2.1)) fun b1=>
  Option.bind (some (if(z1==3)=true then w1 else u1.2.2.2.1)) fun a1=>
  Option.bind (some (if(z1==4)=true then w1 else u1.2.2.2.2.1)) fun x2=>
  Option.bind (some (if(z1==5)=true then w1 else u1.2.2.2.2.2)) fun y2=>
  Option.bind (some (e1,c1,b1,a1,x2,y2)) fun s1=>
  Option.bind (some (if(m.From==0)=true then s1 else x1.Depot.Known.1)) fun n1=>
  Option.bind (some (if(m.From==1)=true then s1 else x1.Depot.Known.2.1)) fun k1=>
  Option.bind (some (if(m.From==2)=true then s1 else x1.Depot.Known.2.2.1)) fun j1=>
  Option.bind (some (if(m.From==3)=true then s1 else x1.Depot.Known.2.2.2.1)) fun h1=>
  Option.bind (some (if(m.From==4)=true then s1 else x1.Depot.Known.2.2.2.2.1)) fun g1=>
  Option.bind (some (if(m.From==5)=true then s1 else x1.Depot.Known.2.2.2.2.2)) fun f1=>
  if more128=true then
   some (.inl (true,(W (z1+1)),(⟨(⟨x1.Depot.Me,x1.Depot.Box,x1.Depot.Written,(n1,k1,j1,h1,g1,f1)⟩:e9)⟩:B8)))
  else
   (V8 x1.Depot.Written).bind fun t1=>
   (idx [t1.1,t1.2.1,t1.2.2.1,t1.2.2.2.1,t1.2.2.2.2.1,t1.2.2.2.2.2] z1).bind fun z2=>
   some (.inl ((decide (q1>z2)),(W (z1+1)),(⟨(⟨x1.Depot.Me,x1.Depot.Box,x1.Depot.Written,(n1,k1,j1,h1,g1,f1)⟩:e9)⟩:B8)))
 else
  some (.inr (more128,z1,x1))
def a2f(d:e9)(m:c8):Option (e9×(List c8)×Int):=
 (P0 d).bind fun x1=>
 if(!x1)=true then
  some ( zD0,[],85)
 else
  (a0V m).bind fun x4=>
  if(!x4)=true then
   some ( zD0,[],86)
  else
   if(m.To !=d.Me)=true then
    some ( zD0,[],86)
   else
    (a3w d).bind fun w1=>
    (o8 (I7 m) (0,w1)).bind fun e=>
    match e with
    |.inl (p1,s1)=>
     (a1Z s1).bind fun t1=>
     (o8 (M5 m) (false,0,t1)).bind fun(more191,n1,u1)=>
     (K5 u1 m.From).bind fun z1=>
     (S7 u1 m.Have).bind fun v1=>
     if((v1.length:Int)==0)=true then
      if((u1.Depot.Written.length:Int)==(d.Written.length:Int))=true then
       if(!more191)=true then
        some (u1.Depot,[],0)
       else
        some (u1.Depot,([(⟨z1.From,z1.To,z1.Have,v1⟩:c8)]:List c8),0)
      else
       some (u1.Depot,([(⟨z1.From,z1.To,z1.Have,v1⟩:c8)]:List c8),0)
     else
      some (u1.Depot,([(⟨z1.From,z1.To,z1.Have,v1⟩:c8)]:List c8),0)
    |.inr q1=>
     some q1
theorem b4o(d:e9)(m:c8)(r:(e9×(List c8)×Int))(hm:a2f d m=some r):p0 Tryz.prog 61 [.agg (e9.c d),.agg (c8.c m)] (fun x=>x=.tup [.agg (e9.c r.1),lD 9 r.2.1 c8.c,DI r.2.2]):=by
 refine zy d5r [] [] [118,119,121] Tryz.func61 rfl ?_;refine cy hm (a2e d) fun x1 hm=>?_
 apply vb hm<;>intro _ hm;cases hm;exact d5v (c1v);refine cy hm (b1i m) fun x4 hm=>?_
 apply vb hm<;>intro _ hm;cases hm;exact d5v (c1v);apply vb hm<;>intro _ hm;cases hm;exact d5v (c1v);obtain⟨a1,k2,hm⟩:=d9 hm;refine a3r.ofZ pok ⟨[(0,.agg (e9.c d)),(1000002,.own 0 0),(1000003,.own 1 0),(1000004,.own 2 0)],[(0,.blk (e9.c d) 91),(1,.blk (c8.c m) 86),(2,.blk  zC 91)],3⟩ (⟨[(2,.own 0 0),(3,.own 1 0),(4,.own 2 0),(33,.own 4 0)],[(0,.blk (e9.c d) 91),(1,.blk (c8.c m) 86),(2,.blk  zC 91),(4,.blk (e9.c a1.Depot) 173)],5⟩:Sy) c7Q [] [] [118,119,121] Tryz.func118 rfl rfl rfl (sb 3) (fun sv=>?_) ?_;have hm:=k2;refine⟨rfl,?_⟩;refine cy hm (b5S d.Box) fun t3 hm=>?_
 refine cy hm (a1R d.Written) fun q3 hm=>?_
 cases hm;exact sb 5;obtain⟨p3,he,x2⟩:=d9 hm;refine d5w (I7 m) (fun(g1,t1)=>⟨[(2,.own 0 0),(3,.own 1 0),(4,.own 2 0),(7,.own 4 0),(35,lD 8 m.Records b9.c),(36,DI (m.Records.length:Int)),(37,DI g1)],[(0,.blk (e9.c d) 91),(1,.blk (c8.c m) 86),(2,.blk  zC 91),(4,.blk (e9.c t1.Depot) 173)],5⟩) (0,a1) (sb 5) he ?_;rintro n3 ⟨g1,t1⟩ b hm e1;apply vb hm<;>intro _ hm;refine ei hm fun v1 hm=>?_
 refine⟨rfl,?_⟩;refine cy hm (a2O t1.Depot.Written) fun w1 hm=>?_
 obtain⟨y2,z2,hm⟩:=d9 hm;refine⟨a2x z2,_,a3K (c:=cI) (z:=1) (fun _=>rfl) z2 rfl (by omega) rfl,?_⟩;apply vb hm<;>intro _ hm;cases hm;exact⟨(_,((W (g1+1)),t1)),sb 5,e1,D6 _⟩;obtain⟨u2,j2,hm⟩:=d9 hm;refine a3r.ofZ pok ⟨[(0,.own 4 0),(1,.agg (b9.c v1)),(1000002,.own 0 0),(1000003,.own 1 0),(1000004,.own 2 0),(1000007,.own 4 0),(1000009,.own 5 0),(1000035,lD 8 m.Records b9.c),(1000036,DI (m.Records.length:Int)),(1000037,DI g1),(1000039,.ptr (b9.c v1) 0),(1000040,.agg (b9.c v1)),(1000041,.own 4 0),(1000042,.own 4 0),(1000043,.own 4 0),(1000044,.own 4 3),(1000045,lD 8 t1.Depot.Written b9.c),(1000046,.agg [DI w1.1,DI w1.2.1,DI w1.2.2.1,DI w1.2.2.2.1,DI w1.2.2.2.2.1,DI w1.2.2.2.2.2]),(1000047,.own 5 0),(1000048,.own 5 0),(1000049,DI v1.At.Depot),(1000050,DI y2),(1000051,.own 5 0),(1000052,.own 5 1),(1000053,DI v1.At.No),(1000055,.own 4 0),(1000056,.agg (b9.c v1))],[(0,.blk (e9.c d) 91),(1,.blk (c8.c m) 86),(2,.blk  zC 91),(4,.blk (e9.c t1.Depot) 173),(5,.blk (b9.c v1) 38)],6⟩ (match u2 with|(c1,v2)=>(⟨[(2,.own 0 0),(3,.own 1 0),(4,.own 2 0),(7,.own 4 0),(9,.own 5 0),(35,lD 8 m.Records b9.c),(36,DI (m.Records.length:Int)),(37,DI g1),(39,.ptr (b9.c v1) 0),(40,.agg (b9.c v1)),(41,.own 4 0),(42,.own 4 0),(43,.own 4 0),(44,.own 4 3),(45,lD 8 t1.Depot.Written b9.c),(46,.agg [DI w1.1,DI w1.2.1,DI w1.2.2.1,DI w1.2.2.2.1,DI w1.2.2.2.2.1,DI w1.2.2.2.2.2]),(47,.own 5 0),(48,.own 5 0),(49,DI v1.At.Depot),(50,DI y2),(51,.own 5 0),(52,.own 5 1),(53,DI v1.At.No),(55,.own 4 0),(56,.agg (b9.c v1)),(57,DI v2)],[(0,.blk (e9.c d) 91),(1,.blk (c8.c m) 86),(2,.blk  zC 91),(4,.blk (e9.c c1.Depot) 173),(5,.blk (b9.c v1) 38)],6⟩:Sy):Sy) d0T [] [] [118,119,121] Tryz.func119 rfl rfl rfl (sb 6) (fun sv=>?_) ?_
 have hm:=j2;refine⟨rfl,?_⟩;refine cy hm (a6z t1.Depot.Box t1.Depot.Written v1) ?_;rintro⟨k3,j3,h3⟩ hm;apply vb hm<;>intro _ hm;cases hm;exact sb 6;cases hm;exact sb 6;obtain⟨c1,v2⟩:=u2;apply vb hm<;>intro _ hm;cases hm;cases e1;have hm:=x2;cases hm;exact d5v (c1v);cases hm;exact⟨(_,((W (g1+1)),c1)),sb 5,e1,D6 _⟩;cases hm;cases e1;have hm:=x2;obtain⟨w2,h2,hm⟩:=d9 hm;refine a3r.ofZ pok ⟨[(0,.own 4 0),(1000002,.own 0 0),(1000003,.own 1 0),(1000004,.own 2 0),(1000007,.own 4 0)],[(0,.blk (e9.c d) 91),(1,.blk (c8.c m) 86),(2,.blk  zC 91),(4,.blk (e9.c t1.Depot) 173)],5⟩ (⟨[(2,.own 0 0),(3,.own 1 0),(4,.own 2 0),(7,.own 4 0),(64,.tup [])],[(0,.blk (e9.c d) 91),(1,.blk (c8.c m) 86),(2,.blk  zC 91),(4,.blk (e9.c w2.Depot) 173)],5⟩:Sy) [] [] [] [118,119,121] Tryz.func121 rfl rfl rfl (sb 5) (fun sv=>?_) ?_;have hm:=h2;refine cy hm (a7O t1.Depot.Box) fun g3 hm=>?_
 cases hm;exact sb 5;obtain⟨f3,he,g2⟩:=d9 hm;refine d5w (M5 m) (fun(more308,f1,u1)=>⟨[(2,.own 0 0),(3,.own 1 0),(4,.own 2 0),(7,.own 4 0),(11,DB more308),(66,.agg [DI m.Have.1,DI m.Have.2.1,DI m.Have.2.2.1,DI m.Have.2.2.2.1,DI m.Have.2.2.2.2.1,DI m.Have.2.2.2.2.2]),(67,DI f1)],[(0,.blk (e9.c d) 91),(1,.blk (c8.c m) 86),(2,.blk  zC 91),(4,.blk (e9.c u1.Depot) 173)],5⟩) (false,0,w2) (sb 5) he ?_;rintro e3 ⟨more308,f1,u1⟩ b hm b1;apply vb hm<;>intro _ hm;obtain⟨f2,s2,hm⟩:=d9 hm;refine⟨a2x s2,_,a3K (c:=cI) (z:=1) (fun _=>rfl) s2 rfl (by omega) rfl,?_⟩;refine⟨rfl,?_⟩;obtain⟨hg,hm⟩:=j0 hm;refine⟨hg,?_⟩;obtain⟨hg,hm⟩:=j0 hm;refine⟨hg,?_⟩;obtain⟨c3,e2,hm⟩:=d9 hm;obtain⟨t2,c2,hm⟩:=d9 hm;refine⟨_,ldx (r:=[DI t2]) (c:=cf1) (z:=6) (pre:=[DI u1.Depot.Me,lD 5 u1.Depot.Box.Thread d8.c,lD 5 u1.Depot.Box.Loose d8.c,lD 8 u1.Depot.Written b9.c]) (post:=[]) (b:=4) (off:=(f1).toNat*1) (fun _=>rfl) e2 rfl rfl (by omega) (a3K (r:=[DI t2]) (c:=cI) (z:=1) (fun _=>rfl) c2 rfl (by omega) rfl),?_⟩;obtain⟨hg,hm⟩:=j0 hm;refine⟨hg,?_⟩;obtain⟨hg,hm⟩:=j0 hm;refine⟨hg,?_⟩;obtain⟨b3,q2,hm⟩:=d9 hm;obtain⟨a3,p2,hm⟩:=d9 hm;obtain⟨b2,hv,hm⟩:=d9 hm;obtain⟨a2,hp0,hm⟩:=d9 hm;obtain⟨x3,hp1,hm⟩:=d9 hm;obtain⟨y3,hp2,hm⟩:=d9 hm;obtain⟨z3,hp3,hm⟩:=d9 hm;obtain⟨u3,hp4,hm⟩:=d9 hm;obtain⟨v3,hp5,hm⟩:=d9 hm;obtain⟨w3,hy,hm⟩:=d9 hm;obtain⟨q1,hq0,hm⟩:=d9 hm;obtain⟨p1,hq1,hm⟩:=d9 hm;obtain⟨n1,hq2,hm⟩:=d9 hm;obtain⟨k1,hq3,hm⟩:=d9 hm;obtain⟨j1,hq4,hm⟩:=d9 hm;obtain⟨h1,hq5,hm⟩:=d9 hm;refine⟨[DI u1.Depot.Me,lD 5 u1.Depot.Box.Thread d8.c,lD 5 u1.Depot.Box.Loose d8.c,lD 8 u1.Depot.Written b9.c,DI q1.1,DI q1.2.1,DI q1.2.2.1,DI q1.2.2.2.1,DI q1.2.2.2.2.1,DI q1.2.2.2.2.2,DI p1.1,DI p1.2.1,DI p1.2.2.1,DI p1.2.2.2.1,DI p1.2.2.2.2.1,DI p1.2.2.2.2.2,DI n1.1,DI n1.2.1,DI n1.2.2.1,DI n1.2.2.2.1,DI n1.2.2.2.2.1,DI n1.2.2.2.2.2,DI k1.1,DI k1.2.1,DI k1.2.2.1,DI k1.2.2.2.1,DI k1.2.2.2.2.1,DI k1.2.2.2.2.2,DI j1.1,DI j1.2.1,DI j1.2.2.1,DI j1.2.2.2.1,DI j1.2.2.2.2.1,DI j1.2.2.2.2.2,DI h1.1,DI h1.2.1,DI h1.2.2.1,DI h1.2.2.2.1,DI h1.2.2.2.2.1,DI h1.2.2.2.2.2],stx (y:=w3) (ys:=[q1,p1,n1,k1,j1,h1]) (c:=cf1) (z:=6) (pre:=[DI u1.Depot.Me,lD 5 u1.Depot.Box.Thread d8.c,lD 5 u1.Depot.Box.Loose d8.c,lD 8 u1.Depot.Written b9.c]) (post:=[]) (b:=4) (off:=(f1).toNat*1) (fun _=>rfl) q2 rfl rfl (by omega) (b0L (y:=b2) (ys:=[a2,x3,y3,z3,u3,v3]) (c:=cI) (z:=1) (fun _=>rfl) p2 rfl (by omega) (by cases hv;rfl) (by cases hy;rfl) (by cases hp0;cases hp1;cases hp2;cases hp3;cases hp4;cases hp5;exact L7 p2)) rfl (by cases hq0;cases hq1;cases hq2;cases hq3;cases hq4;cases hq5;exact L7 q2),?_⟩;clear hv hy hp0 hp1 hp2 hp3 hp4 hp5 hq0 hq1 hq2 hq3 hq4 hq5;apply vb hm<;>intro _ hm;cases hm;exact⟨(_,(true,(W (f1+1)),(⟨(⟨u1.Depot.Me,u1.Depot.Box,u1.Depot.Written,(q1,p1,n1,k1,j1,h1)⟩:e9)⟩:B8))),sb 5,b1,D6 _⟩;refine cy hm (a2O u1.Depot.Written) fun y4 hm=>?_
 obtain⟨s3,n2,hm⟩:=d9 hm;refine⟨a2x n2,_,a3K (c:=cI) (z:=1) (fun _=>rfl) n2 rfl (by omega) rfl,?_⟩;cases hm;exact⟨(_,((decide (f2>s3)),(W (f1+1)),(⟨(⟨u1.Depot.Me,u1.Depot.Box,u1.Depot.Written,(q1,p1,n1,k1,j1,h1)⟩:e9)⟩:B8))),sb 5,b1,D6 _⟩;cases hm;cases b1;have hm:=g2;refine co hm (a3a u1 m.From) fun z1 hm=>?_
 refine cy hm (a8A u1 m.Have) fun s1 hm=>?_
 refine⟨rfl,?_⟩;apply vb hm<;>intro _ hm;apply vb hm<;>intro _ hm;apply vb hm<;>intro _ hm;cases hm;exact d5v (d1P);refine⟨rfl,?_⟩;refine⟨?_,?_⟩;refine⟨([(⟨z1.From,z1.To,z1.Have,s1⟩:c8)]:List c8).flatMap c8.c,([(⟨z1.From,z1.To,z1.Have,s1⟩:c8)]:List c8).length,⟨rfl,rfl⟩,?_⟩;cases hm;exact d5v (d5t _);refine⟨([(⟨z1.From,z1.To,z1.Have,s1⟩:c8)]:List c8).flatMap c8.c,([(⟨z1.From,z1.To,z1.Have,s1⟩:c8)]:List c8).length,⟨rfl,rfl⟩,?_⟩;cases hm;exact d5v (d5t _);refine⟨rfl,?_⟩;refine⟨?_,?_⟩;refine⟨([(⟨z1.From,z1.To,z1.Have,s1⟩:c8)]:List c8).flatMap c8.c,([(⟨z1.From,z1.To,z1.Have,s1⟩:c8)]:List c8).length,⟨rfl,rfl⟩,?_⟩;cases hm;exact d5v (d5t _);refine⟨([(⟨z1.From,z1.To,z1.Have,s1⟩:c8)]:List c8).flatMap c8.c,([(⟨z1.From,z1.To,z1.Have,s1⟩:c8)]:List c8).length,⟨rfl,rfl⟩,?_⟩;cases hm;exact d5v (d5t _);refine⟨rfl,?_⟩;refine⟨?_,?_⟩;refine⟨([(⟨z1.From,z1.To,z1.Have,s1⟩:c8)]:List c8).flatMap c8.c,([(⟨z1.From,z1.To,z1.Have,s1⟩:c8)]:List c8).length,⟨rfl,rfl⟩,?_⟩;cases hm;exact d5v (d5t _);refine⟨([(⟨z1.From,z1.To,z1.Have,s1⟩:c8)]:List c8).flatMap c8.c,([(⟨z1.From,z1.To,z1.Have,s1⟩:c8)]:List c8).length,⟨rfl,rfl⟩,?_⟩;cases hm;exact d5v (d5t _)
def a2j(d:e9)(picks:(List Int)):Option (e9×Int):=
 (P0 d).bind fun x1=>
 if(!x1)=true then
  some ( zD0,85)
 else
  (E6 d.Box picks).bind fun x4=>
  (E9 x4).bind fun⟨x6,x7⟩=>
  some ((⟨d.Me,x6,x7,((0,0,0,0,0,0),(0,0,0,0,0,0),(0,0,0,0,0,0),(0,0,0,0,0,0),(0,0,0,0,0,0),(0,0,0,0,0,0))⟩:e9),0)
theorem b4j(d:e9)(picks:(List Int))(r:(e9×Int))(hm:a2j d picks=some r):p0 Tryz.prog 63 [.agg (e9.c d),lD 1 picks cI] (fun x=>x=.tup [.agg (e9.c r.1),DI r.2]):=by
 refine zn Tryz.func63 rfl ?_;refine cy hm (a2e d) fun x1 hm=>?_
 apply vb hm<;>intro _ hm;cases hm;exact d5v (le6);refine cy hm (a1A d.Box picks) fun x4 hm=>?_
 refine cy hm (a1E x4) ?_;rintro⟨x6,x7⟩ hm;cases hm;exact d5v (d5t _)
def L4(a:e9)(b_:e9):Option Bool:=
 (X3 a.Written b_.Written).bind fun x1=>
 (a6E a.Box b_.Box).bind fun x3=>
 if x1=true then
  if x3=true then
   if(a.Me==b_.Me)=true then
    some ((a.Known.1.1==b_.Known.1.1)&&((a.Known.1.2.1==b_.Known.1.2.1)&&((a.Known.1.2.2.1==b_.Known.1.2.2.1)&&((a.Known.1.2.2.2.1==b_.Known.1.2.2.2.1)&&((a.Known.1.2.2.2.2.1==b_.Known.1.2.2.2.2.1)&&((a.Known.1.2.2.2.2.2==b_.Known.1.2.2.2.2.2)&&((a.Known.2.1.1==b_.Known.2.1.1)&&((a.Known.2.1.2.1==b_.Known.2.1.2.1)&&((a.Known.2.1.2.2.1==b_.Known.2.1.2.2.1)&&((a.Known.2.1.2.2.2.1==b_.Known.2.1.2.2.2.1)&&((a.Known.2.1.2.2.2.2.1==b_.Known.2.1.2.2.2.2.1)&&((a.Known.2.1.2.2.2.2.2==b_.Known.2.1.2.2.2.2.2)&&((a.Known.2.2.1.1==b_.Known.2.2.1.1)&&((a.Known.2.2.1.2.1==b_.Known.2.2.1.2.1)&&((a.Known.2.2.1.2.2.1==b_.Known.2.2.1.2.2.1)&&((a.Known.2.2.1.2.2.2.1==b_.Known.2.2.1.2.2.2.1)&&((a.Known.2.2.1.2.2.2.2.1==b_.Known.2.2.1.2.2.2.2.1)&&((a.Known.2.2.1.2.2.2.2.2==b_.Known.2.2.1.2.2.2.2.2)&&((a.Known.2.2.2.1.1==b_.Known.2.2.2.1.1)&&((a.Known.2.2.2.1.2.1==b_.Known.2.2.2.1.2.1)&&((a.Known.2.2.2.1.2.2.1==b_.Known.2.2.2.1.2.2.1)&&((a.Known.2.2.2.1.2.2.2.1==b_.Known.2.2.2.1.2.2.2.1)&&((a.Known.2.2.2.1.2.2.2.2.1==b_.Known.2.2.2.1.2.2.2.2.1)&&((a.Known.2.2.2.1.2.2.2.2.2==b_.Known.2.2.2.1.2.2.2.2.2)&&((a.Known.2.2.2.2.1.1==b_.Known.2.2.2.2.1.1)&&((a.Known.2.2.2.2.1.2.1==b_.Known.2.2.2.2.1.2.1)&&((a.Known.2.2.2.2.1.2.2.1==b_.Known.2.2.2.2.1.2.2.1)&&((a.Known.2.2.2.2.1.2.2.2.1==b_.Known.2.2.2.2.1.2.2.2.1)&&((a.Known.2.2.2.2.1.2.2.2.2.1==b_.Known.2.2.2.2.1.2.2.2.2.1)&&((a.Known.2.2.2.2.1.2.2.2.2.2==b_.Known.2.2.2.2.1.2.2.2.2.2)&&((a.Known.2.2.2.2.2.1==b_.Known.2.2.2.2.2.1)&&((a.Known.2.2.2.2.2.2.1==b_.Known.2.2.2.2.2.2.1)&&((a.Known.2.2.2.2.2.2.2.1==b_.Known.2.2.2.2.2.2.2.1)&&((a.Known.2.2.2.2.2.2.2.2.1==b_.Known.2.2.2.2.2.2.2.2.1)&&((a.Known.2.2.2.2.2.2.2.2.2.1==b_.Known.2.2.2.2.2.2.2.2.2.1)&&(a.Known.2.2.2.2.2.2.2.2.2.2==b_.Known.2.2.2.2.2.2.2.2.2.2))))))))))))))))))))))))))))))))))))
   else
    some false
  else
   some false
 else
  some false
theorem a0D(a:e9)(b_:e9)(r:Bool)(hm:L4 a b_=some r):p0 Tryz.prog 65 [.agg (e9.c a),.agg (e9.c b_)] (fun x=>x=DB r):=by
 refine zn Tryz.func65 rfl ?_;refine cy hm (a6i a.Written b_.Written) fun x1 hm=>?_
 refine cy hm (b7f a.Box b_.Box) fun x3 hm=>?_
 apply vb hm<;>intro _ hm;apply vb hm<;>intro _ hm;apply vb hm<;>intro _ hm;exact hm.rr;exact hm.rr;exact hm.rr;exact hm.rr
def W6(a:c8)(b_:c8):Option Bool:=
 (X3 a.Records b_.Records).bind fun x1=>
 if x1=true then
  if(a.From==b_.From)=true then
   if(a.To==b_.To)=true then
    some ((a.Have.1==b_.Have.1)&&((a.Have.2.1==b_.Have.2.1)&&((a.Have.2.2.1==b_.Have.2.2.1)&&((a.Have.2.2.2.1==b_.Have.2.2.2.1)&&((a.Have.2.2.2.2.1==b_.Have.2.2.2.2.1)&&(a.Have.2.2.2.2.2==b_.Have.2.2.2.2.2))))))
   else
    some false
  else
   some false
 else
  some false
theorem a6m(a:c8)(b_:c8)(r:Bool)(hm:W6 a b_=some r):p0 Tryz.prog 66 [.agg (c8.c a),.agg (c8.c b_)] (fun x=>x=DB r):=by
 refine zn Tryz.func66 rfl ?_;refine cy hm (a6i a.Records b_.Records) fun x1 hm=>?_
 apply vb hm<;>intro _ hm;apply vb hm<;>intro _ hm;apply vb hm<;>intro _ hm;exact hm.rr;exact hm.rr;exact hm.rr;exact hm.rr
def H5(a:(List c8))(b_:(List c8)):(Bool×Int)→Option (Sum (Bool×Int) (Bool×Int)):=fun(same9,x1)=>
 if(decide (x1<(a.length:Int)))=true then
  if same9=true then
   (idx a x1).bind fun z1=>
   (idx b_ x1).bind fun u1=>
   (W6 z1 u1).bind fun v1=>
   some (.inl (v1,(W (x1+1))))
  else
   some (.inr (same9,x1))
 else
  some (.inr (same9,x1))
def a0w(a:(List c8))(b_:(List c8)):Option Bool:=
 (o8 (H5 a b_) (((a.length:Int)==(b_.length:Int)),0)).bind fun(same27,x1)=>
 some same27
theorem b1c(a:(List c8))(b_:(List c8))(r:Bool)(hm:a0w a b_=some r):p0 Tryz.prog 67 [lD 9 a c8.c,lD 9 b_ c8.c] (fun x=>x=DB r):=by
 refine zy d4D [] [] [] Tryz.func67 rfl ?_;obtain⟨t1,he,u1⟩:=d9 hm;refine d5w (H5 a b_) (fun(same9,x1)=>⟨[(0,lD 9 a c8.c),(1,lD 9 b_ c8.c),(5,DB same9),(6,DI x1)],[],0⟩) (((a.length:Int)==(b_.length:Int)),0) (sb 0) he ?_;rintro q1 ⟨same9,x1⟩ b hm z1;apply vb hm<;>intro _ hm;apply vb hm<;>intro _ hm;refine⟨rfl,?_⟩;refine ei hm fun v1 hm=>?_
 refine ei hm fun w1 hm=>?_
 refine cy hm (a6m v1 w1) fun s1 hm=>?_
 cases hm;exact⟨(_,(s1,(W (x1+1)))),sb 0,z1,D6 _⟩;cases hm;cases z1;have hm:=u1;exact hm.rr;cases hm;cases z1;have hm:=u1;exact hm.rr
def a3u(l:(List a1M))(x:a1c):Option Bool:=
 (a8d).bind fun x1=>
 (a4Q l).bind fun⟨x3,x4⟩=>
 (F1 x.Depot 3).bind fun x6=>
 gd (0≤x6∧x6<3)<|
 (idx [x3.1,x3.2.1,x3.2.2] x6).bind fun e8=>
 (F1 x.Which 10).bind fun k1=>
 (if(k1==0)=true then
  some (x,(⟨(W (e8.Me+x.By)),e8.Box,e8.Written,e8.Known⟩:e9))
 else
  Option.bind (if(k1==1)=true then
   Option.bind (F1 x.By 6) fun v1=>
   gd (0≤v1∧v1<6)<|
   Option.bind (F1 x.To 6) fun w1=>
   gd (0≤w1∧w1<6)<|
   Option.bind (idx [e8.Known.1,e8.Known.2.1,e8.Known.2.2.1,e8.Known.2.2.2.1,e8.Known.2.2.2.2.1,e8.Known.2.2.2.2.2] v1) fun z1=>
   Option.bind (idx [z1.1,z1.2.1,z1.2.2.1,z1.2.2.2.1,z1.2.2.2.2.1,z1.2.2.2.2.2] w1) fun t4=>
   Option.bind (some x.By) fun p1=>
   Option.bind (some (if(w1==0)=true then p1 else z1.1)) fun j1=>
   Option.bind (some (if(w1==1)=true then p1 else z1.2.1)) fun h1=>
   Option.bind (some (if(w1==2)=true then p1 else z1.2.2.1)) fun g1=>
   Option.bind (some (if(w1==3)=true then p1 else z1.2.2.2.1)) fun f1=>
   Option.bind (some (if(w1==4)=true then p1 else z1.2.2.2.2.1)) fun e1=>
   Option.bind (some (if(w1==5)=true then p1 else z1.2.2.2.2.2)) fun c1=>
   Option.bind (some (j1,h1,g1,f1,e1,c1)) fun n1=>
   Option.bind (some (if(v1==0)=true then n1 else e8.Known.1)) fun b1=>
   Option.bind (some (if(v1==1)=true then n1 else e8.Known.2.1)) fun a1=>
   Option.bind (some (if(v1==2)=true then n1 else e8.Known.2.2.1)) fun x2=>
   Option.bind (some (if(v1==3)=true then n1 else e8.Known.2.2.2.1)) fun y2=>
   Option.bind (some (if(v1==4)=true then n1 else e8.Known.2.2.2.2.1)) fun z2=>
   Option.bind (some (if(v1==5)=true then n1 else e8.Known.2.2.2.2.2)) fun u2=>
   some (x,(⟨e8.Me,e8.Box,e8.Written,(b1,a1,x2,y2,z2,u2)⟩:e9))
  else
   Option.bind (if(k1==2)=true then
    Option.bind (a3S e8.Box ([x.By]:List Int)) fun v2=>
    some (x,(⟨e8.Me,v2,e8.Written,e8.Known⟩:e9))
   else
    Option.bind (if(k1==3)=true then
     Option.bind (if(decide ((x4.length:Int)>0))=true then
      Option.bind (F1 x.By (x4.length:Int)) fun w2=>
      Option.bind (idx x4 w2) fun s2=>
      some (⟨x.Depot,x.To,x.Record,s2,x.Picks,x.Which,x.By⟩:a1c)
     else
      some x) fun t2=>
     some t2
    else
     some x) fun q2=>
    some (q2,e8)) fun⟨p2,n2⟩=>
   some (p2,n2)) fun⟨k2,j2⟩=>
  some (k2,j2)).bind fun⟨u1,s1⟩=>
 (a1C u1.To).bind fun⟨h2,g2⟩=>
 (a0Z u1.To).bind fun⟨f2,e2⟩=>
 (a4U s1 u1.Record).bind fun⟨c2,t1,b2⟩=>
 (a5x s1 u1.Record).bind fun⟨a2,q1,y3⟩=>
 (a4T s1 u1.To).bind fun⟨z3,u3,v3⟩=>
 (a3E s1 u1.To).bind fun⟨w3,s3,t3⟩=>
 (a2f s1 u1.Message).bind fun⟨q3,p3,n3⟩=>
 (a0I s1 u1.Message).bind fun⟨k3,j3,h3⟩=>
 (a2j s1 u1.Picks).bind fun⟨g3,f3⟩=>
 (a1W s1 u1.Picks).bind fun⟨e3,c3⟩=>
 (L4 h2 f2).bind fun b3=>
 (L4 c2 a2).bind fun a3=>
 (L4 z3 w3).bind fun y4=>
 (L4 q3 k3).bind fun z4=>
 (L4 g3 e3).bind fun u4=>
 (W6 u3 s3).bind fun v4=>
 (a0w p3 j3).bind fun w4=>
 Option.bind (if x1=true then
  if b3=true then
   if(g2==e2)=true then
    if a3=true then
     if((t1.At.Depot==q1.At.Depot)&&((t1.At.No==q1.At.No)&&((t1.Kind==q1.Kind)&&((t1.Day==q1.Day)&&((t1.Known==q1.Known)&&((t1.Of.Depot==q1.Of.Depot)&&((t1.Of.No==q1.Of.No)&&(t1.Text.toList==q1.Text.toList))))))))=true then
      if(b2==y3)=true then
       if y4=true then
        if v4=true then
         if(v3==t3)=true then
          if z4=true then
           if w4=true then
            if(n3==h3)=true then
             if u4=true then
              some (f3==c3)
             else
              some false
            else
             some false
           else
            some false
          else
           some false
         else
          some false
        else
         some false
       else
        some false
      else
       some false
     else
      some false
    else
     some false
   else
    some false
  else
   some false
 else
  some false) fun s4=>
 some s4
theorem b1W(l:(List a1M))(x:a1c)(r:Bool)(hm:a3u l x=some r):p0 Tryz.prog 11 [lD 9 l a1M.c,.agg (a1c.c x)] (fun x=>x=DB r):=by
 refine d0F (X:=⟨Tryz.prog,tt,Tryz.f11.ntmps,d4r,[],[],[],[],[]⟩) pok _ Tryz.func11 rfl rfl (J6 rfl) ?_;refine cy hm (c2E) fun x1 hm=>?_
 refine cy hm (b9i l) ?_;rintro⟨x3,x4⟩ hm;refine cy hm (I8 x.Depot 3) fun x6 hm=>?_
 obtain⟨hg,hm⟩:=j0 hm;refine⟨hg,?_⟩;obtain⟨e8,hx9,hm⟩:=d9 hm;refine⟨_,a3K (r:=(e9.c e8)) (c:=e9.c) (z:=40) (fun _=>rfl) hx9 rfl (by omega) rfl,?_⟩;refine cy hm (I8 x.Which 10) fun f3 hm=>?_
 refine .two ?_;obtain⟨⟨z1,u1⟩,j1,h1⟩:=d9 hm;refine .join (⟨[(3,.own 0 0),(5,DB x1),(8,.own 2 0)],[(0,.blk (a1c.c z1) 88),(2,.blk (e9.c u1) 91)],4⟩:Sy) True ?_ (fun _=>?_);replace hm:=j1;apply vb hm<;>intro _ hm;cases hm;exact⟨trivial,sb 4⟩;obtain⟨⟨g1,f1⟩,e1,c1⟩:=d9 hm;refine .join (⟨[(3,.own 0 0),(5,DB x1),(8,.own 2 0)],[(0,.blk (a1c.c g1) 88),(2,.blk (e9.c f1) 91)],4⟩:Sy) True ?_ (fun _=>?_);replace hm:=e1;apply vb hm<;>intro _ hm;refine⟨rfl,?_⟩;refine cy hm (I8 x.By 6) fun e3 hm=>?_
 obtain⟨hg,hm⟩:=j0 hm;refine⟨hg,?_⟩;refine cy hm (I8 x.To 6) fun b1 hm=>?_
 obtain⟨hg,hm⟩:=j0 hm;refine⟨hg,?_⟩;obtain⟨c3,n1,hm⟩:=d9 hm;obtain⟨b3,k1,hm⟩:=d9 hm;obtain⟨a1,hv,hm⟩:=d9 hm;obtain⟨x2,hp0,hm⟩:=d9 hm;obtain⟨y2,hp1,hm⟩:=d9 hm;obtain⟨z2,hp2,hm⟩:=d9 hm;obtain⟨u2,hp3,hm⟩:=d9 hm;obtain⟨v2,hp4,hm⟩:=d9 hm;obtain⟨w2,hp5,hm⟩:=d9 hm;obtain⟨s2,hy,hm⟩:=d9 hm;obtain⟨v1,hq0,hm⟩:=d9 hm;obtain⟨w1,hq1,hm⟩:=d9 hm;obtain⟨s1,hq2,hm⟩:=d9 hm;obtain⟨t1,hq3,hm⟩:=d9 hm;obtain⟨q1,hq4,hm⟩:=d9 hm;obtain⟨p1,hq5,hm⟩:=d9 hm;refine⟨[DI e8.Me,lD 5 e8.Box.Thread d8.c,lD 5 e8.Box.Loose d8.c,lD 8 e8.Written b9.c,DI v1.1,DI v1.2.1,DI v1.2.2.1,DI v1.2.2.2.1,DI v1.2.2.2.2.1,DI v1.2.2.2.2.2,DI w1.1,DI w1.2.1,DI w1.2.2.1,DI w1.2.2.2.1,DI w1.2.2.2.2.1,DI w1.2.2.2.2.2,DI s1.1,DI s1.2.1,DI s1.2.2.1,DI s1.2.2.2.1,DI s1.2.2.2.2.1,DI s1.2.2.2.2.2,DI t1.1,DI t1.2.1,DI t1.2.2.1,DI t1.2.2.2.1,DI t1.2.2.2.2.1,DI t1.2.2.2.2.2,DI q1.1,DI q1.2.1,DI q1.2.2.1,DI q1.2.2.2.1,DI q1.2.2.2.2.1,DI q1.2.2.2.2.2,DI p1.1,DI p1.2.1,DI p1.2.2.1,DI p1.2.2.2.1,DI p1.2.2.2.2.1,DI p1.2.2.2.2.2],stx (y:=s2) (ys:=[v1,w1,s1,t1,q1,p1]) (c:=cf1) (z:=6) (pre:=[DI e8.Me,lD 5 e8.Box.Thread d8.c,lD 5 e8.Box.Loose d8.c,lD 8 e8.Written b9.c]) (post:=[]) (b:=4) (off:=(b1).toNat*1) (fun _=>rfl) n1 rfl rfl (by omega) (b0L (y:=a1) (ys:=[x2,y2,z2,u2,v2,w2]) (c:=cI) (z:=1) (fun _=>rfl) k1 rfl (by omega) (by cases hv;rfl) (by cases hy;rfl) (by cases hp0;cases hp1;cases hp2;cases hp3;cases hp4;cases hp5;exact L7 k1)) rfl (by cases hq0;cases hq1;cases hq2;cases hq3;cases hq4;cases hq5;exact L7 n1),?_⟩;clear hv hy hp0 hp1 hp2 hp3 hp4 hp5 hq0 hq1 hq2 hq3 hq4 hq5;cases hm;exact⟨trivial,sb 4⟩;obtain⟨⟨t2,q2⟩,p2,n2⟩:=d9 hm;refine .join (⟨[(3,.own 0 0),(5,DB x1),(8,.own 2 0)],[(0,.blk (a1c.c t2) 88),(2,.blk (e9.c q2) 91)],4⟩:Sy) True ?_ (fun _=>?_);replace hm:=p2;apply vb hm<;>intro _ hm;refine⟨([x.By]:List Int).flatMap cI,([x.By]:List Int).length,⟨rfl,rfl⟩,?_⟩;refine co hm (b5R e8.Box (([x.By]:List Int))) fun a3 hm=>?_
 cases hm;exact⟨trivial,sb 4⟩;obtain⟨k2,j2,h2⟩:=d9 hm;refine .join (⟨[(3,.own 0 0),(5,DB x1),(8,.own 2 0)],[(0,.blk (a1c.c k2) 88),(2,.blk (e9.c e8) 91)],3⟩:Sy) True ?_ (fun _=>?_);replace hm:=j2;apply vb hm<;>intro _ hm;obtain⟨g2,f2,e2⟩:=d9 hm;refine .join (⟨[(3,.own 0 0),(5,DB x1),(8,.own 2 0)],[(0,.blk (a1c.c g2) 88),(2,.blk (e9.c e8) 91)],3⟩:Sy) True ?_ (fun _=>?_);replace hm:=f2;apply vb hm<;>intro _ hm;refine cy hm (I8 x.By ((x4.length:Int))) fun y4 hm=>?_
 refine ei hm fun _ hm=>?_
 cases hm;exact⟨trivial,sb 3⟩;cases hm;exact⟨trivial,sb 3⟩;have hm:=e2;cases hm;exact⟨trivial,sb 3⟩;cases hm;exact⟨trivial,sb 3⟩;have hm:=h2;cases hm;exact⟨trivial,sb 4⟩;have hm:=n2;cases hm;exact⟨trivial,sb 4⟩;have hm:=c1;cases hm;exact⟨trivial,sb 4⟩;have hm:=h1;refine cy hm (b2J z1.To) ?_;rintro⟨c2,z4⟩ hm;refine cy hm (a8K z1.To) ?_;rintro⟨b2,u4⟩ hm;refine cy hm (c0g u1 z1.Record) ?_;rintro⟨a2,v4,w4⟩ hm;refine cy hm (b5a u1 z1.Record) ?_;rintro⟨y3,s4,t4⟩ hm;refine cy hm (b9y u1 z1.To) ?_;rintro⟨z3,u3,q4⟩ hm;refine cy hm (b0P u1 z1.To) ?_;rintro⟨v3,w3,p4⟩ hm;refine cy hm (b4o u1 z1.Message) ?_;rintro⟨s3,t3,n4⟩ hm;refine cy hm (a6L u1 z1.Message) ?_;rintro⟨q3,p3,k4⟩ hm;refine cy hm (b4j u1 z1.Picks) ?_;rintro⟨n3,j4⟩ hm;refine cy hm (b0k u1 z1.Picks) ?_;rintro⟨k3,h4⟩ hm;refine cy hm (a0D c2 b2) fun g4 hm=>?_
 refine cy hm (a0D a2 y3) fun f4 hm=>?_
 refine cy hm (a0D z3 v3) fun e4 hm=>?_
 refine cy hm (a0D s3 q3) fun c4 hm=>?_
 refine cy hm (a0D n3 k3) fun b4 hm=>?_
 refine cy hm (a6m u3 w3) fun a4 hm=>?_
 refine cy hm (b1c t3 p3) fun x5 hm=>?_
 obtain⟨j3,h3,g3⟩:=d9 hm;refine .join (⟨[(4,DB j3)],[],18⟩:Sy) True ?_ (fun _=>?_);replace hm:=h3;apply vb hm<;>intro _ hm;apply vb hm<;>intro _ hm;apply vb hm<;>intro _ hm;apply vb hm<;>intro _ hm;apply vb hm<;>intro _ hm;apply vb hm<;>intro _ hm;apply vb hm<;>intro _ hm;apply vb hm<;>intro _ hm;apply vb hm<;>intro _ hm;apply vb hm<;>intro _ hm;apply vb hm<;>intro _ hm;apply vb hm<;>intro _ hm;apply vb hm<;>intro _ hm;cases hm;exact⟨trivial,sb 18⟩;cases hm;exact⟨trivial,sb 18⟩;cases hm;exact⟨trivial,sb 18⟩;cases hm;exact⟨trivial,sb 18⟩;cases hm;exact⟨trivial,sb 18⟩;cases hm;exact⟨trivial,sb 18⟩;cases hm;exact⟨trivial,sb 18⟩;cases hm;exact⟨trivial,sb 18⟩;cases hm;exact⟨trivial,sb 18⟩;cases hm;exact⟨trivial,sb 18⟩;cases hm;exact⟨trivial,sb 18⟩;cases hm;exact⟨trivial,sb 18⟩;cases hm;exact⟨trivial,sb 18⟩;cases hm;exact⟨trivial,sb 18⟩;have hm:=g3;exact hm.rr
end Go.Proofs.YtggdlgclohnbaaaGreatDoor
