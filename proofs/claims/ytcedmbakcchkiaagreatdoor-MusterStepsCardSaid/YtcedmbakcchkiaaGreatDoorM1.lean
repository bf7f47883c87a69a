/- What may be read at the types of the statement's parameters; plain facts. -/
import Derived.Test.YtcedmbakcchkiaaGreatDoorL2
set_option linter.unusedVariables false
set_option linter.unusedSimpArgs false
namespace Go.Proofs.YtcedmbakcchkiaaGreatDoor
open Go Go.RowKit Go.Sx
def a8.G (x:a8):Prop:=InK .i64 x.Night∧InK .i64 x.Promised∧InK .i64 x.Ballot∧InK .i64 x.Value
theorem c3o:i0 Tryz.prog 110 a8.c a8.G:=
 (i0.struct Tryz.underlying110 (l9.cons (s:=1) (i0.int Tryz.underlying3) (l9.cons (s:=1) (i0.int Tryz.underlying3) (l9.cons (s:=1) (i0.int Tryz.underlying3) (l9.last (s:=1) (i0.int Tryz.underlying3) rfl (by kernel_rfl) rfl) rfl (by kernel_rfl)) rfl (by kernel_rfl)) rfl (by kernel_rfl)) (by kernel_rfl)).iso (fun x=>(⟨x.1,x.2.1,x.2.2.1,x.2.2.2⟩:a8)) (fun _=>rfl) (fun _ h=>h)
theorem c4S:i0 Tryz.prog 22 (fun l:(List a8)=> [.lst 4 l.length (l.flatMap a8.c)]) (fun l=>(l.length*32≤reachBytes∧l.length≤maxLen∧∀y:a8,y∈l→a8.G y)):=
 i0.slice Tryz.underlying22 c3o (by kernel_rfl) (by kernel_rfl) (fun _=>rfl) (fun _=>rfl) (by decide)
def b9.G (x:b9):Prop:=InK .i64 x.Night∧InK .i64 x.Ballot∧InK .i64 x.Value∧InK .i64 x.Best∧InK .i64 x.Mask∧True
theorem c2R:i0 Tryz.prog 108 b9.c b9.G:=
 (i0.struct Tryz.underlying108 (l9.cons (s:=1) (i0.int Tryz.underlying3) (l9.cons (s:=1) (i0.int Tryz.underlying3) (l9.cons (s:=1) (i0.int Tryz.underlying3) (l9.cons (s:=1) (i0.int Tryz.underlying3) (l9.cons (s:=1) (i0.int Tryz.underlying3) (l9.last (s:=1) (i0.bool Tryz.underlying4) rfl (by kernel_rfl) rfl) rfl (by kernel_rfl)) rfl (by kernel_rfl)) rfl (by kernel_rfl)) rfl (by kernel_rfl)) rfl (by kernel_rfl)) (by kernel_rfl)).iso (fun x=>(⟨x.1,x.2.1,x.2.2.1,x.2.2.2.1,x.2.2.2.2.1,x.2.2.2.2.2⟩:b9)) (fun _=>rfl) (fun _ h=>h)
theorem c4H:i0 Tryz.prog 23 (fun l:(List b9)=> [.lst 6 l.length (l.flatMap b9.c)]) (fun l=>(l.length*48≤reachBytes∧l.length≤maxLen∧∀y:b9,y∈l→b9.G y)):=
 i0.slice Tryz.underlying23 c2R (by kernel_rfl) (by kernel_rfl) (fun _=>rfl) (fun _=>rfl) (by decide)
def a7.G (x:a7):Prop:=InK .i64 x.Night∧InK .i64 x.Ballot∧InK .i64 x.Value∧InK .i64 x.Mask
theorem c2X:i0 Tryz.prog 149 a7.c a7.G:=
 (i0.struct Tryz.underlying149 (l9.cons (s:=1) (i0.int Tryz.underlying3) (l9.cons (s:=1) (i0.int Tryz.underlying3) (l9.cons (s:=1) (i0.int Tryz.underlying3) (l9.last (s:=1) (i0.int Tryz.underlying3) rfl (by kernel_rfl) rfl) rfl (by kernel_rfl)) rfl (by kernel_rfl)) rfl (by kernel_rfl)) (by kernel_rfl)).iso (fun x=>(⟨x.1,x.2.1,x.2.2.1,x.2.2.2⟩:a7)) (fun _=>rfl) (fun _ h=>h)
theorem c4q:i0 Tryz.prog 24 (fun l:(List a7)=> [.lst 4 l.length (l.flatMap a7.c)]) (fun l=>(l.length*32≤reachBytes∧l.length≤maxLen∧∀y:a7,y∈l→a7.G y)):=
 i0.slice Tryz.underlying24 c2X (by kernel_rfl) (by kernel_rfl) (fun _=>rfl) (fun _=>rfl) (by decide)
def b6.G (x:b6):Prop:=InK .i64 x.No∧InK .i64 x.Thing∧InK .i64 x.To∧InK .i64 x.From∧InK .i64 x.Until
theorem c2M:i0 Tryz.prog 112 b6.c b6.G:=
 (i0.struct Tryz.underlying112 (l9.cons (s:=1) (i0.int Tryz.underlying3) (l9.cons (s:=1) (i0.int Tryz.underlying3) (l9.cons (s:=1) (i0.int Tryz.underlying3) (l9.cons (s:=1) (i0.int Tryz.underlying3) (l9.last (s:=1) (i0.int Tryz.underlying3) rfl (by kernel_rfl) rfl) rfl (by kernel_rfl)) rfl (by kernel_rfl)) rfl (by kernel_rfl)) rfl (by kernel_rfl)) (by kernel_rfl)).iso (fun x=>(⟨x.1,x.2.1,x.2.2.1,x.2.2.2.1,x.2.2.2.2⟩:b6)) (fun _=>rfl) (fun _ h=>h)
theorem c3G:i0 Tryz.prog 25 (fun l:(List b6)=> [.lst 5 l.length (l.flatMap b6.c)]) (fun l=>(l.length*40≤reachBytes∧l.length≤maxLen∧∀y:b6,y∈l→b6.G y)):=
 i0.slice Tryz.underlying25 c2M (by kernel_rfl) (by kernel_rfl) (fun _=>rfl) (fun _=>rfl) (by decide)
def b4.G (x:b4):Prop:=InK .i64 x.Owner∧InK .i64 x.No∧InK .i64 x.Thing∧InK .i64 x.From∧InK .i64 x.Until∧True
theorem c3d:i0 Tryz.prog 114 b4.c b4.G:=
 (i0.struct Tryz.underlying114 (l9.cons (s:=1) (i0.int Tryz.underlying3) (l9.cons (s:=1) (i0.int Tryz.underlying3) (l9.cons (s:=1) (i0.int Tryz.underlying3) (l9.cons (s:=1) (i0.int Tryz.underlying3) (l9.cons (s:=1) (i0.int Tryz.underlying3) (l9.last (s:=1) (i0.bool Tryz.underlying4) rfl (by kernel_rfl) rfl) rfl (by kernel_rfl)) rfl (by kernel_rfl)) rfl (by kernel_rfl)) rfl (by kernel_rfl)) rfl (by kernel_rfl)) (by kernel_rfl)).iso (fun x=>(⟨x.1,x.2.1,x.2.2.1,x.2.2.2.1,x.2.2.2.2.1,x.2.2.2.2.2⟩:b4)) (fun _=>rfl) (fun _ h=>h)
theorem c4Z:i0 Tryz.prog 26 (fun l:(List b4)=> [.lst 6 l.length (l.flatMap b4.c)]) (fun l=>(l.length*48≤reachBytes∧l.length≤maxLen∧∀y:b4,y∈l→b4.G y)):=
 i0.slice Tryz.underlying26 c3d (by kernel_rfl) (by kernel_rfl) (fun _=>rfl) (fun _=>rfl) (by decide)
def b7.G (x:b7):Prop:=InK .i64 x.Round∧(x.Slots.length*32≤reachBytes∧x.Slots.length≤maxLen∧∀y:a8,y∈x.Slots→a8.G y)∧(x.Bids.length*48≤reachBytes∧x.Bids.length≤maxLen∧∀y:b9,y∈x.Bids→b9.G y)∧(x.Heard.length*32≤reachBytes∧x.Heard.length≤maxLen∧∀y:a7,y∈x.Heard→a7.G y)∧(x.Leases.length*40≤reachBytes∧x.Leases.length≤maxLen∧∀y:b6,y∈x.Leases→b6.G y)∧(x.Loans.length*48≤reachBytes∧x.Loans.length≤maxLen∧∀y:b4,y∈x.Loans→b4.G y)
theorem c2I:i0 Tryz.prog 28 b7.c b7.G:=
 (i0.struct Tryz.underlying28 (l9.cons (s:=1) (i0.int Tryz.underlying3) (l9.cons (s:=1) c4S (l9.cons (s:=1) c4H (l9.cons (s:=1) c4q (l9.cons (s:=1) c3G (l9.last (s:=1) c4Z rfl (by kernel_rfl) rfl) rfl (by kernel_rfl)) rfl (by kernel_rfl)) rfl (by kernel_rfl)) rfl (by kernel_rfl)) rfl (by kernel_rfl)) (by kernel_rfl)).iso (fun x=>(⟨x.1,x.2.1,x.2.2.1,x.2.2.2.1,x.2.2.2.2.1,x.2.2.2.2.2⟩:b7)) (fun _=>rfl) (fun _ h=>h)
def a6.G (x:a6):Prop:=InK .i64 x.Me∧b7.G x.Now∧b7.G x.Safe
theorem c5d:i0 Tryz.prog 30 a6.c a6.G:=
 (i0.struct Tryz.underlying30 (l9.cons (s:=1) (i0.int Tryz.underlying3) (l9.cons (s:=6) c2I (l9.last (s:=6) c2I rfl (by kernel_rfl) rfl) rfl (by kernel_rfl)) rfl (by kernel_rfl)) (by kernel_rfl)).iso (fun x=>(⟨x.1,x.2.1,x.2.2⟩:a6)) (fun _=>rfl) (fun _ h=>h)
def b8.G (x:b8):Prop:=InK .i64 x.Kind∧InK .i64 x.From∧InK .i64 x.To∧InK .i64 x.Night∧InK .i64 x.Ballot∧InK .i64 x.Best∧InK .i64 x.Value∧InK .i64 x.No∧InK .i64 x.Thing∧InK .i64 x.Start∧InK .i64 x.Until
theorem c3Z:i0 Tryz.prog 42 b8.c b8.G:=
 (i0.struct Tryz.underlying42 (l9.cons (s:=1) (i0.int Tryz.underlying3) (l9.cons (s:=1) (i0.int Tryz.underlying3) (l9.cons (s:=1) (i0.int Tryz.underlying3) (l9.cons (s:=1) (i0.int Tryz.underlying3) (l9.cons (s:=1) (i0.int Tryz.underlying3) (l9.cons (s:=1) (i0.int Tryz.underlying3) (l9.cons (s:=1) (i0.int Tryz.underlying3) (l9.cons (s:=1) (i0.int Tryz.underlying3) (l9.cons (s:=1) (i0.int Tryz.underlying3) (l9.cons (s:=1) (i0.int Tryz.underlying3) (l9.last (s:=1) (i0.int Tryz.underlying3) rfl (by kernel_rfl) rfl) rfl (by kernel_rfl)) rfl (by kernel_rfl)) rfl (by kernel_rfl)) rfl (by kernel_rfl)) rfl (by kernel_rfl)) rfl (by kernel_rfl)) rfl (by kernel_rfl)) rfl (by kernel_rfl)) rfl (by kernel_rfl)) rfl (by kernel_rfl)) (by kernel_rfl)).iso (fun x=>(⟨x.1,x.2.1,x.2.2.1,x.2.2.2.1,x.2.2.2.2.1,x.2.2.2.2.2.1,x.2.2.2.2.2.2.1,x.2.2.2.2.2.2.2.1,x.2.2.2.2.2.2.2.2.1,x.2.2.2.2.2.2.2.2.2.1,x.2.2.2.2.2.2.2.2.2.2⟩:b8)) (fun _=>rfl) (fun _ h=>h)
def a2X.G (x:a2X):Prop:=InK .i64 x.Thing∧InK .i64 x.To∧InK .i64 x.From∧InK .i64 x.Until
theorem c4R:i0 Tryz.prog 51 a2X.c a2X.G:=
 (i0.struct Tryz.underlying51 (l9.cons (s:=1) (i0.int Tryz.underlying3) (l9.cons (s:=1) (i0.int Tryz.underlying3) (l9.cons (s:=1) (i0.int Tryz.underlying3) (l9.last (s:=1) (i0.int Tryz.underlying3) rfl (by kernel_rfl) rfl) rfl (by kernel_rfl)) rfl (by kernel_rfl)) rfl (by kernel_rfl)) (by kernel_rfl)).iso (fun x=>(⟨x.1,x.2.1,x.2.2.1,x.2.2.2⟩:a2X)) (fun _=>rfl) (fun _ h=>h)
theorem c5f:i0 Tryz.prog 52 (fun(x:(Int×Int×Int))=> [DI x.1,DI x.2.1,DI x.2.2]) (fun x:(Int×Int×Int)=>(InK .i64 x.1∧InK .i64 x.2.1∧InK .i64 x.2.2)):=
 (i0.arr Tryz.underlying52 (a5E.cons (s:=1) (i0.int Tryz.underlying3) (a5E.cons (s:=1) (i0.int Tryz.underlying3) (a5E.last (s:=1) (i0.int Tryz.underlying3) rfl (by kernel_rfl) rfl) rfl (by kernel_rfl)) rfl (by kernel_rfl)) (by kernel_rfl)).iso (fun x=>x) (fun _=>rfl) (fun _ h=>h)
def a7V.G (x:a7V):Prop:=InK .i64 x.Night∧InK .i64 x.Value∧a2X.G x.Deal∧(InK .i64 x.Loan.1∧InK .i64 x.Loan.2.1∧InK .i64 x.Loan.2.2)
theorem c3A:i0 Tryz.prog 54 a7V.c a7V.G:=
 (i0.struct Tryz.underlying54 (l9.cons (s:=1) (i0.int Tryz.underlying3) (l9.cons (s:=1) (i0.int Tryz.underlying3) (l9.cons (s:=4) c4R (l9.last (s:=3) c5f rfl (by kernel_rfl) rfl) rfl (by kernel_rfl)) rfl (by kernel_rfl)) rfl (by kernel_rfl)) (by kernel_rfl)).iso (fun x=>(⟨x.1,x.2.1,x.2.2.1,x.2.2.2⟩:a7V)) (fun _=>rfl) (fun _ h=>h)
end Go.Proofs.YtcedmbakcchkiaaGreatDoor
namespace Go.Proofs.YtcedmbakcchkiaaGreatDoor
open Go Go.Sx
theorem a1T {z:Int} (h: -9223372036854775808≤z∧z≤9223372036854775807):W z=z:=b7R h
theorem W_s {k:Nat} (h:k<9223372036854775807):W ((k:Int)+1)=((k+1:Nat):Int):=c2P h
def b2E {R:Type} (q:Nat→Option R):Nat→Nat→Sum Nat R
 |k,0=> .inl k
 |k,m+1=>match q k with|none=>b2E q (k+1) m|some r=> .inr r
theorem a1v {R:Type} {body:Int→Option (Sum Int (Sum Int R))} (n:Nat) (hn:n≤9223372036854775807) (q:Nat→Option R) (k:Nat) (hk:k≤n)
 (h:∀i,k≤i→i<n→body (i:Int)=some (match q i with|none=> .inl ((i+1:Nat):Int)|some r=> .inr (.inr r)))
 (he:body (n:Int)=some (.inr (.inl (n:Int)))):
 l8 body (k:Int)=some (match b2E q k (n-k)with| .inl j=> .inl (j:Int)| .inr r=> .inr r):=by
 have key:∀(m k N:Nat),k+m=n→m<N→(∀i,k≤i→i<n→body (i:Int)=some (match q i with|none=> .inl ((i+1:Nat):Int)|some r=> .inr (.inr r)))→
  a2K body N (k:Int)=some (match b2E q k m with| .inl j=> .inl (j:Int)| .inr r=> .inr r):=by
  intro m
  induction m with
  |zero=>
   intro k N hkm hN _
   cases N with
   |zero=>omega
   |succ N=>
    have:k=n:=by omega
    subst this
    simp only [a2K,he,b2E]
  |succ m ih=>
   intro k N hkm hN hb
   cases N with
   |zero=>omega
   |succ N=>
    simp only [a2K,hb k (Nat.le_refl _) (by omega),b2E]
    cases hq:q k with
    |none=>exact ih (k+1) N (by omega) (by omega) (fun i h1 h2=>hb i (by omega) h2)
    |some r=>rfl
 exact key (n-k) k a7L (by omega) (by unfold a7L;omega) h
theorem a2l {R:Type} {q:Nat→Option R}:∀(m k:Nat),(∀i,k≤i→i<k+m→q i=none)→b2E q k m= .inl (k+m)
 |0,k,_=>rfl
 |m+1,k,h=>by
  simp only [b2E,h k (Nat.le_refl _) (by omega)]
  rw [a2l m (k+1) (fun i h1 h2=>h i (by omega) (by omega))]
  congr 1;omega
theorem a3k {R:Type} {q:Nat→Option R}:∀(m k i:Nat),k≤i→i<k+m→q i≠none→∃j r,k≤j∧j<k+m∧q j=some r∧b2E q k m= .inr r
 |0,k,i,h1,h2,_=>by omega
 |m+1,k,i,h1,h2,h3=>by
  cases hq:q k with
  |some r=>exact⟨k,r,Nat.le_refl _,by omega,hq,by simp only [b2E,hq]⟩
  |none=>
   have:k≠i:=fun e=>h3 (e▸hq)
   obtain⟨j,r,a,b,c,d⟩:=a3k m (k+1) i (by omega) (by omega) h3
   exact⟨j,r,by omega,by omega,c,by simp only [b2E,hq,d]⟩
theorem c0L {body:Int→Option (Sum Int (Sum Int Bool))} (n:Nat) (hn:n≤9223372036854775807) (q:Nat→Prop) [DecidablePred q] (k:Nat) (hk:k≤n)
 (h:∀i,k≤i→i<n→body (i:Int)=some (if q i then .inl ((i+1:Nat):Int)else .inr (.inr false)))
 (he:body (n:Int)=some (.inr (.inl (n:Int)))) (ans:Bool) (hb:ans=true↔∀i,k≤i→i<n→q i):
 (l8 body (k:Int)).bind (fun e=>match e with| .inl _=>some true| .inr r=>some r)=some ans:=by
 rw [a1v n hn (fun i=>if q i then none else some false) k hk (fun i h1 h2=>by rw [h i h1 h2];by_cases hq:q i<;>simp [hq]) he]
 by_cases hall:∀i,k≤i→i<n→q i
 · rw [a2l _ _ (fun i h1 h2=>by simp [hall i h1 (by omega)])]
   simp only [Option.bind_some,hb.2 hall]
 · have:∃i,k≤i∧i<n∧¬q i:=by
    refine Classical.byContradiction fun hn2=>hall fun i h1 h2=>Classical.byContradiction fun h3=>hn2 ⟨i,h1,h2,h3⟩
   obtain⟨i,h1,h2,h3⟩:=this
   obtain⟨j,r,a,b,c,d⟩:=a3k (q:=fun i=>if q i then none else some false) (n-k) k i h1 (by omega) (by simp [h3])
   have hr:r=false:=by
    by_cases hqj:q j
    · simp [hqj]at c
    · simpa [hqj]using c.symm
   rw [d,hr]
   have:ans=false:=by cases ans with|true=>exact absurd (hb.1 rfl) hall|false=>rfl
   simp only [Option.bind_some,this]
theorem b9y {body:Int→Option (Sum Int (Sum Int Bool))} (n:Nat) (hn:n≤9223372036854775807) (q:Nat→Prop) (k:Nat) (hk:k≤n)
 (h:∀i,k≤i→i<n→(q i∧body (i:Int)=some (.inl ((i+1:Nat):Int)))∨(¬q i∧body (i:Int)=some (.inr (.inr false))))
 (he:body (n:Int)=some (.inr (.inl (n:Int)))) (ans:Bool) (hb:ans=true↔∀i,k≤i→i<n→q i):
 (l8 body (k:Int)).bind (fun e=>match e with| .inl _=>some true| .inr r=>some r)=some ans:=by
 letI:DecidablePred q:=fun _=>Classical.propDecidable _
 exact c0L n hn q k hk (fun i h1 h2=>by rcases h i h1 h2 with⟨a,b⟩|⟨a,b⟩<;>simp only [b,a,if_true,if_false]) he ans hb
theorem b4P {α:Type} (l:List α) (hl:l.length≤9223372036854775807) (P:α→Option Bool) (p:α→Bool) (hP:∀x,x∈l→P x=some (p x)):
 (Option.bind (Option.bind (l8 (fun(v:Int)=>if(decide (v<(l.length:Int)))=true then Option.bind (idx l v) fun e=>Option.bind (P e) fun x=>if x=true then some (.inr (.inr v))else some (.inl (W (v+1)))else some (.inr (.inl v))) 0)
  fun(e:Sum Int Int)=>match e with| .inl _=>some (-1)| .inr r=>some r) fun x=>some (decide (x≥0)))=some (l.any p):=by
 have hs:=a1v (body:=fun(v:Int)=>if(decide (v<(l.length:Int)))=true then Option.bind (idx l v) fun e=>Option.bind (P e) fun x=>if x=true then some (.inr (.inr v))else some (.inl (W (v+1)))else some (.inr (.inl v)))
  l.length hl (fun i=>match l[i]? with|some x=>if p x then some (i:Int)else none|none=>none) 0 (Nat.zero_le _) (fun i _ h2=>by
   have hx:idx l (i:Int)=some l[i]:=by simp [idx,h2]
   have hlt:((i:Int)<(l.length:Int)):=by omega
   simp only [hlt,decide_true,if_true,hx,Option.bind_some,hP _ (List.getElem_mem h2),List.getElem?_eq_getElem h2]
   by_cases hp:p l[i]=true
   · simp [hp]
   · simp [hp];exact W_s (by omega)) (by simp)
 rw [show((0:Int))=((0:Nat):Int) from rfl,hs]
 by_cases hany:l.any p=true
 · rw [hany]
   obtain⟨x,hx,hpx⟩:=List.any_eq_true.1 hany
   obtain⟨i,hi,rfl⟩:=List.getElem_of_mem hx
   obtain⟨j,r,a,b,c,d⟩:=a3k (q:=fun i=>match l[i]? with|some x=>if p x then some (i:Int)else none|none=>none) (l.length-0) 0 i (Nat.zero_le _) (by omega) (by simp [List.getElem?_eq_getElem hi,hpx])
   rw [d]
   have hj:j<l.length:=by omega
   simp only [List.getElem?_eq_getElem hj]at c
   split at c
   · simp only [Option.some.injEq]at c
     subst c
     simp
   · cases c
 · rw [a2l _ _ (fun i _ h2=>by
    have hi:i<l.length:=by omega
    simp only [List.getElem?_eq_getElem hi]
    rw [if_neg]
    intro hp
    exact hany (List.any_eq_true.2 ⟨l[i],List.getElem_mem hi,hp⟩))]
   simp [Bool.not_eq_true _▸hany]
end Go.Proofs.YtcedmbakcchkiaaGreatDoor
namespace Go.Proofs.YtcedmbakcchkiaaGreatDoor
open Go Go.Sx
open Classical
def Ans (m:Option Bool) (P:Prop):Prop:=∃b,m=some b∧(b=true↔P)
theorem Ans.eq {m:Option Bool} {P:Prop} (h:Ans m P):m=some (decide P):=by
 obtain⟨b,rfl,hb⟩:=h
 congr 1
 by_cases hp:P
 · rw [hb.2 hp];simp [hp]
 · have:b=false:=by cases b with|false=>rfl|true=>exact absurd (hb.1 rfl) hp
   rw [this];simp [hp]
theorem Ans.of {P:Prop} [Decidable P]:Ans (some (decide P)) P:=⟨_,rfl,by simp⟩
theorem Ans.ofb {b:Bool} {P:Prop} (h:b=true↔P):Ans (some b) P:=⟨b,rfl,h⟩
theorem Ans.yes {P:Prop} (h:P):Ans (some true) P:=⟨_,rfl,by simp [h]⟩
theorem Ans.no {P:Prop} (h:¬P):Ans (some false) P:=⟨_,rfl,by simp [h]⟩
theorem Ans.iff {m:Option Bool} {P Q:Prop} (h:Ans m P) (e:P↔Q):Ans m Q:=by
 obtain⟨b,hm,hb⟩:=h
 exact⟨b,hm,hb.trans e⟩
theorem Ans.id {m:Option Bool} {P:Prop} (h:Ans m P):Ans (Option.bind m fun x=>some x) P:=by
 obtain⟨b,rfl,hb⟩:=h
 exact⟨b,rfl,hb⟩
theorem Ans.not {m:Option Bool} {P:Prop} (h:Ans m P):Ans (Option.bind m fun x=>some (!x)) (¬P):=by
 obtain⟨b,rfl,hb⟩:=h
 exact⟨!b,rfl,by rw [←hb];simp⟩
theorem Ans.and {m n:Option Bool} {P Q:Prop} (h:Ans m P) (k:P→Ans n Q):Ans (Option.bind m fun x=>if x=true then n else some false) (P∧Q):=by
 obtain⟨b,rfl,hb⟩:=h
 by_cases hp:P
 · obtain⟨c,rfl,hc⟩:=k hp
   exact⟨c,by simp [hb.2 hp],by simp [hp,hc]⟩
 · have:b=false:=by cases b with|false=>rfl|true=>exact absurd (hb.1 rfl) hp
   exact⟨false,by simp [this],by simp [hp]⟩
theorem Ans.nand {m n:Option Bool} {P Q:Prop} (h:Ans m P) (k:P→Ans n Q):Ans (Option.bind m fun x=>if(!x)=true then some false else n) (P∧Q):=by
 obtain⟨b,rfl,hb⟩:=h
 by_cases hp:P
 · obtain⟨c,rfl,hc⟩:=k hp
   exact⟨c,by simp [hb.2 hp],by simp [hp,hc]⟩
 · have:b=false:=by cases b with|false=>rfl|true=>exact absurd (hb.1 rfl) hp
   exact⟨false,by simp [this],by simp [hp]⟩
theorem Ans.ite {n:Option Bool} {b:Bool} {P Q:Prop} (h:b=true↔P) (k:P→Ans n Q):Ans (if b=true then n else some false) (P∧Q):=Ans.and (m:=some b) (Ans.ofb h) k
theorem Ans.ite' {n:Option Bool} {b:Bool} {P Q:Prop} (h:b=true↔¬P) (k:P→Ans n Q):Ans (if b=true then some false else n) (P∧Q):=by
 by_cases hp:P
 · obtain⟨c,rfl,hc⟩:=k hp
   have:b=false:=by cases b with|false=>rfl|true=>exact absurd hp (h.1 rfl)
   exact⟨c,by simp [this],by simp [hp,hc]⟩
 · exact⟨false,by simp [h.2 hp],by simp [hp]⟩
def jn (i:Int) (b:Bool):Option (Sum Int (Sum Int Bool)):=if b=true then some (.inl (W (i+1)))else some (.inr (.inr false))
theorem b9r (i:Int):(some (.inl (W (i+1))):Option (Sum Int (Sum Int Bool)))=jn i true:=rfl
theorem b8O (i:Int):(some (.inr (.inr false)):Option (Sum Int (Sum Int Bool)))=jn i false:=rfl
theorem b3u (i:Int) (a b c:Bool):(if a=true then jn i b else jn i c)=jn i ((a&&b)||(!a&&c)):=by cases a<;>simp
def Rnd (i:Int) (m:Option (Sum Int (Sum Int Bool))) (P:Prop):Prop:=∃b,m=jn i b∧(b=true↔P)
theorem Rnd.go {i:Int} {P:Prop} (h:P):Rnd i (some (.inl (W (i+1)))) P:=⟨true,rfl,by simp [h]⟩
theorem Rnd.end {i:Int} {P:Prop} (h:¬P):Rnd i (some (.inr (.inr false))) P:=⟨false,rfl,by simp [h]⟩
theorem Rnd.iff {i:Int} {m:Option (Sum Int (Sum Int Bool))} {P Q:Prop} (h:Rnd i m P) (e:P↔Q):Rnd i m Q:=by
 obtain⟨b,hm,hb⟩:=h
 exact⟨b,hm,hb.trans e⟩
theorem Rnd.nand {i:Int} {m:Option Bool} {n:Option (Sum Int (Sum Int Bool))} {P Q:Prop} (h:Ans m P) (k:P→Rnd i n Q):Rnd i (Option.bind m fun x=>if(!x)=true then some (.inr (.inr false))else n) (P∧Q):=by
 obtain⟨b,rfl,hb⟩:=h
 by_cases hp:P
 · obtain⟨c,rfl,hc⟩:=k hp
   exact⟨c,by simp [hb.2 hp],by simp [hp,hc]⟩
 · have:b=false:=by cases b with|false=>rfl|true=>exact absurd (hb.1 rfl) hp
   exact⟨false,by simp [this];rfl,by simp [hp]⟩
theorem Rnd.and {i:Int} {m:Option Bool} {n:Option (Sum Int (Sum Int Bool))} {P Q:Prop} (h:Ans m P) (k:¬P→Rnd i n Q):Rnd i (Option.bind m fun x=>if x=true then some (.inr (.inr false))else n) (¬P∧Q):=by
 obtain⟨b,rfl,hb⟩:=h
 by_cases hp:P
 · exact⟨false,by simp [hb.2 hp];rfl,by simp [hp]⟩
 · obtain⟨c,rfl,hc⟩:=k hp
   have:b=false:=by cases b with|false=>rfl|true=>exact absurd (hb.1 rfl) hp
   exact⟨c,by simp [this],by simp [hp,hc]⟩
theorem Rnd.ite {i:Int} {b:Bool} {n:Option (Sum Int (Sum Int Bool))} {P Q:Prop} (h:b=true↔¬P) (k:P→Rnd i n Q):Rnd i (if b=true then some (.inr (.inr false))else n) (P∧Q):=by
 by_cases hp:P
 · obtain⟨c,rfl,hc⟩:=k hp
   have:b=false:=by cases b with|false=>rfl|true=>exact absurd hp (h.1 rfl)
   exact⟨c,by simp [this],by simp [hp,hc]⟩
 · exact⟨false,by simp [h.2 hp];rfl,by simp [hp]⟩
theorem Rnd.get {i:Int} {α:Type} {l:List α} {j:Nat} (hj:j<l.length) {n:α→Option (Sum Int (Sum Int Bool))} {P:Prop} (h:Rnd i (n l[j]) P):Rnd i (Option.bind (idx l (j:Int)) n) P:=by
 have:Sx.idx l (j:Int)=some l[j]:=by simp [Sx.idx,hj]
 rw [this];exact h
theorem b5i {body:Int→Option (Sum Int (Sum Int Bool))} (n:Nat) (hn:n≤9223372036854775807) (q:Nat→Prop) (k:Nat) (hk:k≤n) (h:∀i:Nat,k≤i→i<n→Rnd (i:Int) (body (i:Int)) (q i))
 (he:body (n:Int)=some (.inr (.inl (n:Int)))):
 Ans ((l8 body (k:Int)).bind fun e=>match e with| .inl _=>some true| .inr r=>some r) (∀i,k≤i→i<n→q i):=by
 refine⟨decide (∀i,k≤i→i<n→q i), ?_,by simp⟩
 refine b9y n hn q k hk (fun i h1 h2=> ?_) he _ (by simp)
 obtain⟨b,hb,hq⟩:=h i h1 h2
 have hw:W ((i:Int)+1)=((i+1:Nat):Int):=W_s (by omega)
 cases b with
 |true=>exact .inl ⟨hq.1 rfl,by rw [hb];simp [jn,hw]⟩
 |false=>exact .inr ⟨fun h=>by simpa using hq.2 h,by rw [hb];rfl⟩
def Lp (m:Option (Sum Int Bool)) (P:Prop):Prop:=(P∧∃j,m=some (.inl j))∨(¬P∧m=some (.inr false))
theorem Lp.iff {m:Option (Sum Int Bool)} {P Q:Prop} (h:Lp m P) (e:P↔Q):Lp m Q:=by
 rcases h with⟨h,h'⟩|⟨h,h'⟩
 · exact .inl ⟨e.1 h,h'⟩
 · exact .inr ⟨fun q=>h (e.2 q),h'⟩
theorem Ans.loop {m:Option (Sum Int Bool)} {n:Option Bool} {P Q:Prop} (h:Lp m P) (k:P→Ans n Q):Ans (m.bind fun e=>match e with| .inl _=>n| .inr r=>some r) (P∧Q):=by
 rcases h with⟨h,j,rfl⟩|⟨h,rfl⟩
 · obtain⟨b,hb,hq⟩:=k h
   exact⟨b,hb,by simp [h,hq]⟩
 · exact⟨false,rfl,by simp [h]⟩
theorem Ans.lp {m:Option (Sum Int Bool)} {P:Prop} (h:Lp m P):Ans (m.bind fun e=>match e with| .inl _=>some true| .inr r=>some r) P:=(Ans.loop (Q:=True) h fun _=> .yes trivial).iff (by simp)
theorem a2v {body:Int→Option (Sum Int (Sum Int Bool))} (n:Nat) (hn:n≤9223372036854775807) (q:Nat→Prop) (h:∀i:Nat,i<n→Rnd (i:Int) (body (i:Int)) (q i))
 (he:body (n:Int)=some (.inr (.inl (n:Int)))):Lp (l8 body 0) (∀i,i<n→q i):=by
 by_cases hall:∀i,i<n→q i
 · have hs:=a1v (body:=body) n hn (fun _=>(none:Option Bool)) 0 (Nat.zero_le _) (fun i _ h2=>by
    obtain⟨b,hb,hq⟩:=h i h2
    rw [hb,hq.2 (hall i h2)];simp only [jn,if_true];rw [W_s (by omega)]) he
   rw [a2l _ _ (fun _ _ _=>rfl)]at hs
   exact .inl ⟨hall,_,hs⟩
 · refine .inr ⟨hall, ?_⟩
   have h2:=b5i n hn q 0 (Nat.zero_le _) (fun i _ h2=>h i h2) he
   have h3:=h2.eq
   rw [decide_eq_false (fun h=>hall fun i hi=>h i (Nat.zero_le _) hi)]at h3
   rw [show((0:Int))=((0:Nat):Int) from rfl]
   cases hl:l8 body ((0:Nat):Int)with
   |none=>rw [hl]at h3;cases h3
   |some e=>
    rw [hl]at h3
    cases e with
    |inl x=>simp at h3
    |inr r=>simp at h3;rw [h3]
theorem Rnd.loop {j:Int} {m:Option (Sum Int Bool)} {P:Prop} (h:Lp m P):Rnd j (m.bind fun e=>match e with| .inl _=>some (.inl (W (j+1)))| .inr r=>some (.inr (.inr r))) P:=by
 rcases h with⟨h,_,rfl⟩|⟨h,rfl⟩
 · exact .go h
 · exact .end h
theorem a0d {α:Type} (l:List α) (hl:l.length≤9223372036854775807) (P:α→Option Bool) (Q:α→Prop) (hP:∀x,x∈l→Ans (P x) (Q x)):
 Ans (Option.bind (Option.bind (l8 (fun(v:Int)=>if(decide (v<(l.length:Int)))=true then Option.bind (idx l v) fun e=>Option.bind (P e) fun x=>if x=true then some (.inr (.inr v))else some (.inl (W (v+1)))else some (.inr (.inl v))) 0)
  fun(e:Sum Int Int)=>match e with| .inl _=>some (-1)| .inr r=>some r) fun x=>some (decide (x≥0))) (∃x,x∈l∧Q x):=
 ⟨_,b4P l hl P (fun x=>decide (Q x)) (fun x hx=>(hP x hx).eq),by simp⟩
theorem b1X {α:Type} {l:List α} {most:Int} {C:Option Bool} {ok:α→Prop} (hC:l.length≤9223372036854775807→Ans C (∃x,x∈l∧¬ok x)) (hm:most≤9223372036854775807):
 Ans (if(decide ((l.length:Int)≤most))=true then Option.bind C fun x=>some (!x)else some false) ((l.length:Int)≤most∧∀x,x∈l→ok x):=
 Ans.ite (by simp) fun h=>(hC (by omega)).not.iff (by simp)
def M4 {α:Type} (f:α→α→Prop) (l:List α):Prop:=∀i a b,l[i]?=some a→l[i+1]?=some b→f a b
theorem b0V {α:Type} (l:List α) (hl:l.length≤9223372036854775807) (cmp:α→α→Option Int) (c:α→α→Int) (f:α→α→Prop) (hc:∀a b,cmp a b=some (c a b)) (hf:∀a b,c a b<0↔f a b):
 Ans (Option.bind (l8 (fun(i:Int)=>if(decide (i<(l.length:Int)))=true then Option.bind (idx l (W (i-1))) fun a=>Option.bind (idx l i) fun b=>Option.bind (cmp a b) fun x=>
  if(decide (x≥0))=true then some (.inr (.inr false))else some (.inl (W (i+1)))else some (.inr (.inl i))) 1) fun(e:Sum Int Bool)=>match e with| .inl _=>some true| .inr r=>some r) (M4 f l):=by
 by_cases h0:l.length=0
 · refine⟨true, ?_,by simp;intro i a b h1 _;rw [List.getElem?_eq_none (by omega)]at h1;cases h1⟩
   have:=a1v (R:=Bool) (body:=fun(i:Int)=>if(decide (i<(l.length:Int)))=true then Option.bind (idx l (W (i-1))) fun a=>Option.bind (idx l i) fun b=>Option.bind (cmp a b) fun x=>
    if(decide (x≥0))=true then some (.inr (.inr false))else some (.inl (W (i+1)))else some (.inr (.inl i))) 1 (by omega) (fun _=>none) 1 (Nat.le_refl _) (fun i h1 h2=>by omega) (by simp [h0])
   exact(congrArg (fun o=>Option.bind o _) this).trans rfl
 · refine(b5i (body:=fun(i:Int)=>if(decide (i<(l.length:Int)))=true then Option.bind (idx l (W (i-1))) fun a=>Option.bind (idx l i) fun b=>Option.bind (cmp a b) fun x=>
    if(decide (x≥0))=true then some (.inr (.inr false))else some (.inl (W (i+1)))else some (.inr (.inl i))) l.length hl (fun i=>∀a b,l[i-1]?=some a→l[i]?=some b→f a b) 1 (by omega) (fun i h1 h2=> ?_) (by simp)).iff ?_
   · have e1:W ((i:Int)-1)=((i-1:Nat):Int):=by rw [a1T (by omega)];omega
     have e2:idx l ((i-1:Nat):Int)=some (l[i-1]'(by omega)):=by simp [idx,show i-1<l.length by omega]
     have e3:idx l ((i:Nat):Int)=some (l[i]'h2):=by simp [idx,h2]
     have hlt:((i:Int)<(l.length:Int)):=by omega
     simp only [hlt,decide_true,if_true,e1,e2,e3,Option.bind_some,hc]
     rw [List.getElem?_eq_getElem (show i-1<l.length by omega),List.getElem?_eq_getElem h2]
     refine(Rnd.ite (P:=c (l[i-1]'(by omega)) (l[i]'h2)<0) (Q:=True) (by simp) fun _=> .go trivial).iff ?_
     rw [and_true,hf]
     exact⟨fun h a b ha hb=>by cases ha;cases hb;exact h,fun h=>h _ _ rfl rfl⟩
   · constructor
     · intro h i a b ha hb'
       have:i+1<l.length:=by
        rcases Nat.lt_or_ge (i+1) l.length with h|h
        · exact h
        · rw [List.getElem?_eq_none h]at hb';cases hb'
       exact h (i+1) (by omega) this a b (by simpa using ha) hb'
     · intro h i h1 h2 a b ha hb'
       exact h (i-1) a b ha (by rw [Nat.sub_add_cancel h1];exact hb')
theorem b0D {α:Type} (l:List α) (ok:α→Prop) (f:α→α→Prop):(∀i,0≤i→i<l.length→(∀x,l[i]?=some x→ok x)∧(0<i→∀a,l[i-1]?=some a→∀b,l[i]?=some b→f a b))↔(∀x,x∈l→ok x)∧M4 f l:=by
 constructor
 · intro h
   refine⟨fun x hx=> ?_,fun i a b ha hb=> ?_⟩
   · obtain⟨i,hi,rfl⟩:=List.getElem_of_mem hx
     exact(h i (Nat.zero_le _) hi).1 _ (List.getElem?_eq_getElem hi)
   · have:i+1<l.length:=by
      rcases Nat.lt_or_ge (i+1) l.length with h|h
      · exact h
      · rw [List.getElem?_eq_none h]at hb;cases hb
     exact(h (i+1) (Nat.zero_le _) this).2 (by omega) a (by simpa using ha) b hb
 · intro⟨h1,h2⟩ i _ hi
   refine⟨fun x hx=>h1 x (List.mem_of_getElem? hx),fun h0 a ha b hb=>h2 (i-1) a b ha (by rw [Nat.sub_add_cancel h0];exact hb)⟩
theorem Q2 (n lo hi:Int):Ans (i6 n lo hi) (lo≤n∧n≤hi):=Ans.ite (by simp) fun _=>Ans.ofb (by simp)
theorem a7R (n lo hi:Int):Ans (A6 n lo hi) (lo≤n∧n≤hi):=Ans.ite (by simp) fun _=>Ans.ofb (by simp)
end Go.Proofs.YtcedmbakcchkiaaGreatDoor
namespace Go.Proofs.YtcedmbakcchkiaaGreatDoor
open Go Go.Sx
open Classical
theorem a2f (n:Int):Ans (u2 n) (0≤n∧n≤5):=(Q2 _ _ _).id
theorem a4Q (n:Int):Ans (u0 n) (0≤n∧n≤100000):=(Q2 _ _ _).id
theorem a4H (n:Int):Ans (j1 n) (1≤n∧n≤1000000):=(Q2 _ _ _).id
theorem a7M (n:Int):Ans (w9 n) (6≤n∧n≤59999):=(Q2 _ _ _).id
theorem a6Z (n:Int):Ans (w6 n) (1≤n∧n≤99):=(Q2 _ _ _).id
theorem a2k (n:Int):Ans (d8 n) (0≤n∧n≤144001439):=(Q2 _ _ _).id
theorem b7U (n:Int):Ans (S5 n) (0≤n∧n≤63):=(Q2 _ _ _).id
theorem a0T (n:Int):Ans (L1 n) (0≤n∧n≤5):=(a7R _ _ _).id
theorem a2o (n:Int):Ans (S2 n) (0≤n∧n≤100000):=(a7R _ _ _).id
theorem a3Y (n:Int):Ans (s7 n) (1≤n∧n≤1000000):=(a7R _ _ _).id
theorem a6z (n:Int):Ans (U3 n) (6≤n∧n≤59999):=(a7R _ _ _).id
theorem a5s (n:Int):Ans (Y6 n) (1≤n∧n≤99):=(a7R _ _ _).id
theorem Q4 (n:Int):Ans (D8 n) (0≤n∧n≤144001439):=(a7R _ _ _).id
theorem b3H (n:Int):Ans (a0n n) (0≤n∧n≤63):=(a7R _ _ _).id
def qr (n:Int):Bool:=(J9 n).getD false
set_option maxRecDepth 10000 in
theorem c1s:∀n:Fin 64,M0 (n.val:Int)=some (qr (n.val:Int))∧J9 (n.val:Int)=some (qr (n.val:Int)):=by decide+kernel
theorem b3r {n:Int} (h:0≤n∧n≤63):M0 n=some (qr n)∧J9 n=some (qr n):=by
 have:=c1s ⟨n.toNat,by omega⟩
 simpa [Int.toNat_of_nonneg h.1]using this
theorem a6I {n:Int} (h:0≤n):n.tmod 6=n % 6:=Int.tmod_eq_emod_of_nonneg h
def a3R (s:a8):Prop:=(0≤s.Night∧s.Night≤100000)∧(6≤s.Promised∧s.Promised≤59999)∧((s.Ballot=0∧s.Value=0)∨((6≤s.Ballot∧s.Ballot≤s.Promised)∧(1≤s.Value∧s.Value≤1000000)))
def a7s (me r:Int) (b:b9):Prop:=(0≤b.Night∧b.Night≤100000)∧(6≤b.Ballot∧b.Ballot≤6*r+me)∧b.Ballot % 6=me∧(1≤b.Value∧b.Value≤1000000)∧(0≤b.Best∧b.Best≤b.Ballot-1)∧(0≤b.Mask∧b.Mask≤63)∧b.Asked=qr b.Mask
def a3c (h:a7):Prop:=(6≤h.Ballot∧h.Ballot≤59999)∧(0≤h.Night∧h.Night≤100000)∧(1≤h.Value∧h.Value≤1000000)∧h.Mask≠0∧(0≤h.Mask∧h.Mask≤63)
def a5h (me:Int) (l:b6):Prop:=(1≤l.Thing∧l.Thing≤99)∧l.Thing % 6=me∧(0≤l.To∧l.To≤5)∧l.To≠me∧(0≤l.From∧l.From≤144001439)∧(0≤l.Until∧l.Until≤144001439)∧l.From≤l.Until
def a5I (me:Int) (l:b4):Prop:=(0≤l.Owner∧l.Owner≤5)∧l.Owner≠me∧(1≤l.No∧l.No≤40)∧(1≤l.Thing∧l.Thing≤99)∧l.Thing % 6=l.Owner∧(0≤l.From∧l.From≤144001439)∧(0≤l.Until∧l.Until≤144001439)∧l.From≤l.Until
def a1m (a b:b6):Prop:=max a.From b.From<min a.Until b.Until
def a4x (a b:a8):Prop:=a.Night<b.Night
def a7p (a b:b9):Prop:=a.Night<b.Night
def a0Q (a b:a7):Prop:=a.Ballot<b.Ballot∨(a.Ballot=b.Ballot∧a.Night<b.Night)
def a1e (a b:b4):Prop:=a.Owner<b.Owner∨(a.Owner=b.Owner∧a.No<b.No)
def a8l {α:Type} (f:α→α→Prop) (l:List α):Prop:=∀(i:Nat) x,l[i]?=some x→∀y,y∈l.take i→¬f y x
structure I5 (me:Int) (s:b7):Prop where
 dep:0≤me∧me≤5
 round:0≤s.Round∧s.Round≤9999
 nslots:(s.Slots.length:Int)≤12
 slots:∀x,x∈s.Slots→a3R x
 nbids:(s.Bids.length:Int)≤12
 bids:∀x,x∈s.Bids→a7s me s.Round x
 nheard:(s.Heard.length:Int)≤60
 heard:∀x,x∈s.Heard→a3c x
 nleases:(s.Leases.length:Int)≤40
 leases:∀x,x∈s.Leases→a5h me x
 nloans:(s.Loans.length:Int)≤60
 loans:∀x,x∈s.Loans→a5I me x
 rslots:M4 a4x s.Slots
 rbids:M4 a7p s.Bids
 rheard:M4 a0Q s.Heard
 rloans:M4 a1e s.Loans
 ballots:a8l (fun a b=>a.Ballot=b.Ballot) s.Bids
 nos:∀(i:Nat) x,s.Leases[i]?=some x→x.No=(i:Int)+1
 meets:a8l (fun a b=>a.Thing=b.Thing∧a1m a b) s.Leases
theorem c1f (s:a8):Ans (a0J s) (a3R s):=by
 have e1:=(a4Q s.Night).eq
 have e2:=(a7M s.Promised).eq
 have e3:=(a4H s.Value).eq
 have e4:=(Q2 s.Ballot 6 s.Promised).eq
 unfold a0J
 simp only [e1,e2,e3,e4,Option.bind_some]
 refine⟨decide (a3R s), ?_,by simp⟩
 unfold a3R
 by_cases h1:s.Ballot=0<;>by_cases h2:s.Value=0<;>by_cases h3:(0≤s.Night∧s.Night≤100000)<;>by_cases h4:(6≤s.Promised∧s.Promised≤59999)<;>by_cases h5:(6≤s.Ballot∧s.Ballot≤s.Promised)<;>simp [h1,h2,h3,h4,h5]<;>omega
theorem b2b (f u:Int):Ans (P9 f u) ((0≤f∧f≤144001439)∧(0≤u∧u≤144001439)∧f≤u):=
 Ans.and (a2k f) fun _=>Ans.and (a2k u) fun _=> .of
theorem c5p {me:Int} {s:b7} (hm:0≤me∧me≤5) (hr:0≤s.Round∧s.Round≤9999) (b:b9):Ans (V5 b s me) (a7s me s.Round b):=by
 have w:W (W (6*s.Round)+me)=6*s.Round+me:=by rw [a1T (z:=6*s.Round) (by omega),a1T (by omega)]
 unfold V5
 rw [w]
 refine Ans.and (a4Q _) fun h1=>Ans.and (Q2 _ _ _) fun h2=> ?_
 rw [a1T (z:=b.Ballot-1) (by omega)]
 show Ans (if(b.Ballot.tmod 6==me)=true then _ else some false) _
 refine Ans.ite (by rw [a6I (by omega)];simp) fun h3=>Ans.and (a4H _) fun h4=>Ans.and (Q2 _ _ _) fun h5=>Ans.and (b7U _) fun h6=> ?_
 rw [(b3r h6).1]
 exact Ans.ofb (by simp)
theorem c2p (h:a7):Ans (a1g h) (a3c h):=
 Ans.and (a7M _) fun _=>Ans.and (a4Q _) fun _=>Ans.and (a4H _) fun _=>Ans.ite (by simp) fun _=>(b7U _).id
theorem c1y (me:Int) (l:b6):Ans (W8 l me) (a5h me l):=by
 unfold W8
 refine Ans.and (a6Z _) fun h1=> ?_
 show Ans (if(l.Thing.tmod 6==me)=true then _ else some false) _
 exact Ans.ite (by rw [a6I (by omega)];simp) fun h3=>Ans.and (a2f _) fun _=>Ans.ite (by simp) fun _=>(b2b _ _).id
theorem c2S (me:Int) (l:b4):Ans (V8 l me) (a5I me l):=by
 unfold V8
 refine Ans.and (a2f _) fun _=>Ans.ite (by simp) fun _=>Ans.and (Q2 _ _ _) fun _=>Ans.and (a6Z _) fun h1=> ?_
 show Ans (if(l.Thing.tmod 6==l.Owner)=true then _ else some false) _
 exact Ans.ite (by rw [a6I (by omega)];simp) fun h3=>(b2b _ _).id
theorem c2h (l:List a8):Ans (H3 l 12) ((l.length:Int)≤12∧∀x,x∈l→a3R x):=
 b1X (fun hl=>a0d l hl F5 _ fun x _=>(c1f x).not) (by omega)
theorem c2U {me:Int} {s:b7} (hm:0≤me∧me≤5) (hr:0≤s.Round∧s.Round≤9999) (l:List b9):Ans (F4 l 12 s me) ((l.length:Int)≤12∧∀x,x∈l→a7s me s.Round x):=
 b1X (fun hl=>a0d l hl (fun x=>D6 x s me) _ fun x _=>(c5p hm hr x).not) (by omega)
theorem c0r (l:List a7):Ans (D4 l 60) ((l.length:Int)≤60∧∀x,x∈l→a3c x):=
 b1X (fun hl=>a0d l hl B5 _ fun x _=>(c2p x).not) (by omega)
theorem c1j (me:Int) (l:List b6):Ans (D7 l 40 me) ((l.length:Int)≤40∧∀x,x∈l→a5h me x):=
 b1X (fun hl=>a0d l hl (fun x=>B4 x me) _ fun x _=>(c1y me x).not) (by omega)
theorem c1X (me:Int) (l:List b4):Ans (E4 l 60 me) ((l.length:Int)≤60∧∀x,x∈l→a5I me x):=
 b1X (fun hl=>a0d l hl (fun x=>C8 x me) _ fun x _=>(c2S me x).not) (by omega)
def a7S (x y:Int):Int:=if x<y then-1 else if x>y then 1 else 0
theorem b4s (x y:Int):E6 x y=some (a7S x y):=by
 unfold a7S
 simp only [E6,a0R,Option.bind_some,bne_self_eq_false,if_false]
 by_cases h1:x<y<;>by_cases h2:x>y<;>simp [h1,h2]
theorem Z5 {x y:Int}:a7S x y<0↔x<y:=by
 unfold a7S;split
 · simp;assumption
 · split<;>simp<;>omega
theorem a2w {x y:Int}:a7S x y=0↔x=y:=by
 unfold a7S;split
 · simp;omega
 · split<;>simp<;>omega
def b2R (a b c d:Int):Int:=if a7S a b=0 then a7S c d else a7S a b
theorem a6X {a b c d:Int}:b2R a b c d<0↔a<b∨(a=b∧c<d):=by
 unfold b2R
 split
 · rename_i h;rw [a2w]at h;rw [Z5];omega
 · rename_i h;rw [a2w]at h;rw [Z5];omega
theorem b7J {a b c d:Int}:b2R a b c d=0↔a=b∧c=d:=by
 unfold b2R
 split
 · rename_i h;rw [a2w]at h;rw [a2w];omega
 · rename_i h;have h':=h;rw [a2w]at h;rw [a2w];omega
theorem c2K (a b:Int):a1O [a,b]=some (if a=0 then b else a):=by
 have hs:=a1v (R:=Int) (body:=X9 [a,b]) 2 (by omega) (fun i=>if i=0 then(if a=0 then none else some a)else(if b=0 then none else some b)) 0 (Nat.zero_le _) (fun i _ h2=>by
  have:i=0∨i=1:=by omega
  unfold X9
  rcases this with rfl|rfl
  · by_cases h:a=0<;>simp [idx,h];exact W_s (by omega)
  · by_cases h:b=0<;>simp [idx,h];exact W_s (by omega)) (by simp [X9])
 unfold a1O
 rw [show((0:Int))=((0:Nat):Int) from rfl,hs]
 by_cases h:a=0<;>by_cases h':b=0<;>simp [b2E,h,h']
theorem a5J (a b:a8):E2 a b=some (a7S a.Night b.Night):=by simp only [E2,b4s,Option.bind_some]
theorem a6H (a b:b9):G4 a b=some (a7S a.Night b.Night):=by simp only [G4,b4s,Option.bind_some]
theorem a5O (a b:a7):E5 a b=some (b2R a.Ballot b.Ballot a.Night b.Night):=by simp only [E5,b4s,Option.bind_some,c2K,b2R]
theorem a5V (a b:b4):E3 a b=some (b2R a.Owner b.Owner a.No b.No):=by simp only [E3,b4s,Option.bind_some,c2K,b2R]
theorem c1l (l:List a8) (hl:l.length≤9223372036854775807):Ans (B2 l) (M4 a4x l):=b0V l hl _ _ _ a5J fun _ _=>Z5
theorem c2t (l:List b9) (hl:l.length≤9223372036854775807):Ans (C6 l) (M4 a7p l):=b0V l hl _ _ _ a6H fun _ _=>Z5
theorem c0E (l:List a7) (hl:l.length≤9223372036854775807):Ans (z8 l) (M4 a0Q l):=b0V l hl _ _ _ a5O fun _ _=>a6X
theorem b9N (l:List b4) (hl:l.length≤9223372036854775807):Ans (B1 l) (M4 a1e l):=b0V l hl _ _ _ a5V fun _ _=>a6X
theorem a9L (a b:Int):(if b>a then b else a)=max a b:=by split<;>omega
theorem a9n (a b:Int):(if b<a then b else a)=min a b:=by split<;>omega
theorem c0u (a b:b6):Ans (a0F a b) (a1m a b):=by
 unfold a0F a1m
 rw [a9L,a9n];exact .of
theorem c4u {α:Type} (l:List α) (k:Nat):sub l 0 k=l.take k:=by simp [sub]
theorem b8T (s:b7) (hl:s.Bids.length≤9223372036854775807):Lp (l8 (M8 s) 0) (a8l (fun a b=>a.Ballot=b.Ballot) s.Bids):=by
 refine(a2v s.Bids.length hl (fun i=>∀x,s.Bids[i]?=some x→∀y,y∈s.Bids.take i→¬y.Ballot=x.Ballot) (fun i h2=> ?_) (by simp [M8])).iff ?_
 · have hlt:((i:Int)<(s.Bids.length:Int)):=by omega
   have hg:0≤(i:Int)∧(i:Int)≤(s.Bids.length:Int):=by omega
   unfold M8
   simp only [hlt,decide_true,if_true]
   refine Rnd.get h2 ?_
   simp only [gd,hg,and_self,if_true,Option.bind_some,c4u,Int.toNat_natCast]
   refine(Rnd.and (a0d _ (by simp;omega) (fun x=>a1c x s.Bids[i]) (fun y=>y.Ballot=s.Bids[i].Ballot) fun x _=>Ans.ofb (by simp)) fun _=> .go trivial).iff ?_
   rw [List.getElem?_eq_getElem h2]
   simp
 · exact⟨fun h i x hx=>h i ((List.getElem?_eq_some_iff.1 hx).1) x hx,fun h i _=>h i⟩
theorem c2z (s:b7) (hl:s.Leases.length≤9223372036854775806):Lp (l8 (M9 s) 0) ((∀(i:Nat) x,s.Leases[i]?=some x→x.No=(i:Int)+1)∧a8l (fun a b=>a.Thing=b.Thing∧a1m a b) s.Leases):=by
 refine(a2v s.Leases.length (by omega) (fun i=>∀x,s.Leases[i]?=some x→x.No=(i:Int)+1∧∀y,y∈s.Leases.take i→¬(y.Thing=x.Thing∧a1m y x)) (fun i h2=> ?_) (by simp [M9])).iff ?_
 · have hlt:((i:Int)<(s.Leases.length:Int)):=by omega
   have hg:0≤(i:Int)∧(i:Int)≤(s.Leases.length:Int):=by omega
   unfold M9
   simp only [hlt,decide_true,if_true]
   refine Rnd.get h2 ?_
   refine(Rnd.ite (P:=s.Leases[i].No=(i:Int)+1) (Q:=∀y,y∈s.Leases.take i→¬(y.Thing=s.Leases[i].Thing∧a1m y s.Leases[i])) (by rw [a1T (by omega)];simp) fun _=> ?_).iff (Q:=∀x,s.Leases[i]?=some x→x.No=(i:Int)+1∧∀y,y∈s.Leases.take i→¬(y.Thing=x.Thing∧a1m y x)) ?_
   · simp only [gd,hg,and_self,if_true,Option.bind_some,c4u,Int.toNat_natCast]
     refine(Rnd.and (a0d _ (by simp;omega) (fun x=>a0X x s.Leases[i]) (fun y=>y.Thing=s.Leases[i].Thing∧a1m y s.Leases[i]) fun x _=>Ans.ite (by simp) fun _=>(c0u _ _).id) fun _=> .go trivial).iff ?_
     simp
   · rw [List.getElem?_eq_getElem h2]
     simp
 · constructor
   · intro h
     exact⟨fun i x hx=>(h i ((List.getElem?_eq_some_iff.1 hx).1) x hx).1,fun i x hx=>(h i ((List.getElem?_eq_some_iff.1 hx).1) x hx).2⟩
   · exact fun h i _ x hx=>⟨h.1 i x hx,h.2 i x hx⟩
theorem b0Z {me:Int} {s:b7}:I5 me s↔(0≤me∧me≤5)∧(0≤s.Round∧s.Round≤9999)∧((s.Slots.length:Int)≤12∧∀x,x∈s.Slots→a3R x)∧((s.Bids.length:Int)≤12∧∀x,x∈s.Bids→a7s me s.Round x)∧((s.Heard.length:Int)≤60∧∀x,x∈s.Heard→a3c x)∧((s.Leases.length:Int)≤40∧∀x,x∈s.Leases→a5h me x)∧((s.Loans.length:Int)≤60∧∀x,x∈s.Loans→a5I me x)∧M4 a4x s.Slots∧M4 a7p s.Bids∧M4 a0Q s.Heard∧M4 a1e s.Loans∧a8l (fun a b=>a.Ballot=b.Ballot) s.Bids∧((∀(i:Nat) x,s.Leases[i]?=some x→x.No=(i:Int)+1)∧a8l (fun a b=>a.Thing=b.Thing∧a1m a b) s.Leases):=by
 constructor
 · rintro⟨a,b,c1,c2,d1,d2,e1,e2,f1,f2,g1,g2,h1,h2,h3,h4,h5,h6,h7⟩
   exact⟨a,b,⟨c1,c2⟩,⟨d1,d2⟩,⟨e1,e2⟩,⟨f1,f2⟩,⟨g1,g2⟩,h1,h2,h3,h4,h5,h6,h7⟩
 · rintro⟨a,b,⟨c1,c2⟩,⟨d1,d2⟩,⟨e1,e2⟩,⟨f1,f2⟩,⟨g1,g2⟩,h1,h2,h3,h4,h5,h6,h7⟩
   exact⟨a,b,c1,c2,d1,d2,e1,e2,f1,f2,g1,g2,h1,h2,h3,h4,h5,h6,h7⟩
theorem b3G (me:Int) (s:b7):Ans (O1 me s) (I5 me s):=by
 refine Ans.iff ?_ b0Z.symm
 unfold O1
 exact Ans.nand (a2f _) fun hm=>Ans.nand (Q2 _ _ _) fun hr=>Ans.nand (c2h _) fun h1=>Ans.nand (c2U hm hr _) fun h2=>Ans.nand (c0r _) fun h3=>Ans.nand (c1j _ _) fun h4=>Ans.nand (c1X _ _) fun h5=>
  Ans.nand (c1l _ (by omega)) fun _=>Ans.nand (c2t _ (by omega)) fun _=>Ans.nand (c0E _ (by omega)) fun _=>Ans.nand (b9N _ (by omega)) fun _=>Ans.loop (b8T s (by omega)) fun _=>Ans.lp (c2z s (by omega))
end Go.Proofs.YtcedmbakcchkiaaGreatDoor
namespace Go.Proofs.YtcedmbakcchkiaaGreatDoor
open Go Go.Sx
open Classical
theorem b5P (n:Int):a2e n 6=some (n % 6):=by
 unfold a2e
 simp only [gd,ne_eq,show¬(6:Int)=0 by omega,not_false_eq_true,if_true,Option.some.injEq]
 have h3:=Int.tmod_eq_emod (a:=n) (b:=6)
 have h1: -6<n.tmod 6∧n.tmod 6<6∧(n.tmod 6=n % 6∨n.tmod 6=n % 6-6):=by
  rw [h3];split<;>simp<;>omega
 rw [a1T (by omega),a6I (by omega)]
 omega
theorem b7e (m:Int):∃b,J9 m=some b:=by
 obtain⟨e,he,n,d,rfl⟩:=b3j (body:=a0K m) (fun st=>∃(n:Nat) (d:Nat),st=((n:Int),(d:Int))∧n≤d∧d≤6) (fun st=>(6-st.2).toNat) (fun st=>∃n d:Int,st=(n,d)) (by
  rintro st ⟨n,d,rfl,h1,h2⟩
  unfold a0K M6
  by_cases h:(d:Int)<6
  · right
    have hd:(0:Int)≤d:=by omega
    simp only [h,decide_true,if_true,gd,hd,Option.bind_some]
    split
    · exact⟨_,rfl,⟨n+1,d+1,by rw [W_s (by omega),W_s (by omega)],by omega,by omega⟩,by simp only;rw [W_s (by omega)];omega⟩
    · exact⟨_,rfl,⟨n,d+1,by rw [W_s (by omega)],by omega,by omega⟩,by simp only;rw [W_s (by omega)];omega⟩
  · left
    exact⟨((n:Int),(d:Int)),by simp only [h,decide_false,Bool.false_eq_true,if_false],_,_,rfl⟩) (0,0) ⟨0,0,rfl,by omega,by omega⟩ (by simp [a7L])
 unfold J9
 rw [he]
 exact⟨_,rfl⟩
theorem b1s (m:Int):J9 m=some (qr m):=by
 obtain⟨b,hb⟩:=b7e m
 rw [hb,qr,hb];rfl
theorem b0I {i:Nat} (h:0<i) (h2:i<9223372036854775807):W ((i:Int)-1)=((i-1:Nat):Int):=by rw [a1T (by omega)];omega
theorem u6 {α:Type} {l:List α} {i:Nat} {x:α} (h:l[i]?=some x):idx l (i:Int)=some x:=by simp [idx,h]
theorem a0i {α:Type} {l:List α} {i:Nat} (h:i<l.length):∃x,l[i]?=some x:=⟨_,List.getElem?_eq_getElem h⟩
theorem b4W {α:Type} {l:List α} {i:Nat} {m:Option (Sum Int (Sum Int Bool))} {ok:α→Prop} {f:α→α→Prop} (h:i<l.length) (k:∀x,l[i]?=some x→Rnd i m (ok x∧(0<i→∀y,l[i-1]?=some y→f y x))):
 Rnd (i:Int) m ((∀x,l[i]?=some x→ok x)∧(0<i→∀a,l[i-1]?=some a→∀b,l[i]?=some b→f a b)):=by
 obtain⟨x,hx⟩:=a0i h
 refine(k x hx).iff ?_
 rw [hx]
 simp
theorem c1P (l:List a8) (i:Nat) (h:i<l.length) (hl:l.length≤12):Rnd (i:Int) (Q5 l i) ((∀x,l[i]?=some x→a3R x)∧(0<i→∀a,l[i-1]?=some a→∀b,l[i]?=some b→a4x a b)):=by
 refine b4W h fun x hx=> ?_
 have hlt:((i:Int)<(l.length:Int)):=by omega
 have e1:=(a2o x.Night).eq
 have e2:=(a6z x.Promised).eq
 have e3:=(a3Y x.Value).eq
 have e4:=(a7R x.Ballot 6 x.Promised).eq
 unfold Q5
 simp only [hlt,decide_true,if_true,u6 hx,Option.bind_some,e1,e2,e3,e4]
 by_cases h0:0<i
 · obtain⟨y,hy⟩:=a0i (l:=l) (i:=i-1) (by omega)
   have h00:(i:Int)>0:=by omega
   simp only [h00,decide_true,if_true,b0I h0 (by omega),u6 hy,hy,Option.bind_some,b9r,b8O (i:Int),b3u,h0,true_imp_iff,Option.some.injEq,forall_eq']
   refine⟨_,rfl, ?_⟩
   simp only [a3R,a4x,Bool.or_eq_true,Bool.and_eq_true,Bool.not_eq_true',decide_eq_true_eq,decide_eq_false_iff_not,beq_iff_eq,Bool.not_not,beq_eq_false_iff_ne,ne_eq,Bool.and_false,Bool.and_true,Bool.false_or,Bool.or_false,Bool.false_eq_true]
   omega
 · have h00:¬((i:Int)>0):=by omega
   simp only [h00,decide_false,Bool.false_eq_true,if_false,b9r,b8O (i:Int),b3u,h0,false_imp_iff,and_true]
   refine⟨_,rfl, ?_⟩
   simp only [a3R,Bool.or_eq_true,Bool.and_eq_true,Bool.not_eq_true',decide_eq_true_eq,decide_eq_false_iff_not,beq_iff_eq,Bool.not_not,beq_eq_false_iff_ne,ne_eq,Bool.and_false,Bool.and_true,Bool.false_or,Bool.or_false,Bool.false_eq_true]
   omega
theorem c0d (l:List a7) (i:Nat) (h:i<l.length) (hl:l.length≤60):Rnd (i:Int) (Q8 l i) ((∀x,l[i]?=some x→a3c x)∧(0<i→∀a,l[i-1]?=some a→∀b,l[i]?=some b→a0Q a b)):=by
 refine b4W h fun x hx=> ?_
 have hlt:((i:Int)<(l.length:Int)):=by omega
 have e1:=(a2o x.Night).eq
 have e2:=(a6z x.Ballot).eq
 have e3:=(a3Y x.Value).eq
 have e4:=(b3H x.Mask).eq
 unfold Q8
 simp only [hlt,decide_true,if_true,u6 hx,Option.bind_some,e1,e2,e3,e4]
 by_cases h0:0<i
 · obtain⟨y,hy⟩:=a0i (l:=l) (i:=i-1) (by omega)
   have h00:(i:Int)>0:=by omega
   simp only [h00,decide_true,if_true,b0I h0 (by omega),u6 hy,hy,Option.bind_some,b9r,b8O (i:Int),b3u,h0,true_imp_iff,Option.some.injEq,forall_eq']
   refine⟨_,rfl, ?_⟩
   simp only [a3c,a0Q,Bool.or_eq_true,Bool.and_eq_true,Bool.not_eq_true',decide_eq_true_eq,decide_eq_false_iff_not,beq_iff_eq,Bool.not_not,beq_eq_false_iff_ne,ne_eq,Bool.and_false,Bool.and_true,Bool.false_or,Bool.or_false,Bool.false_eq_true]
   omega
 · have h00:¬((i:Int)>0):=by omega
   simp only [h00,decide_false,Bool.false_eq_true,if_false,b9r,b8O (i:Int),b3u,h0,false_imp_iff,and_true]
   refine⟨_,rfl, ?_⟩
   simp only [a3c,Bool.or_eq_true,Bool.and_eq_true,Bool.not_eq_true',decide_eq_true_eq,decide_eq_false_iff_not,beq_iff_eq,Bool.not_not,beq_eq_false_iff_ne,ne_eq,Bool.and_false,Bool.and_true,Bool.false_or,Bool.or_false,Bool.false_eq_true]
   omega
theorem c2l (l:List b4) (me:Int) (i:Nat) (h:i<l.length) (hl:l.length≤60):Rnd (i:Int) (Q7 l me i) ((∀x,l[i]?=some x→a5I me x)∧(0<i→∀a,l[i-1]?=some a→∀b,l[i]?=some b→a1e a b)):=by
 refine b4W h fun x hx=> ?_
 have hlt:((i:Int)<(l.length:Int)):=by omega
 have e1:=(a0T x.Owner).eq
 have e2:=(a7R x.No 1 40).eq
 have e3:=(a5s x.Thing).eq
 have e4:=(Q4 x.From).eq
 have e5:=(Q4 x.Until).eq
 have et:1≤x.Thing∧x.Thing≤99→x.Thing.tmod 6=x.Thing % 6:=fun h=>a6I (by omega)
 unfold Q7
 simp only [hlt,decide_true,if_true,u6 hx,Option.bind_some,e1,e2,e3,e4,e5]
 generalize x.Thing.tmod 6=tm at et⊢
 by_cases h0:0<i
 · obtain⟨y,hy⟩:=a0i (l:=l) (i:=i-1) (by omega)
   have h00:(i:Int)>0:=by omega
   simp only [h00,decide_true,if_true,b0I h0 (by omega),u6 hy,hy,Option.bind_some,b9r,b8O (i:Int),b3u,h0,true_imp_iff,Option.some.injEq,forall_eq']
   refine⟨_,rfl, ?_⟩
   simp only [a5I,a1e,Bool.or_eq_true,Bool.and_eq_true,Bool.not_eq_true',decide_eq_true_eq,decide_eq_false_iff_not,beq_iff_eq,Bool.not_not,beq_eq_false_iff_ne,ne_eq,Bool.and_false,Bool.and_true,Bool.false_or,Bool.or_false,Bool.false_eq_true,bne_iff_ne,bne_eq_false_iff_eq]
   omega
 · have h00:¬((i:Int)>0):=by omega
   simp only [h00,decide_false,Bool.false_eq_true,if_false,b9r,b8O (i:Int),b3u,h0,false_imp_iff,and_true]
   refine⟨_,rfl, ?_⟩
   simp only [a5I,Bool.or_eq_true,Bool.and_eq_true,Bool.not_eq_true',decide_eq_true_eq,decide_eq_false_iff_not,beq_iff_eq,Bool.not_not,beq_eq_false_iff_ne,ne_eq,Bool.and_false,Bool.and_true,Bool.false_or,Bool.or_false,Bool.false_eq_true,bne_iff_ne,bne_eq_false_iff_eq]
   omega
theorem c1F (l:List b9) (i:Nat) (h:i<l.length) (hl:l.length≤12) (x:b9):Lp (l8 (I9 l i x) 0) (∀y,y∈l.take i→¬y.Ballot=x.Ballot):=by
 refine(a2v i (by omega) (fun k=>∀y,l[k]?=some y→¬y.Ballot=x.Ballot) (fun k hk=> ?_) (by simp [I9])).iff ?_
 · obtain⟨y,hy⟩:=a0i (l:=l) (i:=k) (by omega)
   have hlt:((k:Int)<(i:Int)):=by omega
   unfold I9
   simp only [hlt,decide_true,if_true,u6 hy,Option.bind_some,hy,Option.some.injEq,forall_eq']
   exact(Rnd.ite (P:=¬y.Ballot=x.Ballot) (by simp) fun _=> .go trivial).iff (by simp)
 · constructor
   · intro h' y hy
     obtain⟨k,hk,rfl⟩:=List.mem_take_iff_getElem.1 hy
     exact h' k (by omega) _ (List.getElem?_eq_getElem _)
   · intro h' k hk y hy
     exact h' y (List.mem_take_iff_getElem.2 ⟨k,by omega,(List.getElem?_eq_some_iff.1 hy).2⟩)
theorem b8k (a b:b6):Ans (a3V a b) (a.Thing=b.Thing∧a1m a b):=by
 unfold a3V a1m
 rw [a9L,a9n]
 exact Ans.ite (by simp) fun _=> .of
theorem b8J (l:List b6) (i:Nat) (h:i<l.length) (hl:l.length≤40) (x:b6):Lp (l8 (O7 l i x) 0) (∀y,y∈l.take i→¬(y.Thing=x.Thing∧a1m y x)):=by
 refine(a2v i (by omega) (fun k=>∀y,l[k]?=some y→¬(y.Thing=x.Thing∧a1m y x)) (fun k hk=> ?_) (by simp [O7])).iff ?_
 · obtain⟨y,hy⟩:=a0i (l:=l) (i:=k) (by omega)
   have hlt:((k:Int)<(i:Int)):=by omega
   unfold O7
   simp only [hlt,decide_true,if_true,u6 hy,Option.bind_some,hy,Option.some.injEq,forall_eq']
   exact(Rnd.and (b8k y x) fun _=> .go trivial).iff (by simp)
 · constructor
   · intro h' y hy
     obtain⟨k,hk,rfl⟩:=List.mem_take_iff_getElem.1 hy
     exact h' k (by omega) _ (List.getElem?_eq_getElem _)
   · intro h' k hk y hy
     exact h' y (List.mem_take_iff_getElem.2 ⟨k,by omega,(List.getElem?_eq_some_iff.1 hy).2⟩)
theorem c3s (l:List b9) (me r:Int) (hm:0≤me∧me≤5) (hr:0≤r∧r≤9999) (i:Nat) (h:i<l.length) (hl:l.length≤12):Rnd (i:Int) (S7 l me r i) ((∀x,l[i]?=some x→a7s me r x∧∀y,y∈l.take i→¬y.Ballot=x.Ballot)∧(0<i→∀a,l[i-1]?=some a→∀b,l[i]?=some b→a7p a b)):=by
 refine b4W (ok:=fun x=>a7s me r x∧∀y,y∈l.take i→¬y.Ballot=x.Ballot) h fun x hx=> ?_
 have hlt:((i:Int)<(l.length:Int)):=by omega
 have w1:W (W (6*r)+me)=6*r+me:=by rw [a1T (z:=6*r) (by omega),a1T (by omega)]
 have w2:W (6+me)=6+me:=a1T (by omega)
 have hlp:=c1F l i h hl x
 unfold S7
 simp only [hlt,decide_true,if_true]
 simp only [u6 hx,Option.bind_some,w1,w2,b5P,b1s]
 have tail:Rnd (i:Int) (Option.bind (s7 x.Value) fun x154=>if(!x154)=true then some (.inr (.inr false))else Option.bind (A6 x.Ballot (6+me) (6*r+me)) fun x157=>if(!x157)=true then some (.inr (.inr false))else
  if(x.Ballot % 6 !=me)=true then some (.inr (.inr false))else Option.bind (A6 x.Best 0 (W (x.Ballot-1))) fun x163=>if(!x163)=true then some (.inr (.inr false))else Option.bind (a0n x.Mask) fun x166=>if(!x166)=true then some (.inr (.inr false))else
  if(!(x.Asked==qr x.Mask))=true then some (.inr (.inr false))else Option.bind (l8 (I9 l i x) 0) fun e=>match e with| .inl _=>some (.inl (W ((i:Int)+1)))| .inr r=>some (.inr (.inr r)))
  ((1≤x.Value∧x.Value≤1000000)∧(6+me≤x.Ballot∧x.Ballot≤6*r+me)∧x.Ballot % 6=me∧(0≤x.Best∧x.Best≤x.Ballot-1)∧(0≤x.Mask∧x.Mask≤63)∧x.Asked=qr x.Mask∧∀y,y∈l.take i→¬y.Ballot=x.Ballot):=by
  refine Rnd.nand (a3Y _) fun h1=>Rnd.nand (a7R _ _ _) fun h2=>Rnd.ite (by simp) fun h3=> ?_
  rw [a1T (z:=x.Ballot-1) (by omega)]
  exact Rnd.nand (a7R _ _ _) fun h4=>Rnd.nand (b3H _) fun h5=>Rnd.ite (by simp) fun h6=>Rnd.loop hlp
 by_cases h0:0<i
 · obtain⟨y,hy⟩:=a0i (l:=l) (i:=i-1) (by omega)
   have h00:(i:Int)>0:=by omega
   simp only [h00,decide_true,if_true,b0I h0 (by omega),u6 hy,hy,Option.bind_some,h0,true_imp_iff,Option.some.injEq,forall_eq']
   refine(Rnd.nand (a2o _) fun h1=>Rnd.ite (P:=y.Night<x.Night) (by simp) fun h2=>tail).iff ?_
   unfold a7s a7p
   constructor
   · rintro⟨a,b,c,d,e,f,g,h,k⟩;exact⟨⟨⟨a,by omega,e,c,f,g,h⟩,k⟩,b⟩
   · rintro⟨⟨⟨a,b,c,d,e,f,g⟩,k⟩,m⟩;exact⟨a,m,d,by omega,c,e,f,g,k⟩
 · have h00:¬((i:Int)>0):=by omega
   simp only [h00,decide_false,Bool.false_eq_true,if_false,h0,false_imp_iff,and_true]
   refine(Rnd.nand (a2o _) fun h1=>tail).iff ?_
   unfold a7s
   constructor
   · rintro⟨a,c,d,e,f,g,h,k⟩;exact⟨⟨a,by omega,e,c,f,g,h⟩,k⟩
   · rintro⟨⟨a,b,c,d,e,f,g⟩,k⟩;exact⟨a,d,by omega,c,e,f,g,k⟩
theorem c0c (l:List b6) (me:Int) (i:Nat) (h:i<l.length) (hl:l.length≤40):Rnd (i:Int) (P0 l me i) (∀x,l[i]?=some x→a5h me x∧x.No=(i:Int)+1∧∀y,y∈l.take i→¬(y.Thing=x.Thing∧a1m y x)):=by
 obtain⟨x,hx⟩:=a0i h
 have hlt:((i:Int)<(l.length:Int)):=by omega
 have hlp:=b8J l i h hl x
 unfold P0
 simp only [hlt,decide_true,if_true,u6 hx,Option.bind_some,hx,Option.some.injEq,forall_eq']
 refine(Rnd.ite (P:=x.No=(i:Int)+1) (by rw [a1T (by omega)];simp) fun _=>Rnd.nand (a5s _) fun h1=>Rnd.ite (P:=x.Thing % 6=me) (by rw [a6I (by omega)];simp) fun _=>Rnd.nand (a0T _) fun _=>Rnd.ite (P:=¬x.To=me) (by simp) fun _=>
  Rnd.nand (Q4 _) fun _=>Rnd.nand (Q4 _) fun _=>Rnd.ite (P:=x.From≤x.Until) (by simp) fun _=>Rnd.loop hlp).iff ?_
 unfold a5h
 constructor
 · rintro⟨a,b,c,d,e,f,g,h,k⟩;exact⟨⟨b,c,d,e,f,g,h⟩,a,k⟩
 · rintro⟨⟨b,c,d,e,f,g,h⟩,a,k⟩;exact⟨a,b,c,d,e,f,g,h,k⟩
theorem b5J {m:Option (Sum Int Bool)} {n most:Int} {P:Prop} (h:n≤most→Lp m P):Ans (if(decide (n>most))=true then some false else m.bind fun e=>match e with| .inl _=>some true| .inr r=>some r) (n≤most∧P):=
 Ans.ite' (by simp) fun h'=>Ans.lp (h h')
theorem a7N {i:Nat} {P:Prop}:(0≤i→P)↔P:=⟨fun h=>h (Nat.zero_le _),fun h _=>h⟩
theorem b5y (l:List a8):Ans (a3x l) ((l.length:Int)≤12∧(∀x,x∈l→a3R x)∧M4 a4x l):=
 b5J fun h=>(a2v l.length (by omega) _ (fun i hi=>c1P l i hi (by omega)) (by simp [Q5])).iff ((forall_congr' fun _=>a7N.symm).trans (b0D l a3R a4x))
theorem b5R (l:List a7):Ans (a3U l) ((l.length:Int)≤60∧(∀x,x∈l→a3c x)∧M4 a0Q l):=
 b5J fun h=>(a2v l.length (by omega) _ (fun i hi=>c0d l i hi (by omega)) (by simp [Q8])).iff ((forall_congr' fun _=>a7N.symm).trans (b0D l a3c a0Q))
theorem b5v (l:List b4) (me:Int):Ans (a3G l me) ((l.length:Int)≤60∧(∀x,x∈l→a5I me x)∧M4 a1e l):=
 b5J fun h=>(a2v l.length (by omega) _ (fun i hi=>c2l l me i hi (by omega)) (by simp [Q7])).iff ((forall_congr' fun _=>a7N.symm).trans (b0D l (a5I me) a1e))
theorem b7r (l:List b9) (me r:Int) (hm:0≤me∧me≤5) (hr:0≤r∧r≤9999):Ans (a4E l me r) ((l.length:Int)≤12∧(∀x,x∈l→a7s me r x)∧M4 a7p l∧a8l (fun a b=>a.Ballot=b.Ballot) l):=
 b5J fun h=>(a2v l.length (by omega) _ (fun i hi=>c3s l me r hm hr i hi (by omega)) (by simp [S7])).iff (by
  have key:=b0D l (a7s me r) a7p
  constructor
  · intro h
    obtain⟨h1,h2⟩:=key.1 fun i _ hi=>⟨fun x hx=>((h i hi).1 x hx).1,(h i hi).2⟩
    exact⟨h1,h2,fun i x hx=>((h i (List.getElem?_eq_some_iff.1 hx).1).1 x hx).2⟩
  · rintro⟨h1,h2,h3⟩ i hi
    have:=key.2 ⟨h1,h2⟩ i (Nat.zero_le _) hi
    exact⟨fun x hx=>⟨this.1 x hx,h3 i x hx⟩,this.2⟩)
theorem b4l (l:List b6) (me:Int):Ans (a2S l me) ((l.length:Int)≤40∧(∀x,x∈l→a5h me x)∧(∀(i:Nat) x,l[i]?=some x→x.No=(i:Int)+1)∧a8l (fun a b=>a.Thing=b.Thing∧a1m a b) l):=
 b5J fun h=>(a2v l.length (by omega) _ (fun i hi=>c0c l me i hi (by omega)) (by simp [P0])).iff (by
  constructor
  · intro h
    refine⟨fun x hx=> ?_,fun i x hx=>((h i (List.getElem?_eq_some_iff.1 hx).1) x hx).2.1,fun i x hx=>((h i (List.getElem?_eq_some_iff.1 hx).1) x hx).2.2⟩
    obtain⟨i,hi,rfl⟩:=List.getElem_of_mem hx
    exact((h i hi) _ (List.getElem?_eq_getElem hi)).1
  · rintro⟨h1,h2,h3⟩ i hi x hx
    exact⟨h1 x (List.mem_of_getElem? hx),h2 i x hx,h3 i x hx⟩)
def Err (m:Option Int) (P:Prop) (e:Int):Prop:=m=some (if P then 0 else e)
theorem Err.nand {m:Option Bool} {n:Option Int} {P Q:Prop} {e:Int} (h:Ans m P) (k:P→Err n Q e):Err (Option.bind m fun x=>if(!x)=true then some e else n) (P∧Q) e:=by
 obtain⟨b,rfl,hb⟩:=h
 unfold Err
 by_cases hp:P
 · have:=k hp
   unfold Err at this
   simp [hb.2 hp,hp,this]
 · have:b=false:=by cases b with|false=>rfl|true=>exact absurd (hb.1 rfl) hp
   simp [this,hp]
theorem Err.one {m:Option Bool} {P:Prop} {e:Int} (h:Ans m P):Err (Option.bind m fun x=>if(!x)=true then some e else some 0) P e:=by
 have:=Err.nand (Q:=True) (n:=some 0) (e:=e) h (fun _=>by simp [Err])
 simpa using this
theorem Err.iff {m:Option Int} {P Q:Prop} {e:Int} (h:Err m P e) (k:P↔Q):Err m Q e:=by
 unfold Err at*;rw [h];simp [k]
theorem a7r (me:Int) (s:b7):Err (a0o me s) (I5 me s) 90:=by
 refine Err.iff (Err.nand (a0T _) fun hm=>Err.nand (a7R _ _ _) fun hr=>Err.nand (b5y _) fun _=>Err.nand (b7r _ _ _ hm hr) fun _=>Err.nand (b5R _) fun _=>Err.nand (b4l _ _) fun _=>Err.one (b5v _ _)) ?_
 rw [b0Z]
 constructor
 · rintro⟨a,b,⟨c1,c2,c3⟩,⟨d1,d2,d3,d4⟩,⟨e1,e2,e3⟩,⟨f1,f2,f3,f4⟩,⟨g1,g2,g3⟩⟩
   exact⟨a,b,⟨c1,c2⟩,⟨d1,d2⟩,⟨e1,e2⟩,⟨f1,f2⟩,⟨g1,g2⟩,c3,d3,e3,g3,d4,f3,f4⟩
 · rintro⟨a,b,⟨c1,c2⟩,⟨d1,d2⟩,⟨e1,e2⟩,⟨f1,f2⟩,⟨g1,g2⟩,c3,d3,e3,g3,d4,f3,f4⟩
   exact⟨a,b,⟨c1,c2,c3⟩,⟨d1,d2,d3,d4⟩,⟨e1,e2,e3⟩,⟨f1,f2,f3,f4⟩,⟨g1,g2,g3⟩⟩
def H6 (x:a6):Prop:=I5 x.Me x.Now∧I5 x.Me x.Safe
theorem c1I (x:a6):Err (a0b x) (H6 x) 90:=Err.nand (b3G _ _) fun _=>Err.one (b3G _ _)
theorem a8t (x:a6):Err (a0a x) (H6 x) 90:=by
 have e1:=a7r x.Me x.Now
 have e2:=a7r x.Me x.Safe
 unfold Err at*
 unfold a0a
 rw [e1,e2]
 unfold H6
 by_cases h1:I5 x.Me x.Now<;>by_cases h2:I5 x.Me x.Safe<;>simp [h1,h2]
end Go.Proofs.YtcedmbakcchkiaaGreatDoor
namespace Go.Proofs.YtcedmbakcchkiaaGreatDoor
open Go Go.Sx
open Classical
def a4G (c:b8):Prop:=(0≤c.Night∧c.Night≤100000)∧(6≤c.Ballot∧c.Ballot≤59999)∧c.No=0∧c.Thing=0∧c.Start=0∧c.Until=0
def a9I (c:b8):Prop:=c.From≠c.To∧(1≤c.No∧c.No≤40)∧(1≤c.Thing∧c.Thing≤99)∧(0≤c.Until∧c.Until≤144001439)∧c.Night=0∧c.Ballot=0∧c.Best=0∧c.Value=0
def b0h (v:Int):Prop:=1≤v∧v≤1000000
structure b0c (c:b8):Prop where
 from_:0≤c.From∧c.From≤5
 to_:0≤c.To∧c.To≤5
 kind:(c.Kind=1∧a4G c∧c.Ballot % 6=c.From∧c.Best=0∧c.Value=0)∨(c.Kind=2∧a4G c∧c.Ballot % 6=c.To∧((c.Best=0∧c.Value=0)∨((6≤c.Best∧c.Best≤c.Ballot-1)∧b0h c.Value)))∨
  (c.Kind=3∧a4G c∧c.Ballot % 6=c.From∧c.Best=0∧b0h c.Value)∨(c.Kind=4∧a4G c∧c.Best=0∧b0h c.Value)∨
  (c.Kind=5∧a9I c∧c.Thing % 6=c.From∧(0≤c.Start∧c.Start≤144001439)∧c.Start≤c.Until)∨(c.Kind=6∧a9I c∧c.Thing % 6=c.To∧c.Start=0)
theorem b3l (c:b8):b0c c↔(0≤c.From∧c.From≤5)∧(0≤c.To∧c.To≤5)∧((c.Kind=1∧a4G c∧c.Ballot % 6=c.From∧c.Best=0∧c.Value=0)∨(c.Kind=2∧a4G c∧c.Ballot % 6=c.To∧((c.Best=0∧c.Value=0)∨((6≤c.Best∧c.Best≤c.Ballot-1)∧b0h c.Value)))∨
 (c.Kind=3∧a4G c∧c.Ballot % 6=c.From∧c.Best=0∧b0h c.Value)∨(c.Kind=4∧a4G c∧c.Best=0∧b0h c.Value)∨
 (c.Kind=5∧a9I c∧c.Thing % 6=c.From∧(0≤c.Start∧c.Start≤144001439)∧c.Start≤c.Until)∨(c.Kind=6∧a9I c∧c.Thing % 6=c.To∧c.Start=0)):=
 ⟨fun⟨a,b,c⟩=>⟨a,b,c⟩,fun⟨a,b,c⟩=>⟨a,b,c⟩⟩
theorem c3I (a b c:Bool):(if a=true then some b else some c)=some ((a&&b)||(!a&&c)):=by cases a<;>simp
def er (b:Bool):Option Int:=some (if b=true then 0 else 91)
theorem c5y:(some 0:Option Int)=er true:=rfl
theorem c6p:(some 91:Option Int)=er false:=rfl
theorem c4P (a b c:Bool):(if a=true then er b else er c)=er ((a&&b)||(!a&&c)):=by cases a<;>simp
structure Rck (c:b8) (w tb tt:Int):Prop where
 w:6≤c.Ballot∧c.Ballot≤59999→w=c.Ballot-1
 tb:0≤c.Ballot→tb=c.Ballot % 6
 tt:0≤c.Thing→tt=c.Thing % 6
theorem c3i (c:b8):Rck c (W (c.Ballot-1)) (c.Ballot.tmod 6) (c.Thing.tmod 6):=⟨fun h=>a1T (by omega),fun h=>a6I h,fun h=>a6I h⟩
theorem c1Q (c:b8):Rck c (W (c.Ballot-1)) (c.Ballot % 6) (c.Thing.tmod 6):=⟨fun h=>a1T (by omega),fun h=>rfl,fun h=>a6I h⟩
set_option maxHeartbeats 1000000 in
theorem c0p (c:b8):Ans (X6 c) (b0c c):=by
 refine Ans.iff ?_ (b3l c).symm
 have e1:=(a2f c.From).eq
 have e2:=(a2f c.To).eq
 have e3:=(Q2 c.No 1 40).eq
 have e4:=(a6Z c.Thing).eq
 have e5:=(a4Q c.Night).eq
 have e6:=(a7M c.Ballot).eq
 have e7:=(a4H c.Value).eq
 have e8:=(Q2 c.Best 6 (W (c.Ballot-1))).eq
 have e9:=(b2b c.Start c.Until).eq
 have e10:=(a2k c.Until).eq
 have hr:=c3i c
 have hd:∀n,d6 n=some (n.tmod 6):=fun _=>rfl
 unfold X6 a4y
 simp only [e1,e2,e3,e4,e5,e6,e7,e8,e9,e10,hd]
 clear e1 e2 e3 e4 e5 e6 e7 e8 e9 e10 hd
 generalize W (c.Ballot-1)=w at hr⊢
 generalize c.Ballot.tmod 6=tb at hr⊢
 generalize c.Thing.tmod 6=tt at hr⊢
 obtain⟨h1,h2,h3⟩:=hr
 obtain⟨Kind,From,To,Night,Ballot,Best,Value,No,Thing,Start,Until⟩:=c
 simp only [a4G,a9I,b0h]at*
 have hk:Kind=1∨Kind=2∨Kind=3∨Kind=4∨Kind=5∨Kind=6∨(Kind≠1∧Kind≠2∧Kind≠3∧Kind≠4∧Kind≠5∧Kind≠6):=by omega
 rcases hk with rfl|rfl|rfl|rfl|rfl|rfl|⟨k1,k2,k3,k4,k5,k6⟩
 all_goals try simp only [Int.reduceBEq,Int.reduceBNe,if_true,Bool.false_eq_true,if_false,Option.bind_some,Bool.not_true,Bool.not_false,c3I]
 iterate 6
  · refine⟨_,rfl, ?_⟩
    simp only [Bool.or_eq_true,Bool.and_eq_true,Bool.not_eq_true',decide_eq_true_eq,decide_eq_false_iff_not,beq_iff_eq,Bool.not_not,beq_eq_false_iff_ne,ne_eq,Bool.and_false,Bool.and_true,Bool.false_or,Bool.or_false,Bool.false_eq_true,bne_iff_ne,bne_eq_false_iff_eq,Bool.true_and,Bool.false_and,true_and,false_and,or_false,false_or,Int.reduceEq,and_true,and_false,or_true,true_or,not_true_eq_false,not_false_eq_true]
    first|omega|(constructor<;>intro h<;>omega)|grind
 have q1:(Kind==1)=false:=by simp [k1]
 have q2:(Kind==2)=false:=by simp [k2]
 have q3:(Kind==3)=false:=by simp [k3]
 have q4:(Kind==4)=false:=by simp [k4]
 have q5:(Kind==5)=false:=by simp [k5]
 have q6:(Kind==6)=false:=by simp [k6]
 simp only [q1,q2,q3,q4,q5,q6,Bool.false_eq_true,if_false,Option.bind_some,Bool.not_false,if_true]
 exact .no (by rintro⟨_,_,h⟩;omega)
set_option maxHeartbeats 1000000 in
theorem b4y (c:b8):Err (a0O c) (b0c c) 91:=by
 refine Err.iff ?_ (b3l c).symm
 have e0:=(a7R c.Kind 1 6).eq
 have e1:=(a0T c.From).eq
 have e2:=(a0T c.To).eq
 have e3:=(a7R c.No 1 40).eq
 have e4:=(a5s c.Thing).eq
 have e5:=(a2o c.Night).eq
 have e6:=(a6z c.Ballot).eq
 have e7:=(a3Y c.Value).eq
 have e8:=(a7R c.Best 6 (W (c.Ballot-1))).eq
 have e9:=(Q4 c.Start).eq
 have e10:=(Q4 c.Until).eq
 have hr:=c1Q c
 unfold a0O a7U
 simp only [e0,e1,e2,e3,e4,e5,e6,e7,e8,e9,e10,b5P]
 clear e0 e1 e2 e3 e4 e5 e6 e7 e8 e9 e10
 generalize W (c.Ballot-1)=w at hr⊢
 generalize c.Thing.tmod 6=tt at hr⊢
 obtain⟨h1,h2,h3⟩:=hr
 obtain⟨Kind,From,To,Night,Ballot,Best,Value,No,Thing,Start,Until⟩:=c
 simp only [a4G,a9I,b0h]at*
 have fin:∀ {b:Bool} {P:Prop},(b=true↔P)→Err (er b) P 91:=fun {b P} h=>by
  unfold Err er
  by_cases hp:P
  · rw [if_pos (h.2 hp),if_pos hp]
  · rw [if_neg (fun hb=>hp (h.1 hb)),if_neg hp]
 have hk:Kind=1∨Kind=2∨Kind=3∨Kind=4∨Kind=5∨Kind=6∨¬(1≤Kind∧Kind≤6):=by omega
 rcases hk with rfl|rfl|rfl|rfl|rfl|rfl|k
 iterate 6
  · simp only [Int.reduceBEq,Int.reduceBNe,Int.reduceLE,and_self,decide_true,decide_false,if_true,Bool.false_eq_true,if_false,Option.bind_some,Bool.not_true,Bool.not_false,c5y,c6p,c4P]
    refine fin ?_
    simp only [Bool.or_eq_true,Bool.and_eq_true,Bool.not_eq_true',decide_eq_true_eq,decide_eq_false_iff_not,beq_iff_eq,Bool.not_not,beq_eq_false_iff_ne,ne_eq,Bool.and_false,Bool.and_true,Bool.false_or,Bool.or_false,Bool.false_eq_true,bne_iff_ne,bne_eq_false_iff_eq,Bool.true_and,Bool.false_and,true_and,false_and,or_false,false_or,Int.reduceEq,and_true,and_false,or_true,true_or,not_true_eq_false,not_false_eq_true]
    first|omega|(constructor<;>intro h<;>omega)|grind
 · simp only [k,decide_false,Option.bind_some,Bool.not_false,if_true]
   unfold Err
   rw [if_neg]
   rintro⟨_,_,h⟩;omega
end Go.Proofs.YtcedmbakcchkiaaGreatDoor
namespace Go.Proofs.YtcedmbakcchkiaaGreatDoor
open Go Go.Sx
open Classical
theorem a9b {α:Type} {l:List α} (hl:l.length≤9223372036854775806) {q:α→α→Bool} (hq:∀x,q x x=true) {body:Int→Option (Sum Int (Sum Int Bool))}
 (hb:body=fun i=>if(decide (i<(l.length:Int)))=true then Option.bind (idx l i) fun a=>Option.bind (idx l i) fun b=>if(!(q a b))=true then some (.inr (.inr false))else some (.inl (W (i+1)))else some (.inr (.inl i))):Lp (l8 body 0) True:=by
 refine(a2v l.length (by omega) (fun _=>True) (fun i hi=> ?_) (by rw [hb];simp)).iff (by simp)
 rw [hb]
 have hlt:((i:Int)<(l.length:Int)):=by omega
 simp only [hlt,decide_true,if_true]
 refine Rnd.get hi (Rnd.get hi ?_)
 rw [hq]
 exact .go trivial
structure a3W (s:b7):Prop where
 a:s.Slots.length≤9223372036854775806
 b:s.Bids.length≤9223372036854775806
 c:s.Heard.length≤9223372036854775806
 d:s.Leases.length≤9223372036854775806
 e:s.Loans.length≤9223372036854775806
theorem b0k (s:b7) (h:a3W s):Ans (Y5 s s) True:=by
 unfold Y5
 have n0:∀ {x:Int},(x !=x)=true↔¬True:=by simp
 refine(Ans.ite' n0 fun _=>Ans.ite' n0 fun _=>Ans.ite' n0 fun _=>Ans.ite' n0 fun _=>Ans.ite' n0 fun _=>Ans.ite' n0 fun _=>
  Ans.loop (a9b h.a (q:=fun a b=>(a.Night==b.Night)&&((a.Promised==b.Promised)&&((a.Ballot==b.Ballot)&&(a.Value==b.Value)))) (by simp) rfl) fun _=>
  Ans.loop (a9b h.b (q:=fun a b=>(a.Night==b.Night)&&((a.Ballot==b.Ballot)&&((a.Value==b.Value)&&((a.Best==b.Best)&&((a.Mask==b.Mask)&&(a.Asked==b.Asked)))))) (by simp) rfl) fun _=>
  Ans.loop (a9b h.c (q:=fun a b=>(a.Night==b.Night)&&((a.Ballot==b.Ballot)&&((a.Value==b.Value)&&(a.Mask==b.Mask)))) (by simp) rfl) fun _=>
  Ans.loop (a9b h.d (q:=fun a b=>(a.No==b.No)&&((a.Thing==b.Thing)&&((a.To==b.To)&&((a.From==b.From)&&(a.Until==b.Until))))) (by simp) rfl) fun _=>
  Ans.lp (a9b h.e (q:=fun a b=>(a.Owner==b.Owner)&&((a.No==b.No)&&((a.Thing==b.Thing)&&((a.From==b.From)&&((a.Until==b.Until)&&(a.Back==b.Back)))))) (by simp) rfl)).iff (by simp)
theorem Ans.true {m:Option Bool} (h:Ans m True):m=some true:=by rw [h.eq];simp
theorem a6T (x:a6) (h1:a3W x.Now) (h2:a3W x.Safe):a1b x x=some true:=by
 unfold a1b
 rw [(b0k _ h1).true,(b0k _ h2).true]
 simp
def S0:b7:=⟨0, [], [], [], [], []⟩
theorem c0y:a3W S0:=⟨by decide,by decide,by decide,by decide,by decide⟩
end Go.Proofs.YtcedmbakcchkiaaGreatDoor
namespace Go.Proofs.YtcedmbakcchkiaaGreatDoor
open Go Go.Sx
open Classical
theorem N3 {α:Type} {p:Prop} [Decidable p] {k:Option α} (h:p):gd p k=k:=by unfold gd;rw [if_pos h]
theorem I5.short {me:Int} {s:b7} (h:I5 me s):a3W s:=by
 have:=h.nslots;have:=h.nbids;have:=h.nheard;have:=h.nleases;have:=h.nloans
 constructor<;>omega
theorem b3A {me:Int} {s:b7} (h:I5 me s):D3 s=some s:=by
 have:=h.nslots;have:=h.nbids;have:=h.nheard;have:=h.nleases;have:=h.nloans
 unfold D3 E8 G9 C7 C4 F3
 rw [N3 (by omega),N3 (by omega),N3 (by omega),N3 (by omega),N3 (by omega)]
 rfl
theorem b1g {me:Int} {s:b7} (h:I5 me s):a0q s=some s:=by
 have:=h.nslots;have:=h.nbids;have:=h.nheard;have:=h.nleases;have:=h.nloans
 unfold a0q
 rw [N3 (by simp;omega),N3 (by simp;omega),N3 (by simp;omega),N3 (by simp;omega),N3 (by simp;omega)]
 rfl
def Z0:a6:=⟨0,S0,S0⟩
end Go.Proofs.YtcedmbakcchkiaaGreatDoor
namespace Go.Proofs.YtcedmbakcchkiaaGreatDoor
open Go Go.Sx
open Classical
theorem c3q {z:Int} (h:0≤z∧z≤18446744073709551615):IntKind.u64.wrap z=z:=by
 simp only [IntKind.wrap,IntKind.signed,IntKind.bits]
 simp
 omega
theorem c6m (i j:Nat) (h:i+j≤9223372036854775807):W ((IntKind.u64.wrap (W ((i:Int)+(j:Int)))).fdiv (2^(min (1:Int).toNat IntKind.u64.bits)))=(((i+j) / 2:Nat):Int):=by
 have e:(2:Int)^(min (1:Int).toNat IntKind.u64.bits)=2:=by decide
 rw [e,a1T (z:=(i:Int)+j) (by omega),c3q (by omega),Int.fdiv_eq_ediv_of_nonneg _ (by omega)]
 have e2:((i:Int)+j) / 2=(((i+j) / 2:Nat):Int):=by simp
 rw [e2,a1T (by omega)]
structure Cut {α:Type} (c:α→Int) (l:List α) (i:Nat):Prop where
 le:i≤l.length
 lo:∀k (h:k<l.length),k<i→c l[k]<0
 hi:∀k (h:k<l.length),i≤k→¬c l[k]<0
def bsB {α:Type} (l:List α) (cm:α→Option Int):(Int×Int)→Option (Sum (Int×Int) (Int×Int)):=fun(i,j)=>
 if(decide (i<j))=true then
  Option.bind (idx l (W ((IntKind.u64.wrap (W (i+j))).fdiv (2^(min (1:Int).toNat IntKind.u64.bits))))) fun e=>
  Option.bind (cm e) fun x=>
  if(decide (x<0))=true then
   some (.inl ((W ((W ((IntKind.u64.wrap (W (i+j))).fdiv (2^(min (1:Int).toNat IntKind.u64.bits))))+1)),j))
  else
   some (.inl (i,(W ((IntKind.u64.wrap (W (i+j))).fdiv (2^(min (1:Int).toNat IntKind.u64.bits))))))
 else
  some (.inr (i,j))
def bsM {α:Type} (l:List α) (cm:α→Option Int):Option (Int×Bool):=
 Option.bind (l8 (bsB l cm) (0,(l.length:Int))) fun(i,_)=>
 if(decide (i<(l.length:Int)))=true then
  Option.bind (idx l i) fun e=>
  Option.bind (cm e) fun x=>
  some (i,(x==0))
 else
  some (i,false)
theorem a3w {α:Type} (l:List α) (c:α→Int) (hl:l.length≤1000) (hm:∀i j (hi:i<l.length) (hj:j<l.length),i≤j→c l[j]<0→c l[i]<0) (cm:α→Option Int) (hc:∀x,x∈l→cm x=some (c x)):
 ∃i,Cut c l i∧bsM l cm=some ((i:Int),decide (∃x,l[i]?=some x∧c x=0)):=by
 obtain⟨e,he,i,rfl,hi⟩:=b3j (body:=bsB l cm) (fun st:Int×Int=>∃i j:Nat,st=((i:Int),(j:Int))∧i≤j∧j≤l.length∧(∀k (hk:k<l.length),k<i→c l[k]<0)∧(∀k (hk:k<l.length),j≤k→¬c l[k]<0))
  (fun st=>(st.2-st.1).toNat) (fun st=>∃i:Nat,st=((i:Int),(i:Int))∧Cut c l i) (by
  rintro⟨_,_⟩ ⟨i,j,he,hij,hj,ha,hb⟩
  cases he
  unfold bsB
  by_cases hlt:i<j
  · right
    have c1:(i:Int)<(j:Int):=by omega
    have hmid:(i+j) / 2<l.length:=by omega
    have hx:idx l (((i+j) / 2:Nat):Int)=some l[(i+j) / 2]:=u6 (List.getElem?_eq_getElem hmid)
    simp only [c1,decide_true,if_true,c6m i j (by omega),hx,Option.bind_some,hc _ (List.getElem_mem hmid)]
    by_cases hcc:c l[(i+j) / 2]<0
    · refine⟨((((i+j) / 2+1:Nat):Int),(j:Int)), ?_,⟨(i+j) / 2+1,j,rfl,by omega,hj,fun k hk hki=> ?_,hb⟩,by simp only;omega⟩
      · simp only [hcc,decide_true,if_true]
        rw [a1T (z:=(((i+j) / 2:Nat):Int)+1) (by omega)];rfl
      · exact hm k ((i+j) / 2) hk hmid (by omega) hcc
    · refine⟨((i:Int),(((i+j) / 2:Nat):Int)), ?_,⟨i,(i+j) / 2,rfl,by omega,by omega,ha,fun k hk hki h=>hcc (hm _ _ hmid hk hki h)⟩,by simp only;omega⟩
      simp only [hcc,decide_false,Bool.false_eq_true,if_false]
  · left
    have c1:¬(i:Int)<(j:Int):=by omega
    obtain rfl:i=j:=by omega
    exact⟨_,by simp only [c1,decide_false,Bool.false_eq_true,if_false],i,rfl,hj,ha,hb⟩) (0,(l.length:Int)) ⟨0,l.length,rfl,by omega,by omega,by omega,by omega⟩ (by simp only [a7L];omega)
 refine⟨i,hi, ?_⟩
 unfold bsM
 rw [he]
 have hle:=hi.le
 by_cases h:i<l.length
 · have c1:(i:Int)<(l.length:Int):=by omega
   have hx:idx l (i:Int)=some l[i]:=by simp [idx,h]
   simp only [Option.bind_some,c1,decide_true,if_true,hx,hc _ (List.getElem_mem h),List.getElem?_eq_getElem h,Option.some.injEq,exists_eq_left']
   congr 2
 · have c1:¬(i:Int)<(l.length:Int):=by omega
   simp only [Option.bind_some,c1,decide_false,Bool.false_eq_true,if_false,List.getElem?_eq_none (show l.length≤i by omega)]
   simp
noncomputable def upd {α:Type} (c:α→Int) (new:α) (f:α→α):List α→List α
 | []=> [f new]
 |x::l=>if c x<0 then x::upd c new f l else if c x=0 then f x::l else f new::x::l
theorem a8v {α:Type} {c:α→Int} {new:α} {f:α→α}:∀ {l:List α} {i:Nat},Cut c l i→upd c new f l=l.take i++(match l.drop i with| []=> [f new]|x::r=>if c x=0 then f x::r else f new::x::r)
 | [],i,h=>by simp [upd]
 |x::l,0,h=>by
  have:=h.hi 0 (by simp) (Nat.le_refl _)
  simp only [List.getElem_cons_zero]at this
  simp [upd,this]
 |x::l,i+1,h=>by
  have h0:=h.lo 0 (by simp) (by omega)
  simp only [List.getElem_cons_zero]at h0
  have ih:=a8v (c:=c) (new:=new) (f:=f) (l:=l) (i:=i) ⟨by have:=h.le;simpa using this,fun k hk hki=>h.lo (k+1) (by simpa using hk) (by omega),fun k hk hki=>h.hi (k+1) (by simpa using hk) (by omega)⟩
  simp only [upd,h0,if_true,ih,List.take_succ_cons,List.drop_succ_cons,List.cons_append]
theorem b3Z {α:Type} {l:List α} {i:Nat} {x:α} (h:l[i]?=some x):l.drop i=x::l.drop (i+1):=by
 obtain⟨hi,rfl⟩:=List.getElem?_eq_some_iff.1 h
 exact List.drop_eq_getElem_cons hi
theorem a2t {α:Type} {c:α→Int} {l:List α} {i:Nat} (h:Cut c l i) {x:α} (hx:l[i]?=some x) (h0:c x=0) (new:α) (f:α→α):l.set i (f x)=upd c new f l∧(upd c new f l).length=l.length:=by
 have e:l.set i (f x)=upd c new f l:=by
  rw [a8v h,b3Z hx]
  simp only [h0,if_true]
  have hi:=(List.getElem?_eq_some_iff.1 hx).1
  rw [List.set_eq_take_append_cons_drop,if_pos hi]
 exact⟨e,by rw [←e];simp⟩
theorem a5f {α:Type} {c:α→Int} {l:List α} {i:Nat} (h:Cut c l i) (hn:¬∃x,l[i]?=some x∧c x=0) (new:α) (f:α→α):(l.take i++new::l.drop i)[i]?=some new∧(l.take i++new::l.drop i).set i (f new)=upd c new f l∧(upd c new f l).length=l.length+1:=by
 have hle:=h.le
 have hlen:(l.take i).length=i:=by simp;omega
 have e:(l.take i++new::l.drop i).set i (f new)=upd c new f l:=by
  rw [a8v h,List.set_append_right _ _ (by omega),hlen,Nat.sub_self,List.set_cons_zero]
  cases hd:l.drop i with
  |nil=>rfl
  |cons y r=>
   have hy:l[i]?=some y:=by rw [←List.head?_drop,hd];rfl
   have:¬c y=0:=fun h0=>hn ⟨y,hy,h0⟩
   simp only [this,if_false]
 refine⟨by rw [List.getElem?_append_right (by omega),hlen];simp,e, ?_⟩
 rw [←e]
 simp
 omega
theorem b0J {α:Type} (s:List α) (i:Nat) (v:α) (b:Nat) (hl:s.length≤1000) (hb:b≤1000) (hi:i≤s.length):
 (gd (0≤(i:Int)∧(i:Int).toNat≤s.length)<|if(([v].length:Int)==0)=true then some s else if((i:Int)==(s.length:Int))=true then gd ((s.length+ [v].length)*b≤140737488355328∧s.length+ [v].length≤9223372036854775807)<|some (s++ [v])else
  gd (0≤(i:Int)∧(i:Int).toNat<s.length∧0< [v].length∧(s.length+ [v].length)*b≤140737488355328∧s.length+ [v].length≤9223372036854775807) (some (s.take (i:Int).toNat++ [v]++s.drop (i:Int).toNat)))=some (s.take i++v::s.drop i):=by
 have hm:(s.length+ [v].length)*b≤140737488355328:=by
  have:(s.length+ [v].length)*b≤1001*1000:=Nat.mul_le_mul (by simp;omega) hb
  omega
 have h2:s.length+ [v].length≤9223372036854775807:=by simp;omega
 rw [N3 (by omega)]
 have e1:(([v].length:Int)==0)=false:=rfl
 simp only [e1,Bool.false_eq_true,if_false]
 by_cases h:i=s.length
 · subst h
   simp only [beq_self_eq_true,if_true]
   rw [N3 ⟨hm,h2⟩]
   simp
 · have e2:((i:Int)==(s.length:Int))=false:=by rw [beq_eq_false_iff_ne];omega
   simp only [e2,Bool.false_eq_true,if_false]
   rw [N3 ⟨by omega,by omega,by simp,hm,h2⟩]
   simp
theorem a4d {α:Type} {l:List α} {f:α→α→Prop} {c:α→Int} (h:M4 f l) (hc:∀a b,f a b→c b<0→c a<0):∀i j (hi:i<l.length) (hj:j<l.length),i≤j→c l[j]<0→c l[i]<0:=by
 intro i j hi hj hij
 induction j with
 |zero=>
  obtain rfl:i=0:=by omega
  exact id
 |succ j ih=>
  intro h1
  by_cases e:i=j+1
  · subst e;exact h1
  · exact ih (by omega) (by omega) (hc _ _ (h j _ _ (List.getElem?_eq_getElem _) (List.getElem?_eq_getElem hj)) h1)
def L5 (n:Int) (s:a8):Int:=a7S s.Night n
def a7f (n:Int) (b:b9):Int:=a7S b.Night n
def L9 (b n:Int) (h:a7):Int:=b2R h.Ballot b h.Night n
def O8 (o n:Int) (l:b4):Int:=b2R l.Owner o l.No n
theorem b7u {me:Int} {s:b7} (h:I5 me s) (t:a8):∃i,Cut (L5 t.Night) s.Slots i∧u3 s.Slots t=some ((i:Int),decide (∃x,s.Slots[i]?=some x∧L5 t.Night x=0)):=by
 obtain⟨i,hi,e⟩:=a3w s.Slots (L5 t.Night) (by have:=h.nslots;omega) (a4d h.rslots fun a b hab hb=>by unfold L5 at*;rw [Z5]at*;unfold a4x at hab;omega) (fun x=>E2 x t) (fun x _=>a5J x t)
 refine⟨i,hi, ?_⟩
 unfold u3
 rw [show j3 s.Slots t=_ from e]
 rfl
theorem b8Z {me:Int} {s:b7} (h:I5 me s) (t:b9):∃i,Cut (a7f t.Night) s.Bids i∧u5 s.Bids t=some ((i:Int),decide (∃x,s.Bids[i]?=some x∧a7f t.Night x=0)):=by
 obtain⟨i,hi,e⟩:=a3w s.Bids (a7f t.Night) (by have:=h.nbids;omega) (a4d h.rbids fun a b hab hb=>by unfold a7f at*;rw [Z5]at*;unfold a7p at hab;omega) (fun x=>G4 x t) (fun x _=>a6H x t)
 refine⟨i,hi, ?_⟩
 unfold u5
 rw [show l5 s.Bids t=_ from e]
 rfl
theorem b6i {me:Int} {s:b7} (h:I5 me s) (t:a7):∃i,Cut (L9 t.Ballot t.Night) s.Heard i∧t6 s.Heard t=some ((i:Int),decide (∃x,s.Heard[i]?=some x∧L9 t.Ballot t.Night x=0)):=by
 obtain⟨i,hi,e⟩:=a3w s.Heard (L9 t.Ballot t.Night) (by have:=h.nheard;omega) (a4d h.rheard fun a b hab hb=>by unfold L9 at*;rw [a6X]at*;unfold a0Q at hab;omega) (fun x=>E5 x t) (fun x _=>a5O x t)
 refine⟨i,hi, ?_⟩
 unfold t6
 rw [show j0 s.Heard t=_ from e]
 rfl
theorem a7W {me:Int} {s:b7} (h:I5 me s) (t:b4):∃i,Cut (O8 t.Owner t.No) s.Loans i∧m8 s.Loans t=some ((i:Int),decide (∃x,s.Loans[i]?=some x∧O8 t.Owner t.No x=0)):=by
 obtain⟨i,hi,e⟩:=a3w s.Loans (O8 t.Owner t.No) (by have:=h.nloans;omega) (a4d h.rloans fun a b hab hb=>by unfold O8 at*;rw [a6X]at*;unfold a1e at hab;omega) (fun x=>E3 x t) (fun x _=>a5V x t)
 refine⟨i,hi, ?_⟩
 unfold m8
 rw [show j4 s.Loans t=_ from e]
 rfl
end Go.Proofs.YtcedmbakcchkiaaGreatDoor
namespace Go.Proofs.YtcedmbakcchkiaaGreatDoor
open Go Go.Sx
open Classical
theorem a2z {S E:Type} {body:S→Option (Sum S E)} (st:Nat→S) (n:Nat) (hn:n≤9223372036854775807) (fin:E) (h:∀k,k<n→body (st k)=some (.inl (st (k+1)))) (he:body (st n)=some (.inr fin)):l8 body (st 0)=some fin:=by
 have key:∀(m k N:Nat),k+m=n→m<N→a2K body N (st k)=some fin:=by
  intro m
  induction m with
  |zero=>
   intro k N hk hN
   cases N with
   |zero=>omega
   |succ N=>
    obtain rfl:k=n:=by omega
    simp only [a2K,he]
  |succ m ih=>
   intro k N hk hN
   cases N with
   |zero=>omega
   |succ N=>
    simp only [a2K,h k (by omega)]
    exact ih (k+1) N (by omega) (by omega)
 exact key n 0 a7L (by omega) (by unfold a7L;omega)
theorem a1w {α:Type} {l:List α} {k:Nat} {x:α} (h:l[k]?=some x):l.take (k+1)=l.take k++ [x]:=by
 rw [List.take_add_one,h];rfl
noncomputable def Y1 {α:Type} (c:α→Int) (new:α) (f:α→α) (l:List α) (i:Nat) (x:α) (k:Nat):List α:=
 if k≤i then l.take k else l.take i++((if c x=0 then [f x]else [f new,x])++(l.take k).drop (i+1))
section
variable {α : Type} {c : α → Int} {new : α} {f : α → α} {l : List α} {i k : Nat} {x y : α}
theorem a8i (h:k<i) (hy:l[k]?=some y):Y1 c new f l i x (k+1)=Y1 c new f l i x k++ [y]:=by
 unfold Y1
 rw [if_pos (by omega),if_pos (by omega),a1w hy]
theorem a9f (hx:l[i]?=some x):Y1 c new f l i x (i+1)=Y1 c new f l i x i++(if c x=0 then [f x]else [f new,x]):=by
 unfold Y1
 rw [if_neg (by omega),if_pos (Nat.le_refl _)]
 have:(l.take (i+1)).drop (i+1)= []:=List.drop_eq_nil_of_le (by simp;omega)
 rw [this,List.append_nil]
theorem a8u (h:i<k) (hy:l[k]?=some y):Y1 c new f l i x (k+1)=Y1 c new f l i x k++ [y]:=by
 have hk:=(List.getElem?_eq_some_iff.1 hy).1
 unfold Y1
 rw [if_neg (show¬k+1≤i by omega),if_neg (show¬k≤i by omega),a1w hy,List.drop_append_of_le_length (by simp;omega)]
 simp
theorem a6R (hc:Cut c l i) (hx:l[i]?=some x):Y1 c new f l i x l.length=upd c new f l:=by
 have hi:=(List.getElem?_eq_some_iff.1 hx).1
 unfold Y1
 rw [if_neg (by omega),a8v hc,b3Z hx,List.take_length]
 by_cases h0:c x=0<;>simp [h0]
theorem a6U (hx:l[i]?=some x) (hk:k≤l.length):(Y1 c new f l i x k).length≤k+1:=by
 have hi:=(List.getElem?_eq_some_iff.1 hx).1
 unfold Y1
 split
 · simp;omega
 · split<;>simp<;>omega
theorem a2N (h:k≤i):Y1 c new f l i x k=l.take k:=by unfold Y1;rw [if_pos h]
end
theorem b2f {α:Type} {c:α→Int} {l:List α} {i:Nat} {f:α→α→Prop} (h:Cut c l i) (hr:M4 f l) (hf:∀a b,f a b→¬c a<0→0<c b):∀k y,i<k→l[k]?=some y→0<c y:=by
 intro k y hk hy
 obtain⟨hl,rfl⟩:=List.getElem?_eq_some_iff.1 hy
 obtain⟨m,rfl⟩:∃m,k=m+1:=⟨k-1,by omega⟩
 exact hf _ _ (hr m _ _ (List.getElem?_eq_getElem (by omega)) (List.getElem?_eq_getElem hl)) (h.hi m (by omega) (by omega))
theorem a6D {α:Type} {c:α→Int} {l:List α} {i k:Nat} {y:α} (h:Cut c l i) (hk:k<i) (hy:l[k]?=some y):c y<0:=by
 obtain⟨hl,rfl⟩:=List.getElem?_eq_some_iff.1 hy
 exact h.lo k hl hk
theorem b3Y {α:Type} {c:α→Int} {l:List α} {i k:Nat} {y:α} (h:Cut c l i) (hk:i≤k) (hy:l[k]?=some y):¬c y<0:=by
 obtain⟨hl,rfl⟩:=List.getElem?_eq_some_iff.1 hy
 exact h.hi k hl hk
theorem b0Q {α:Type} {c:α→Int} {new:α} {f:α→α} {l:List α} (h:Cut c l l.length):upd c new f l=l++ [f new]:=by
 rw [a8v h,List.drop_length,List.take_length]
theorem c2n {α:Type} {c:α→Int} {new:α} {f:α→α} {l:List α} {i:Nat} (h:Cut c l i):(upd c new f l).length=l.length∨(upd c new f l).length=l.length+1:=by
 by_cases hx:∃x,l[i]?=some x∧c x=0
 · obtain⟨x,hx,h0⟩:=hx
   exact .inl (a2t h hx h0 new f).2
 · exact .inr (a5f h hx new f).2.2
theorem b3V {α:Type} (c:α→Int) (l:List α) (hm:∀i j (hi:i<l.length) (hj:j<l.length),i≤j→c l[j]<0→c l[i]<0) (hl:l.length≤1000):∃i,Cut c l i:=by
 obtain⟨i,hi,_⟩:=a3w l c hl hm (fun x=>some (c x)) (fun _ _=>rfl)
 exact⟨i,hi⟩
end Go.Proofs.YtcedmbakcchkiaaGreatDoor
namespace Go.Proofs.YtcedmbakcchkiaaGreatDoor
open Go Go.Sx
open Classical
def a0u (m d:Int):Int:=(K7 m d).getD 0
def b5q (m d:Int):Bool:=(R1 m d).getD false
def b1z (d:Int):Int:=(M6 d).getD 0
set_option maxRecDepth 100000 in
theorem c2O:∀(m:Fin 64) (d:Fin 6),K7 (m.val:Int) (d.val:Int)=some (a0u m.val d.val)∧(0≤a0u m.val d.val∧a0u m.val d.val≤63∧a0u m.val d.val≠0)∧R1 (m.val:Int) (d.val:Int)=some (b5q m.val d.val)∧M6 (d.val:Int)=some (b1z d.val)∧
 ((W ((BitVec.ofInt IntKind.i64.bits (m.val:Int)&&&BitVec.ofInt IntKind.i64.bits (b1z d.val)).toNat:Int)) !=0)=b5q m.val d.val∧(W ((BitVec.ofInt IntKind.i64.bits (m.val:Int)|||BitVec.ofInt IntKind.i64.bits (b1z d.val)).toNat:Int))=a0u m.val d.val∧b1z d.val=a0u 0 d.val:=by decide+kernel
theorem a6O {m d:Int} (hm:0≤m∧m≤63) (hd:0≤d∧d≤5):K7 m d=some (a0u m d)∧(0≤a0u m d∧a0u m d≤63∧a0u m d≠0)∧R1 m d=some (b5q m d)∧M6 d=some (b1z d)∧
 ((W ((BitVec.ofInt IntKind.i64.bits m&&&BitVec.ofInt IntKind.i64.bits (b1z d)).toNat:Int)) !=0)=b5q m d∧(W ((BitVec.ofInt IntKind.i64.bits m|||BitVec.ofInt IntKind.i64.bits (b1z d)).toNat:Int))=a0u m d∧b1z d=a0u 0 d:=by
 have:=c2O ⟨m.toNat,by omega⟩ ⟨d.toNat,by omega⟩
 simp only [Int.toNat_of_nonneg hm.1,Int.toNat_of_nonneg hd.1]at this
 exact this
def a6n (c:b8) (s:a8):a8:=if c.Ballot>s.Promised then⟨s.Night,c.Ballot,s.Ballot,s.Value⟩else s
def a8G (c:b8) (s:a8):a8:=if c.Ballot≥s.Promised then⟨s.Night,c.Ballot,c.Ballot,c.Value⟩else s
def Z4 (c:b8) (h:a7):a7:=if h.Value=c.Value then⟨h.Night,h.Ballot,h.Value,a0u h.Mask c.From⟩else h
def a7l (c:b8) (b:b9):b9:=if b.Night=c.Night∧b.Ballot=c.Ballot∧b.Asked=false∧b5q b.Mask c.From=false then⟨b.Night,b.Ballot,if c.Best>b.Best then c.Value else b.Value,if c.Best>b.Best then c.Best else b.Best,a0u b.Mask c.From,qr (a0u b.Mask c.From)⟩else b
def b0Y (c:b8) (l:b6):b6:=if l.No=c.No∧l.Thing=c.Thing∧l.To=c.From then⟨l.No,l.Thing,l.To,l.From,min l.Until (max c.Until l.From)⟩else l
def A3 (c:b8):a8:=⟨c.Night,0,0,0⟩
def G3 (c:b8):a7:=⟨c.Night,c.Ballot,c.Value,0⟩
def Q3 (c:b8):b4:=⟨c.From,c.No,c.Thing,c.Start,c.Until,false⟩
inductive b9T {α:Type} (m:Option (Sum (List α×Int) Unit)) (c:α→Int) (new:α) (l:List α) (most:Nat):Prop
 |fits (i:Nat) (L:List α) (e:α) (hm:m=some (.inl (L,(i:Int)))) (he:L[i]?=some e) (hs:∀f,L.set i (f e)=upd c new f l) (hl:∀f,(upd c new f l).length≤most)
 |full (hm:m=some (.inr ())) (hl:∀f,¬(upd c new f l).length≤most)
theorem b0M {α:Type} {c:α→Int} {l:List α} {new:α} {most:Nat} {i:Nat} {pl:Option (Int×Bool)} {ins:Int→Option (List α)} (hc:Cut c l i) (hl:l.length≤most) (hp:pl=some ((i:Int),decide (∃x,l[i]?=some x∧c x=0))) (hi:ins (i:Int)=some (l.take i++new::l.drop i)):
 b9T (Option.bind pl fun(x1,x2)=>if x2=true then some (.inl (l,x1))else if((l.length:Int)==(most:Int))=true then some (.inr ())else Option.bind (ins x1) fun x=>some (.inl (x,x1))) c new l most:=by
 subst hp
 by_cases h:∃x,l[i]?=some x∧c x=0
 · obtain⟨x,hx,h0⟩:=h
   refine .fits i l x ?_ hx (fun f=>(a2t hc hx h0 new f).1) (fun f=>by rw [(a2t hc hx h0 new f).2];exact hl)
   simp only [Option.bind_some]
   rw [if_pos (decide_eq_true ⟨x,hx,h0⟩)]
 · by_cases hf:l.length=most
   · refine .full ?_ (fun f=>by rw [(a5f hc h new f).2.2];omega)
     simp only [Option.bind_some]
     rw [if_neg (by simpa using h),if_pos (by rw [hf];simp)]
   · refine .fits i _ new ?_ (a5f hc h new id).1 (fun f=>(a5f hc h new f).2.1) (fun f=>by rw [(a5f hc h new f).2.2];omega)
     simp only [Option.bind_some]
     rw [if_neg (by simpa using h),if_neg (by rw [beq_iff_eq];omega),hi]
     rfl
theorem b3S {me:Int} {s:b7} (h:I5 me s) (c:b8):b9T (a0A c s.Slots) (L5 c.Night) (A3 c) s.Slots 12:=by
 obtain⟨i,hi,e⟩:=b7u h (A3 c)
 have hn:s.Slots.length≤12:=by have:=h.nslots;omega
 exact b0M (ins:=fun i=>J4 s.Slots i [A3 c]) hi hn e (b0J s.Slots i (A3 c) 32 (by have:=h.nslots;omega) (by omega) hi.le)
theorem b7y {me:Int} {s:b7} (h:I5 me s) (c:b8):b9T (a0v c s.Heard) (L9 c.Ballot c.Night) (G3 c) s.Heard 60:=by
 obtain⟨i,hi,e⟩:=b6i h (G3 c)
 have hn:s.Heard.length≤60:=by have:=h.nheard;omega
 exact b0M (ins:=fun i=>I2 s.Heard i [G3 c]) hi hn e (b0J s.Heard i (G3 c) 32 (by have:=h.nheard;omega) (by omega) hi.le)
theorem b9t {me:Int} {s:b7} (h:I5 me s) (c:b8):b9T (a0H c s.Loans) (O8 c.From c.No) (Q3 c) s.Loans 60:=by
 obtain⟨i,hi,e⟩:=a7W h (Q3 c)
 have hn:s.Loans.length≤60:=by have:=h.nloans;omega
 exact b0M (ins:=fun i=>J5 s.Loans i [Q3 c]) hi hn e (b0J s.Loans i (Q3 c) 48 (by have:=h.nloans;omega) (by omega) hi.le)
theorem a5B {α:Type} {L:List α} {i:Nat} {e:α} (x:α) (h:L[i]?=some e):(L.set i x)[i]?=some x:=by
 have:=(List.getElem?_eq_some_iff.1 h).1
 simp [this]
def fits {α:Type} (l l0:List α) (most:Nat):List α×Bool:=if l.length≤most then(l,true)else(l0,false)
theorem b7t {me:Int} {s:b7} (h:I5 me s) (c:b8):R9 c s.Slots=some (fits (upd (L5 c.Night) (A3 c) (a6n c) s.Slots) s.Slots 12):=by
 unfold R9 P4 fits
 rcases b3S h c with⟨i,L,e,hm,he,hs,hl⟩|⟨hm,hl⟩
 · rw [if_pos (hl _),←hs]
   simp only [hm,Option.bind_some,u6 he,a6n]
   by_cases hb:c.Ballot>e.Promised
   · simp [hb]
   · have:=hs id
     have h2:L.set i e=L:=by
      obtain⟨hi,rfl⟩:=List.getElem?_eq_some_iff.1 he
      exact List.set_getElem_self hi
     simp [hb,h2]
 · rw [if_neg (hl _)]
   simp only [hm,Option.bind_some]
theorem N1 {α:Type} {L:List α} {i:Nat} {e:α} (he:L[i]?=some e):L.set i e=L:=by
 obtain⟨hi,rfl⟩:=List.getElem?_eq_some_iff.1 he
 exact List.set_getElem_self hi
theorem b8P {me:Int} {s:b7} (h:I5 me s) (c:b8):U4 c s.Slots=some (fits (upd (L5 c.Night) (A3 c) (a8G c) s.Slots) s.Slots 12):=by
 unfold U4 P4 fits
 rcases b3S h c with⟨i,L,e,hm,he,hs,hl⟩|⟨hm,hl⟩
 · rw [if_pos (hl _),←hs]
   simp only [hm,Option.bind_some,u6 he,a8G]
   by_cases hb:c.Ballot≥e.Promised
   · simp only [hb,decide_true,if_true,Int.toNat_natCast,u6 (a5B _ he),Option.bind_some]
     have e1:=a5B (L:=L) (⟨e.Night,c.Ballot,e.Ballot,e.Value⟩:a8) he
     have e2:=a5B (L:=L) (⟨e.Night,c.Ballot,c.Ballot,e.Value⟩:a8) he
     simp only [u6 e1,Option.bind_some,List.set_set,u6 e2]
   · simp [hb,N1 he]
 · rw [if_neg (hl _)]
   simp only [hm,Option.bind_some]
theorem b5k {me:Int} {s:b7} (h:I5 me s) {c:b8} (hc:0≤c.From∧c.From≤5):P7 c s.Heard=some (fits (upd (L9 c.Ballot c.Night) (G3 c) (Z4 c) s.Heard) s.Heard 60):=by
 unfold P7 fits
 rcases b7y h c with⟨i,L,e,hm,he,hs,hl⟩|⟨hm,hl⟩
 · rw [if_pos (hl _)]
   have hmask:0≤e.Mask∧e.Mask≤63:=by
    have hL:L=upd (L9 c.Ballot c.Night) (G3 c) id s.Heard:=by rw [←hs id];exact(N1 he).symm
    have hmem:e∈L:=List.mem_of_getElem? he
    rw [hL]at hmem
    have key:∀l:List a7,(∀x,x∈l→0≤x.Mask∧x.Mask≤63)→e∈upd (L9 c.Ballot c.Night) (G3 c) id l→0≤e.Mask∧e.Mask≤63:=by
     intro l
     induction l with
     |nil=>
      intro _ he
      simp only [upd,List.mem_singleton,id]at he
      subst he;simp [G3]
     |cons x l ih=>
      intro hx he
      unfold upd at he
      split at he
      · rcases List.mem_cons.1 he with rfl|he
        · exact hx _ List.mem_cons_self
        · exact ih (fun y hy=>hx y (List.mem_cons_of_mem _ hy)) he
      · split at he
        · exact hx _ he
        · rcases List.mem_cons.1 he with rfl|he
          · simp [G3]
          · exact hx _ he
    exact key _ (fun x hx=>(h.heard x hx).2.2.2.2) hmem
   have hw:=(a6O hmask hc).1
   rw [←hs]
   simp only [hm,Option.bind_some,u6 he,Z4]
   by_cases hb:e.Value=c.Value
   · simp [hb,hw]
   · simp [hb,N1 he]
 · rw [if_neg (hl _)]
   simp only [hm,Option.bind_some]
theorem c0H {me:Int} {s:b7} (h:I5 me s) (c:b8):V6 c s.Loans=some (fits (upd (O8 c.From c.No) (Q3 c) id s.Loans) s.Loans 60):=by
 unfold V6 fits
 rcases b9t h c with⟨i,L,e,hm,he,hs,hl⟩|⟨hm,hl⟩
 · rw [if_pos (hl _),←hs]
   simp only [hm,Option.bind_some,id,N1 he]
 · rw [if_neg (hl _)]
   simp only [hm,Option.bind_some]
theorem b1e {α:Type} {body:(Int×List α)→Option (Sum (Int×List α) (Int×List α))} (l:List α) (hl:l.length≤1000) (f:α→α)
 (h:∀(k:Nat) (v:List α) (x:α),v.length=l.length→l[k]?=some x→v[k]?=some x→body ((k:Int),v)=some (.inl (((k+1:Nat):Int),v.set k (f x))))
 (he:∀v:List α,v.length=l.length→body ((l.length:Int),v)=some (.inr ((l.length:Int),v))):l8 body (0,l)=some ((l.length:Int),l.map f):=by
 have:=a2z (body:=body) (fun k=>((k:Int),(l.take k).map f++l.drop k)) l.length (by omega) ((l.length:Int),l.map f) (fun k hk=>by
  obtain⟨x,hx⟩:=a0i hk
  have hlen:((l.take k).map f).length=k:=by simp;omega
  have hv:((l.take k).map f++l.drop k)[k]?=some x:=by
   rw [List.getElem?_append_right (by omega),hlen,Nat.sub_self,List.getElem?_drop]
   exact hx
  rw [h k _ x (by simp;omega) hx hv]
  congr 3
  rw [List.set_append_right _ _ (by omega),hlen,Nat.sub_self,b3Z hx,List.set_cons_zero,a1w hx]
  simp) (by
  rw [he _ (by simp)]
  simp)
 simpa using this
theorem c1w {me:Int} {s:b7} (h:I5 me s) (c:b8):Y8 c s.Leases=some (s.Leases.map (b0Y c)):=by
 have hl:=h.nleases
 unfold Y8
 rw [b1e s.Leases (by omega) (b0Y c) (fun k v x hv hx hvx=>by
  have hk:=(List.getElem?_eq_some_iff.1 hx).1
  have hlt:((k:Int)<(s.Leases.length:Int)):=by omega
  have hw:W ((k:Int)+1)=((k+1:Nat):Int):=W_s (by omega)
  unfold L0 b0Y
  simp only [hlt,decide_true,if_true,u6 hvx,Option.bind_some,hw,a9L,a9n,Int.toNat_natCast]
  by_cases g1:x.No=c.No<;>by_cases g2:x.Thing=c.Thing<;>by_cases g3:x.To=c.From<;>simp [g1,g2,g3,N1 hvx]) (fun v hv=>by simp [L0])]
 rfl
end Go.Proofs.YtcedmbakcchkiaaGreatDoor
namespace Go.Proofs.YtcedmbakcchkiaaGreatDoor
open Go Go.Sx
open Classical
theorem b9x {α:Type} (l:List α) (hl:l.length≤9223372036854775807) (P:α→Option Bool) (Q:α→Prop) (hP:∀x,x∈l→Ans (P x) (Q x)) {m:Option Int}
 (hm:m=Option.bind (l8 (fun(v:Int)=>if(decide (v<(l.length:Int)))=true then Option.bind (idx l v) fun e=>Option.bind (P e) fun x=>if x=true then some (.inr (.inr v))else some (.inl (W (v+1)))else some (.inr (.inl v))) 0)
  fun(e:Sum Int Int)=>match e with| .inl _=>some (-1)| .inr r=>some r):(∃(j:Nat) (x:α),l[j]?=some x∧Q x∧m=some (j:Int))∨((∀x,x∈l→¬Q x)∧m=some (-1)):=by
 have hs:=a1v (body:=fun(v:Int)=>if(decide (v<(l.length:Int)))=true then Option.bind (idx l v) fun e=>Option.bind (P e) fun x=>if x=true then some (.inr (.inr v))else some (.inl (W (v+1)))else some (.inr (.inl v)))
  l.length hl (fun i=>match l[i]? with|some x=>if Q x then some (i:Int)else none|none=>none) 0 (Nat.zero_le _) (fun i _ h2=>by
   have hlt:((i:Int)<(l.length:Int)):=by omega
   simp only [hlt,decide_true,if_true,u6 (List.getElem?_eq_getElem h2),Option.bind_some,(hP _ (List.getElem_mem h2)).eq,List.getElem?_eq_getElem h2]
   by_cases hp:Q l[i]
   · simp [hp]
   · simp [hp];exact W_s (by omega)) (by simp)
 rw [show((0:Nat):Int)=0 from rfl]at hs
 rw [hm,hs]
 by_cases hany:∃x,x∈l∧Q x
 · obtain⟨x,hx,hpx⟩:=hany
   obtain⟨i,hi,rfl⟩:=List.getElem_of_mem hx
   obtain⟨j,r,a,b,c,d⟩:=a3k (q:=fun i=>match l[i]? with|some x=>if Q x then some (i:Int)else none|none=>none) (l.length-0) 0 i (Nat.zero_le _) (by omega) (by simp [List.getElem?_eq_getElem hi,hpx])
   have hj:j<l.length:=by omega
   simp only [List.getElem?_eq_getElem hj]at c
   split at c
   · rename_i hq
     simp only [Option.some.injEq]at c
     subst c
     exact .inl ⟨j,l[j],List.getElem?_eq_getElem hj,hq,by rw [d];rfl⟩
   · cases c
 · right
   refine⟨fun x hx hq=>hany ⟨x,hx,hq⟩, ?_⟩
   rw [a2l _ _ (fun i _ h2=>by
    have hi:i<l.length:=by omega
    simp only [List.getElem?_eq_getElem hi]
    rw [if_neg (fun hq=>hany ⟨_,List.getElem_mem hi,hq⟩)])]
   rfl
theorem b4z {α:Type} {l:List α} {f:α→α} {j:Nat} {x:α} (hx:l[j]?=some x) (h:∀k y,k≠j→l[k]?=some y→f y=y):l.map f=l.set j (f x):=by
 refine List.ext_getElem? fun k=> ?_
 have hj:=(List.getElem?_eq_some_iff.1 hx).1
 rw [List.getElem?_map,List.getElem?_set]
 by_cases hk:j=k
 · subst hk;rw [if_pos rfl,if_pos hj,hx];rfl
 · rw [if_neg hk]
   cases hy:l[k]? with
   |none=>rfl
   |some y=>simp [h k y (fun e=>hk e.symm) hy]
theorem map_id {α:Type} {l:List α} {f:α→α} (h:∀x,x∈l→f x=x):l.map f=l:=by
 conv=>rhs;rw [←List.map_id l]
 exact List.map_congr_left fun x hx=>by rw [h x hx];rfl
theorem b7h {l:List b9} (h:a8l (fun a b=>a.Ballot=b.Ballot) l) {i j:Nat} {x y:b9} (hi:l[i]?=some x) (hj:l[j]?=some y) (e:x.Ballot=y.Ballot):i=j:=by
 rcases Nat.lt_trichotomy i j with hlt|he|hgt
 · exact absurd e (h j y hj x (List.mem_take_iff_getElem.2 ⟨i,by have:=(List.getElem?_eq_some_iff.1 hi).1;omega,(List.getElem?_eq_some_iff.1 hi).2⟩))
 · exact he
 · exact absurd e.symm (h i x hi y (List.mem_take_iff_getElem.2 ⟨j,by have:=(List.getElem?_eq_some_iff.1 hj).1;omega,(List.getElem?_eq_some_iff.1 hj).2⟩))
theorem b6l {me:Int} {s:b7} (h:I5 me s) {c:b8} (hc:0≤c.From∧c.From≤5):R4 c s.Bids=some (s.Bids.map (a7l c)):=by
 have hl:=h.nbids
 unfold R4
 rcases b9x s.Bids (by omega) (fun b=>S6 b c) (fun b=>b.Night=c.Night∧b.Ballot=c.Ballot) (fun b _=>Ans.ite (by simp) fun _=>Ans.ofb (by simp)) (m:=s8 s.Bids c) rfl with⟨j,x,hx,⟨q1,q2⟩,hm⟩|⟨hn,hm⟩
 · have hv:=h.bids x (List.mem_of_getElem? hx)
   have hmask:=hv.2.2.2.2.2.1
   obtain⟨mw,mb,mh,_⟩:=a6O hmask hc
   have mq:=(b3r (n:=a0u x.Mask c.From) ⟨mb.1,mb.2.1⟩).1
   have hset:s.Bids.map (a7l c)=s.Bids.set j (a7l c x):=b4z hx fun k y hk hy=>by
    unfold a7l
    rw [if_neg]
    rintro⟨_,e,_⟩
    exact hk (b7h h.ballots hy hx (by rw [e,q2]))
   have hj0:¬((j:Int)<0):=by omega
   rw [hset]
   simp only [hm,Option.bind_some,hj0,decide_false,Bool.false_eq_true,if_false,u6 hx,mh,mw,mq,Int.toNat_natCast,a7l,q1,q2,true_and]
   by_cases ha:x.Asked=true
   · simp [ha,N1 hx]
   · by_cases hh:b5q x.Mask c.From=true
     · simp [ha,hh,N1 hx]
     · have e1:=a5B (L:=s.Bids) (⟨c.Night,c.Ballot,x.Value,x.Best,a0u x.Mask c.From,x.Asked⟩:b9) hx
       have e2:=a5B (L:=s.Bids) (⟨c.Night,c.Ballot,x.Value,x.Best,a0u x.Mask c.From,qr (a0u x.Mask c.From)⟩:b9) hx
       have e3:=a5B (L:=s.Bids) (⟨c.Night,c.Ballot,x.Value,c.Best,a0u x.Mask c.From,qr (a0u x.Mask c.From)⟩:b9) hx
       have ha':x.Asked=false:=by simpa using ha
       have hh':b5q x.Mask c.From=false:=by simpa using hh
       simp only [ha',hh',Bool.false_eq_true,if_false,and_self,if_true]at e1 e2 e3⊢
       simp only [u6 e1,Option.bind_some,List.set_set,u6 e2]
       by_cases hb:c.Best>x.Best
       · simp only [hb,decide_true,if_true,u6 e3,Option.bind_some]
       · simp only [hb,decide_false,Bool.false_eq_true,if_false]
 · rw [map_id (fun x hx=>by
    unfold a7l
    rw [if_neg]
    rintro⟨a,b,_⟩
    exact hn x hx ⟨a,b⟩)]
   simp [hm]
theorem b7n {me:Int} {x:a6} (h:I5 me x.Now) (c:b8):∃(i:Nat) (L:List a8) (e:a8),W7 c x=some (L,(i:Int))∧L[i]?=some e∧e.Night=c.Night∧∀f,L.set i (f e)=upd (L5 c.Night) (A3 c) f x.Now.Slots:=by
 have hn:=h.nslots
 obtain⟨i,hi⟩:=b3V (L5 c.Night) x.Now.Slots (a4d h.rslots fun a b hab hb=>by unfold L5 at*;rw [Z5]at*;unfold a4x at hab;omega) (by omega)
 have hgt:=b2f hi h.rslots (fun a b hab ha=>by
  unfold L5 at*;unfold a4x at hab;rw [Z5]at ha
  unfold a7S;rw [if_neg (by omega),if_pos (by omega)];omega)
 have kK:∀y:a8,(L5 c.Night y<0↔y.Night<c.Night)∧(L5 c.Night y=0↔y.Night=c.Night)∧(0<L5 c.Night y↔c.Night<y.Night):=fun y=>by
  unfold L5
  refine⟨Z5,a2w, ?_⟩
  have h1:= @Z5 y.Night c.Night
  have h2:= @a2w y.Night c.Night
  omega
 have hle:=hi.le
 unfold W7
 by_cases hil:i<x.Now.Slots.length
 · obtain⟨e,he⟩:=a0i hil
   have hl:=a2z (body:=u9 c x) (fun k=>(([]:List a8),(if k≤i then(-1:Int)else(i:Int)),(k:Int),([]:List a8),([]:List a8),Y1 (L5 c.Night) (A3 c) id x.Now.Slots i e k)) x.Now.Slots.length (by omega) (([]:List a8),(i:Int),(x.Now.Slots.length:Int),([]:List a8),([]:List a8),upd (L5 c.Night) (A3 c) id x.Now.Slots) (fun k hk=>by
    obtain⟨y,hy⟩:=a0i hk
    have hlt:((k:Int)<(x.Now.Slots.length:Int)):=by omega
    have hw:W ((k:Int)+1)=((k+1:Nat):Int):=W_s (by omega)
    have hol:=a6U (c:=L5 c.Night) (new:=A3 c) (f:=id) (k:=k) he (by omega)
    obtain⟨k1,k2,k3⟩:=kK y
    unfold u9
    rcases Nat.lt_trichotomy k i with g|g|g
    · have hlo:=k1.1 (a6D hi g hy)
      rw [a8i g hy]
      have n1:¬y.Night>c.Night:=by omega
      have n2:(y.Night==c.Night)=false:=by rw [beq_eq_false_iff_ne];omega
      simp only [hlt,decide_true,if_true,show k≤i by omega,show k+1≤i by omega,show decide ((-1:Int)<0)=true from rfl,u6 hy,Option.bind_some,n1,decide_false,Bool.false_eq_true,if_false,n2,hw]
      rw [N3 (by simp;omega)]
    · subst g
      rw [he]at hy
      obtain rfl:=Option.some.inj hy
      have hhi:=b3Y hi (Nat.le_refl _) he
      rw [a9f he,a2N (Nat.le_refl _)]
      have hlen:(x.Now.Slots.take k).length=k:=by simp;omega
      have nk:¬k+1≤k:=by omega
      by_cases h0:e.Night=c.Night
      · have n1:¬e.Night>c.Night:=by omega
        simp only [hlt,decide_true,if_true,Nat.le_refl,nk,if_false,show decide ((-1:Int)<0)=true from rfl,u6 he,Option.bind_some,h0,show decide (c.Night>c.Night)=false by simp,Bool.false_eq_true,beq_self_eq_true,hw,k2.2 h0,id,hlen]
        rw [N3 (by simp;omega)]
      · have n1:e.Night>c.Night:=by omega
        have n2:(e.Night==c.Night)=false:=by rw [beq_eq_false_iff_ne];omega
        have n3:¬L5 c.Night e=0:=fun h=>h0 (k2.1 h)
        simp only [hlt,decide_true,if_true,Nat.le_refl,nk,if_false,show decide ((-1:Int)<0)=true from rfl,u6 he,Option.bind_some,n1,Bool.false_eq_true,n2,hw,n3,id,hlen]
        rw [N3 (by simp;omega),N3 (by simp;omega)]
        simp [A3]
    · have h3:=k3.1 (hgt k y g hy)
      rw [a8u g hy]
      have n0:¬((i:Int)<0):=by omega
      have n2:(y.Night==c.Night)=false:=by rw [beq_eq_false_iff_ne];omega
      simp only [hlt,decide_true,if_true,show¬k≤i by omega,show¬k+1≤i by omega,if_false,n0,decide_false,Bool.false_eq_true,u6 hy,Option.bind_some,n2,hw]
      rw [N3 (by simp;omega)]) (by
    rw [a6R hi he]
    simp [u9,show¬x.Now.Slots.length≤i by omega])
   simp only [Nat.zero_le,if_true,a2N (Nat.zero_le i),List.take_zero,show((0:Nat):Int)=0 from rfl]at hl
   rw [hl]
   have n0:¬((i:Int)<0):=by omega
   simp only [Option.bind_some,n0,decide_false,Bool.false_eq_true,if_false]
   by_cases h0:L5 c.Night e=0
   · refine⟨i,_,e,rfl, ?_,(kK e).2.1.1 h0,fun f=> ?_⟩
     · rw [←(a2t hi he h0 (A3 c) id).1]
       simp [N1 he,he]
     · rw [←(a2t hi he h0 (A3 c) id).1,←(a2t hi he h0 (A3 c) f).1,List.set_set]
   · have hne:¬∃y,x.Now.Slots[i]?=some y∧L5 c.Night y=0:=by
      rintro⟨y,hy,hy0⟩
      rw [he]at hy
      obtain rfl:=Option.some.inj hy
      exact h0 hy0
     obtain⟨p1,p2,p3⟩:=a5f hi hne (A3 c) id
     refine⟨i,_,A3 c,rfl, ?_,rfl,fun f=> ?_⟩
     · rw [←p2]
       simp only [id]
       rw [N1 p1];exact p1
     · rw [←p2,←(a5f hi hne (A3 c) f).2.1,List.set_set]
 · obtain rfl:i=x.Now.Slots.length:=by omega
   have hl:=a2z (body:=u9 c x) (fun k=>(([]:List a8),(-1:Int),(k:Int),([]:List a8),([]:List a8),x.Now.Slots.take k)) x.Now.Slots.length (by omega) (([]:List a8),(-1:Int),(x.Now.Slots.length:Int),([]:List a8),([]:List a8),x.Now.Slots) (fun k hk=>by
    obtain⟨y,hy⟩:=a0i hk
    have hlt:((k:Int)<(x.Now.Slots.length:Int)):=by omega
    have hw:W ((k:Int)+1)=((k+1:Nat):Int):=W_s (by omega)
    obtain⟨k1,k2,k3⟩:=kK y
    have hlo:=k1.1 (a6D hi hk hy)
    have n1:¬y.Night>c.Night:=by omega
    have n2:(y.Night==c.Night)=false:=by rw [beq_eq_false_iff_ne];omega
    unfold u9
    rw [a1w hy]
    simp only [hlt,decide_true,if_true,show decide ((-1:Int)<0)=true from rfl,u6 hy,Option.bind_some,n1,decide_false,Bool.false_eq_true,if_false,n2,hw]
    rw [N3 (by simp;omega)]) (by simp [u9])
   simp only [List.take_zero,show((0:Nat):Int)=0 from rfl]at hl
   rw [hl]
   simp only [Option.bind_some,show decide ((-1:Int)<0)=true from rfl,if_true]
   rw [N3 (by simp;omega)]
   refine⟨x.Now.Slots.length,_,A3 c,rfl,by simp [A3],rfl,fun f=> ?_⟩
   rw [b0Q hi]
   rw [List.set_append_right _ _ (Nat.le_refl _)]
   simp
end Go.Proofs.YtcedmbakcchkiaaGreatDoor
namespace Go.Proofs.YtcedmbakcchkiaaGreatDoor
open Go Go.Sx
open Classical
theorem c0B {me:Int} {s:b7} (h:I5 me s) (c:b8):l8 (U1 c) (0,s.Leases)=some ((s.Leases.length:Int),s.Leases.map (b0Y c)):=by
 have hl:=h.nleases
 refine b1e s.Leases (by omega) (b0Y c) (fun k v x hv hx hvx=> ?_) (fun v hv=>by simp [U1,hv])
 have hk:=(List.getElem?_eq_some_iff.1 hx).1
 have hlt:((k:Int)<(v.length:Int)):=by omega
 have hw:W ((k:Int)+1)=((k+1:Nat):Int):=W_s (by omega)
 unfold U1 b0Y
 simp only [hlt,decide_true,if_true,u6 hvx,Option.bind_some,hw,a9L,a9n,Int.toNat_natCast]
 by_cases g1:x.No=c.No<;>by_cases g2:x.Thing=c.Thing<;>by_cases g3:x.To=c.From<;>simp [g1,g2,g3,N1 hvx]
theorem b5g {me:Int} {s:b7} (h:I5 me s) {c:b8} (hc:0≤c.From∧c.From≤5):l8 (T0 c) (0,s.Bids)=some ((s.Bids.length:Int),s.Bids.map (a7l c)):=by
 have hl:=h.nbids
 refine b1e s.Bids (by omega) (a7l c) (fun k v x hv hx hvx=> ?_) (fun v hv=>by simp [T0,hv])
 have hk:=(List.getElem?_eq_some_iff.1 hx).1
 have hlt:((k:Int)<(v.length:Int)):=by omega
 have hw:W ((k:Int)+1)=((k+1:Nat):Int):=W_s (by omega)
 have hmask:=(h.bids x (List.mem_of_getElem? hx)).2.2.2.2.2.1
 obtain⟨_,mb,_,bi,ma,mo,_⟩:=a6O hmask hc
 unfold T0 a7l
 simp only [hlt,decide_true,if_true,u6 hvx,Option.bind_some,hw,Int.toNat_natCast,bi,ma,mo,b1s]
 by_cases g1:x.Night=c.Night
 · by_cases g2:x.Ballot=c.Ballot
   · by_cases g3:x.Asked=true
     · simp [g1,g2,g3,N1 hvx]
     · by_cases g4:b5q x.Mask c.From=true
       · simp [g1,g2,g3,g4,N1 hvx]
       · by_cases g5:c.Best>x.Best<;>simp [g1,g2,g3,g4,g5]
   · simp [g1,g2,N1 hvx]
 · simp [g1,N1 hvx]
theorem a1Y (b n:Int) (y:a7):(L9 b n y<0↔y.Ballot<b∨(y.Ballot=b∧y.Night<n))∧(L9 b n y=0↔y.Ballot=b∧y.Night=n):=⟨a6X,b7J⟩
theorem O3 (o n:Int) (y:b4):(O8 o n y<0↔y.Owner<o∨(y.Owner=o∧y.No<n))∧(O8 o n y=0↔y.Owner=o∧y.No=n):=⟨a6X,b7J⟩
theorem b6w {x:Int} (h1:¬x<0) (h2:¬x=0):0<x:=by omega
theorem b8W {me:Int} {s:b7} (h:I5 me s) {c:b8} (hc:0≤c.From∧c.From≤5):a4h s c=some (⟨s.Round,s.Slots,s.Bids,upd (L9 c.Ballot c.Night) (G3 c) (Z4 c) s.Heard,s.Leases,s.Loans⟩,decide ((upd (L9 c.Ballot c.Night) (G3 c) (Z4 c) s.Heard).length≤60)):=by
 have hn:=h.nheard
 obtain⟨i,hi⟩:=b3V (L9 c.Ballot c.Night) s.Heard (a4d h.rheard fun a b hab hb=>by rw [(a1Y _ _ _).1]at*;unfold a0Q at hab;omega) (by omega)
 have hgt:∀k y,i<k→s.Heard[k]?=some y→¬L9 c.Ballot c.Night y<0∧¬L9 c.Ballot c.Night y=0:=fun k y hk hy=>by
  have:=b2f hi h.rheard (f:=a0Q) (fun a b hab ha=>by
   refine b6w ?_ ?_
   · rw [(a1Y _ _ _).1]at*;unfold a0Q at hab;omega
   · rw [(a1Y _ _ _).1]at ha;rw [(a1Y _ _ _).2];unfold a0Q at hab;omega) k y hk hy
  omega
 have hbit:M6 c.From=some (b1z c.From):=(a6O (m:=0) (by omega) hc).2.2.2.1
 have hb0:b1z c.From=a0u 0 c.From:=(a6O (m:=0) (by omega) hc).2.2.2.2.2.2
 have hnew:(⟨c.Night,c.Ballot,c.Value,b1z c.From⟩:a7)=Z4 c (G3 c):=by simp [Z4,G3,hb0]
 have hle:=hi.le
 unfold a4h
 by_cases hil:i<s.Heard.length
 · obtain⟨e,he⟩:=a0i hil
   have hl:=a2z (body:=L8 s c) (fun k=>(([]:List a7),(if k≤i then false else true),(k:Int),([]:List a7),([]:List a7),([]:List a7),([]:List a7),([]:List a7),Y1 (L9 c.Ballot c.Night) (G3 c) (Z4 c) s.Heard i e k)) s.Heard.length (by omega) (([]:List a7),true,(s.Heard.length:Int),([]:List a7),([]:List a7),([]:List a7),([]:List a7),([]:List a7),upd (L9 c.Ballot c.Night) (G3 c) (Z4 c) s.Heard) (fun k hk=>by
    obtain⟨y,hy⟩:=a0i hk
    have hlt:((k:Int)<(s.Heard.length:Int)):=by omega
    have hw:W ((k:Int)+1)=((k+1:Nat):Int):=W_s (by omega)
    have hol:=a6U (c:=L9 c.Ballot c.Night) (new:=G3 c) (f:=Z4 c) (k:=k) he (by omega)
    have hmask:=(h.heard y (List.mem_of_getElem? hy)).2.2.2.2
    have mo:=(a6O hmask hc).2.2.2.2.2.1
    obtain⟨k1,k2⟩:=a1Y c.Ballot c.Night y
    unfold L8
    rcases Nat.lt_trichotomy k i with g|g|g
    · have hlo:=k1.1 (a6D hi g hy)
      rw [a8i g hy]
      simp only [hlt,decide_true,if_true,show k≤i by omega,show k+1≤i by omega,u6 hy,Option.bind_some,hw,Bool.not_false]
      have hg:((Y1 (L9 c.Ballot c.Night) (G3 c) (Z4 c) s.Heard i e k).length+([y]:List a7).length)*32≤140737488355328∧(Y1 (L9 c.Ballot c.Night) (G3 c) (Z4 c) s.Heard i e k).length+([y]:List a7).length≤9223372036854775807:=by simp;omega
      rw [N3 hg,N3 hg]
      rcases hlo with q|⟨q,q'⟩
      · have n1:(y.Ballot==c.Ballot)=false:=by rw [beq_eq_false_iff_ne];omega
        have n2:¬y.Ballot>c.Ballot:=by omega
        simp only [n1,n2,Bool.false_eq_true,if_false,decide_false]
      · have n1:(y.Night==c.Night)=false:=by rw [beq_eq_false_iff_ne];omega
        have n2:¬y.Ballot>c.Ballot:=by omega
        have n3:¬y.Night>c.Night:=by omega
        simp only [q,beq_self_eq_true,if_true,n1,n2,n3,Bool.false_eq_true,if_false,decide_false,show¬c.Ballot>c.Ballot by omega]
    · subst g
      rw [he]at hy
      obtain rfl:=Option.some.inj hy
      have hhi:=b3Y hi (Nat.le_refl _) he
      rw [a9f he,a2N (Nat.le_refl _)]
      have hlen:(s.Heard.take k).length=k:=by simp;omega
      have nk:¬k+1≤k:=by omega
      simp only [hlt,decide_true,if_true,Nat.le_refl,nk,if_false,u6 he,Option.bind_some,hw,Bool.not_false,hbit,mo]
      by_cases h0:L9 c.Ballot c.Night e=0
      · obtain⟨q1,q2⟩:=k2.1 h0
        rw [if_pos h0]
        by_cases hv:e.Value=c.Value
        · rw [N3 (by simp;omega)]
          simp [q1,q2,hv,Z4]
        · rw [N3 (by simp;omega),N3 (by simp;omega)]
          simp [q1,q2,hv,Z4]
      · rw [if_neg h0]
        rw [N3 (by simp;omega),N3 (by simp;omega),N3 (by simp;omega),N3 (by simp;omega),N3 (by simp;omega)]
        rw [k1]at hhi;rw [k2]at h0
        by_cases q:e.Ballot=c.Ballot
        · have n1:(e.Night==c.Night)=false:=by rw [beq_eq_false_iff_ne];omega
          have n3:e.Night>c.Night:=by omega
          simp [q,n1,n3,←hnew]
        · have n2:e.Ballot>c.Ballot:=by omega
          simp [q,n2,←hnew]
    · obtain⟨h3,h4⟩:=hgt k y g hy
      rw [k1]at h3;rw [k2]at h4
      rw [a8u g hy]
      have hg:((Y1 (L9 c.Ballot c.Night) (G3 c) (Z4 c) s.Heard i e k).length+([y]:List a7).length)*32≤140737488355328∧(Y1 (L9 c.Ballot c.Night) (G3 c) (Z4 c) s.Heard i e k).length+([y]:List a7).length≤9223372036854775807:=by simp;omega
      simp only [hlt,decide_true,if_true,show¬k≤i by omega,show¬k+1≤i by omega,if_false,u6 hy,Option.bind_some,hw,Bool.not_true,Bool.false_eq_true]
      rw [N3 hg]
      by_cases q:y.Ballot=c.Ballot
      · have n1:(y.Night==c.Night)=false:=by rw [beq_eq_false_iff_ne];omega
        simp only [q,n1,beq_self_eq_true,if_true,Bool.false_eq_true,if_false]
      · have n1:(y.Ballot==c.Ballot)=false:=by rw [beq_eq_false_iff_ne];omega
        simp only [n1,Bool.false_eq_true,if_false]) (by
    rw [a6R hi he]
    simp [L8,show¬s.Heard.length≤i by omega])
   simp only [Nat.zero_le,if_true,a2N (Nat.zero_le i),List.take_zero,show((0:Nat):Int)=0 from rfl]at hl
   rw [hl]
   simp only [Option.bind_some,Bool.not_true,Bool.false_eq_true,if_false]
   congr 2
   simp;omega
 · obtain rfl:i=s.Heard.length:=by omega
   have hl:=a2z (body:=L8 s c) (fun k=>(([]:List a7),false,(k:Int),([]:List a7),([]:List a7),([]:List a7),([]:List a7),([]:List a7),s.Heard.take k)) s.Heard.length (by omega) (([]:List a7),false,(s.Heard.length:Int),([]:List a7),([]:List a7),([]:List a7),([]:List a7),([]:List a7),s.Heard) (fun k hk=>by
    obtain⟨y,hy⟩:=a0i hk
    have hlt:((k:Int)<(s.Heard.length:Int)):=by omega
    have hw:W ((k:Int)+1)=((k+1:Nat):Int):=W_s (by omega)
    obtain⟨k1,k2⟩:=a1Y c.Ballot c.Night y
    have hlo:=k1.1 (a6D hi hk hy)
    unfold L8
    rw [a1w hy]
    simp only [hlt,decide_true,if_true,u6 hy,Option.bind_some,hw,Bool.not_false]
    have hg:((s.Heard.take k).length+([y]:List a7).length)*32≤140737488355328∧(s.Heard.take k).length+([y]:List a7).length≤9223372036854775807:=by simp;omega
    rw [N3 hg,N3 hg]
    rcases hlo with q|⟨q,q'⟩
    · have n1:(y.Ballot==c.Ballot)=false:=by rw [beq_eq_false_iff_ne];omega
      have n2:¬y.Ballot>c.Ballot:=by omega
      simp only [n1,n2,Bool.false_eq_true,if_false,decide_false]
    · have n1:(y.Night==c.Night)=false:=by rw [beq_eq_false_iff_ne];omega
      have n3:¬y.Night>c.Night:=by omega
      simp only [q,beq_self_eq_true,if_true,n1,n3,Bool.false_eq_true,if_false,decide_false,show¬c.Ballot>c.Ballot by omega]) (by simp [L8])
   simp only [List.take_zero,show((0:Nat):Int)=0 from rfl]at hl
   rw [hl]
   simp only [Option.bind_some,Bool.not_false,if_true,hbit]
   rw [N3 (by simp;omega),b0Q hi,←hnew]
   congr 2
   simp;omega
end Go.Proofs.YtcedmbakcchkiaaGreatDoor
namespace Go.Proofs.YtcedmbakcchkiaaGreatDoor
open Go Go.Sx
open Classical
theorem b5s {me:Int} {s:b7} (h:I5 me s) (c:b8):a2A s c=some (⟨s.Round,s.Slots,s.Bids,s.Heard,s.Leases,upd (O8 c.From c.No) (Q3 c) id s.Loans⟩,decide ((upd (O8 c.From c.No) (Q3 c) id s.Loans).length≤60)):=by
 have hn:=h.nloans
 obtain⟨i,hi⟩:=b3V (O8 c.From c.No) s.Loans (a4d h.rloans fun a b hab hb=>by rw [(O3 _ _ _).1]at*;unfold a1e at hab;omega) (by omega)
 have hgt:∀k y,i<k→s.Loans[k]?=some y→¬O8 c.From c.No y<0∧¬O8 c.From c.No y=0:=fun k y hk hy=>by
  have:=b2f hi h.rloans (f:=a1e) (fun a b hab ha=>by
   refine b6w ?_ ?_
   · rw [(O3 _ _ _).1]at*;unfold a1e at hab;omega
   · rw [(O3 _ _ _).1]at ha;rw [(O3 _ _ _).2];unfold a1e at hab;omega) k y hk hy
  omega
 have hnew:(⟨c.From,c.No,c.Thing,c.Start,c.Until,false⟩:b4)=Q3 c:=rfl
 have hle:=hi.le
 have low:∀k y (v:List b4) (b:Bool),k<i→s.Loans[k]?=some y→v.length≤100→w8 s c ([],b,(k:Int), [], [], [],v)=some (.inl ([],b,((k+1:Nat):Int), [], [], [],v++ [y])):=fun k y v b g hy hv=>by
  have hk:=(List.getElem?_eq_some_iff.1 hy).1
  have hlt:((k:Int)<(s.Loans.length:Int)):=by omega
  have hw:W ((k:Int)+1)=((k+1:Nat):Int):=W_s (by omega)
  have hlo:=(O3 c.From c.No y).1.1 (a6D hi g hy)
  have hg:(v.length+([y]:List b4).length)*48≤140737488355328∧v.length+([y]:List b4).length≤9223372036854775807:=by simp;omega
  unfold w8
  simp only [hlt,decide_true,if_true,u6 hy,Option.bind_some,hw]
  rw [N3 hg]
  rcases hlo with q|⟨q,q'⟩
  · have n1:(y.Owner==c.From)=false:=by rw [beq_eq_false_iff_ne];omega
    have n2:¬y.Owner>c.From:=by omega
    simp only [n1,n2,Bool.false_eq_true,if_false,decide_false,ite_self]
  · have n1:(y.No==c.No)=false:=by rw [beq_eq_false_iff_ne];omega
    have n3:¬y.No>c.No:=by omega
    simp only [q,beq_self_eq_true,if_true,n1,n3,Bool.false_eq_true,if_false,decide_false,show¬c.From>c.From by omega,ite_self]
 unfold a2A
 by_cases hil:i<s.Loans.length
 · obtain⟨e,he⟩:=a0i hil
   have hei:=(O3 c.From c.No e)
   by_cases h0:O8 c.From c.No e=0
   · obtain⟨q1,q2⟩:=hei.2.1 h0
     have hl:=a2z (body:=w8 s c) (fun k=>(([]:List b4),false,(k:Int),([]:List b4),([]:List b4),([]:List b4),s.Loans.take k)) i (by omega) (.inr (s,true)) (fun k hk=>by
      obtain⟨y,hy⟩:=a0i (l:=s.Loans) (i:=k) (by omega)
      rw [low k y _ false hk hy (by simp;omega),a1w hy]) (by
      have hlt:((i:Int)<(s.Loans.length:Int)):=by omega
      unfold w8
      simp [hlt,u6 he,q1,q2])
     simp only [List.take_zero,show((0:Nat):Int)=0 from rfl]at hl
     rw [hl]
     have hu:=(a2t hi he h0 (Q3 c) id)
     rw [←hu.1]
     simp only [id,N1 he,Option.bind_some]
     congr 2
     simp;omega
   · have hl:=a2z (body:=w8 s c) (fun k=>(([]:List b4),(if k≤i then false else true),(k:Int),([]:List b4),([]:List b4),([]:List b4),Y1 (O8 c.From c.No) (Q3 c) id s.Loans i e k)) s.Loans.length (by omega) (.inl (([]:List b4),true,(s.Loans.length:Int),([]:List b4),([]:List b4),([]:List b4),upd (O8 c.From c.No) (Q3 c) id s.Loans)) (fun k hk=>by
      obtain⟨y,hy⟩:=a0i hk
      have hlt:((k:Int)<(s.Loans.length:Int)):=by omega
      have hw:W ((k:Int)+1)=((k+1:Nat):Int):=W_s (by omega)
      have hol:=a6U (c:=O8 c.From c.No) (new:=Q3 c) (f:=id) (k:=k) he (by omega)
      obtain⟨k1,k2⟩:=O3 c.From c.No y
      rcases Nat.lt_trichotomy k i with g|g|g
      · rw [a8i g hy]
        simp only [show k≤i by omega,show k+1≤i by omega,if_true]
        exact low k y _ false g hy (by omega)
      · subst g
        rw [he]at hy
        obtain rfl:=Option.some.inj hy
        have hhi:=b3Y hi (Nat.le_refl _) he
        rw [a9f he,a2N (Nat.le_refl _),if_neg h0]
        have hlen:(s.Loans.take k).length=k:=by simp;omega
        have nk:¬k+1≤k:=by omega
        unfold w8
        simp only [hlt,decide_true,if_true,Nat.le_refl,nk,if_false,u6 he,Option.bind_some,hw,Bool.not_false,hnew]
        rw [N3 (by simp;omega),N3 (by simp;omega),N3 (by simp;omega)]
        rw [k1]at hhi;rw [k2]at h0
        by_cases q:e.Owner=c.From
        · have n1:(e.No==c.No)=false:=by rw [beq_eq_false_iff_ne];omega
          have n3:e.No>c.No:=by omega
          simp [q,n1,n3]
        · have n2:e.Owner>c.From:=by omega
          simp [q,n2]
      · obtain⟨h3,h4⟩:=hgt k y g hy
        rw [k1]at h3;rw [k2]at h4
        rw [a8u g hy]
        have hg:((Y1 (O8 c.From c.No) (Q3 c) id s.Loans i e k).length+([y]:List b4).length)*48≤140737488355328∧(Y1 (O8 c.From c.No) (Q3 c) id s.Loans i e k).length+([y]:List b4).length≤9223372036854775807:=by simp;omega
        unfold w8
        simp only [hlt,decide_true,if_true,show¬k≤i by omega,show¬k+1≤i by omega,if_false,u6 hy,Option.bind_some,hw,Bool.not_true,Bool.false_eq_true]
        rw [N3 hg]
        by_cases q:y.Owner=c.From
        · have n1:(y.No==c.No)=false:=by rw [beq_eq_false_iff_ne];omega
          simp only [q,n1,beq_self_eq_true,if_true,Bool.false_eq_true,if_false]
        · have n1:(y.Owner==c.From)=false:=by rw [beq_eq_false_iff_ne];omega
          simp only [n1,Bool.false_eq_true,if_false]) (by
      rw [a6R hi he]
      simp [w8,show¬s.Loans.length≤i by omega])
     simp only [Nat.zero_le,if_true,a2N (Nat.zero_le i),List.take_zero,show((0:Nat):Int)=0 from rfl]at hl
     rw [hl]
     simp only [Option.bind_some,Bool.not_true,Bool.false_eq_true,if_false]
     congr 2
     simp;omega
 · obtain rfl:i=s.Loans.length:=by omega
   have hl:=a2z (body:=w8 s c) (fun k=>(([]:List b4),false,(k:Int),([]:List b4),([]:List b4),([]:List b4),s.Loans.take k)) s.Loans.length (by omega) (.inl (([]:List b4),false,(s.Loans.length:Int),([]:List b4),([]:List b4),([]:List b4),s.Loans)) (fun k hk=>by
    obtain⟨y,hy⟩:=a0i hk
    rw [low k y _ false hk hy (by simp;omega),a1w hy]) (by simp [w8])
   simp only [List.take_zero,show((0:Nat):Int)=0 from rfl]at hl
   rw [hl]
   simp only [Option.bind_some,Bool.not_false,if_true]
   rw [N3 (by simp;omega),b0Q hi]
   simp only [hnew,id]
   congr 2
   simp;omega
noncomputable def b7Y (s:b7) (c:b8):Option b7:=
 if c.Kind=1 then(if(upd (L5 c.Night) (A3 c) (a6n c) s.Slots).length≤12 then some ⟨s.Round,upd (L5 c.Night) (A3 c) (a6n c) s.Slots,s.Bids,s.Heard,s.Leases,s.Loans⟩else none)
 else if c.Kind=2 then some ⟨s.Round,s.Slots,s.Bids.map (a7l c),s.Heard,s.Leases,s.Loans⟩
 else if c.Kind=3 then(if(upd (L5 c.Night) (A3 c) (a8G c) s.Slots).length≤12 then some ⟨s.Round,upd (L5 c.Night) (A3 c) (a8G c) s.Slots,s.Bids,s.Heard,s.Leases,s.Loans⟩else none)
 else if c.Kind=4 then(if(upd (L9 c.Ballot c.Night) (G3 c) (Z4 c) s.Heard).length≤60 then some ⟨s.Round,s.Slots,s.Bids,upd (L9 c.Ballot c.Night) (G3 c) (Z4 c) s.Heard,s.Leases,s.Loans⟩else none)
 else if c.Kind=5 then(if(upd (O8 c.From c.No) (Q3 c) id s.Loans).length≤60 then some ⟨s.Round,s.Slots,s.Bids,s.Heard,s.Leases,upd (O8 c.From c.No) (Q3 c) id s.Loans⟩else none)
 else some ⟨s.Round,s.Slots,s.Bids,s.Heard,s.Leases.map (b0Y c),s.Loans⟩
noncomputable def b1T (x:a6) (c:b8):a6×Int:=
 if H6 x then(if b0c c∧c.To=x.Me then(match b7Y x.Now c with|some s=>(⟨x.Me,s,x.Safe⟩,0)|none=>(Z0,2))else(Z0,91))else(Z0,90)
theorem a8Q (x:a6):O2 x=some (if H6 x then .inr (x.Now.Slots,x.Now.Bids,x.Now.Heard,x.Now.Leases,x.Now.Loans,x.Safe.Slots,x.Safe.Bids,x.Safe.Heard,x.Safe.Leases,x.Safe.Loans,x.Me,x.Now.Round,x.Safe.Round)else .inl 90):=by
 have e:=c1I x
 unfold Err at e
 unfold O2
 rw [e]
 by_cases h:H6 x
 · rw [if_pos h,if_pos h,b3A h.1,b3A h.2];rfl
 · rw [if_neg h,if_neg h];rfl
theorem b0c.kinds {c:b8} (h:b0c c):c.Kind=1∨c.Kind=2∨c.Kind=3∨c.Kind=4∨c.Kind=5∨c.Kind=6:=by
 rcases h.kind with h|h|h|h|h|h<;>simp [h.1]
theorem c1Y (x:a6) (c:b8):N7 x c=some (b1T x c):=by
 unfold N7 b1T
 rw [a8Q]
 by_cases h:H6 x
 · rw [if_pos h,if_pos h]
   simp only [Option.bind_some,(c0p c).eq]
   by_cases hc:b0c c
   · by_cases hto:c.To=x.Me
     · have e1:=b7t h.1 c
       have e2:=b6l h.1 hc.from_
       have e3:=b8P h.1 c
       have e4:=b5k h.1 hc.from_
       have e5:=c0H h.1 c
       have e6:=c1w h.1 c
       unfold fits at e1 e3 e4 e5
       simp only [hc,hto,and_self,if_true,decide_true,Bool.not_true,Bool.false_eq_true,if_false,bne_self_eq_false]
       rcases hc.kinds with k|k|k|k|k|k
       all_goals simp only [k,Int.reduceBEq,Bool.false_eq_true,if_false,if_true,e1,e2,e3,e4,e5,e6,Option.bind_some,b7Y,Int.reduceEq]
       · split<;>rfl
       · split<;>rfl
       · split<;>rfl
       · split<;>rfl
     · simp [hc,hto,Z0,S0]
   · simp [hc,Z0,S0]
 · rw [if_neg h,if_neg h];rfl
theorem a4k {x:a6} (h:H6 x):N9 x=some x:=by
 unfold N9
 rw [b1g h.1,b1g h.2];rfl
theorem b9W (x:a6) (c:b8):a5c x c=some (b1T x c):=by
 have e:=a8t x
 have ec:=b4y c
 unfold Err at e ec
 unfold a5c b1T
 rw [e,ec]
 by_cases h:H6 x
 · rw [if_pos h,if_pos h]
   by_cases hc:b0c c
   · by_cases hto:c.To=x.Me
     · have e2:=b5g h.1 hc.from_
       have e4:=b8W h.1 hc.from_
       have e5:=b5s h.1 c
       have e6:=c0B h.1 c
       obtain⟨i,L,s,hm,hs,hsn,hu⟩:=b7n h.1 c
       have hlen:∀f,L.length=(upd (L5 c.Night) (A3 c) f x.Now.Slots).length:=fun f=>by rw [←hu f];simp
       simp only [hc,hto,and_self,if_true,Option.bind_some,bne_self_eq_false,Bool.false_eq_true,if_false,a4k h]
       unfold a7k
       rcases hc.kinds with k|k|k|k|k|k
       all_goals simp only [k,Int.reduceBEq,Bool.false_eq_true,if_false,if_true,e2,e4,e5,e6,hm,Option.bind_some,b7Y,Int.reduceEq,u6 hs,Int.toNat_natCast]
       · have e1:L.set i ⟨s.Night,(if c.Ballot>s.Promised then c.Ballot else s.Promised),s.Ballot,s.Value⟩=upd (L5 c.Night) (A3 c) (a6n c) x.Now.Slots:=by
          rw [←hu (a6n c)]
          unfold a6n
          split<;>rfl
         rw [e1,hlen (a6n c)]
         by_cases hf:(upd (L5 c.Night) (A3 c) (a6n c) x.Now.Slots).length≤12
         · have:((upd (L5 c.Night) (A3 c) (a6n c) x.Now.Slots).length:Int)≤12:=by omega
           simp only [hf,this,decide_true,Bool.not_true,Bool.false_eq_true,if_false,if_true]
         · have:¬((upd (L5 c.Night) (A3 c) (a6n c) x.Now.Slots).length:Int)≤12:=by omega
           simp only [hf,this,decide_false,Bool.not_false,if_true,if_false];rfl
       · by_cases hb:c.Ballot≥s.Promised
         · have e1:L.set i ⟨c.Night,c.Ballot,c.Ballot,c.Value⟩=upd (L5 c.Night) (A3 c) (a8G c) x.Now.Slots:=by
            rw [←hu (a8G c)]
            unfold a8G
            rw [if_pos hb,hsn]
           simp only [hb,decide_true,if_true]
           rw [e1,hlen (a8G c)]
           by_cases hf:(upd (L5 c.Night) (A3 c) (a8G c) x.Now.Slots).length≤12
           · have:((upd (L5 c.Night) (A3 c) (a8G c) x.Now.Slots).length:Int)≤12:=by omega
             simp only [hf,this,decide_true,Option.bind_some,Bool.not_true,Bool.false_eq_true,if_false,if_true]
           · have:¬((upd (L5 c.Night) (A3 c) (a8G c) x.Now.Slots).length:Int)≤12:=by omega
             simp only [hf,this,decide_false,Option.bind_some,Bool.not_false,if_true,if_false];rfl
         · have e1:L=upd (L5 c.Night) (A3 c) (a8G c) x.Now.Slots:=by
            rw [←hu (a8G c)]
            unfold a8G
            rw [if_neg hb,N1 hs]
           simp only [hb,decide_false,Bool.false_eq_true,if_false]
           rw [←e1]
           by_cases hf:L.length≤12
           · have:(L.length:Int)≤12:=by omega
             simp only [hf,this,decide_true,Option.bind_some,Bool.not_true,Bool.false_eq_true,if_false,if_true]
           · have:¬(L.length:Int)≤12:=by omega
             simp only [hf,this,decide_false,Option.bind_some,Bool.not_false,if_true,if_false];rfl
       · by_cases hf:(upd (L9 c.Ballot c.Night) (G3 c) (Z4 c) x.Now.Heard).length≤60
         · simp only [hf,decide_true,Bool.not_true,Bool.false_eq_true,if_false,if_true]
         · simp only [hf,decide_false,Bool.not_false,if_true,if_false];rfl
       · by_cases hf:(upd (O8 c.From c.No) (Q3 c) id x.Now.Loans).length≤60
         · simp only [hf,decide_true,Bool.not_true,Bool.false_eq_true,if_false,if_true]
         · simp only [hf,decide_false,Bool.not_false,if_true,if_false];rfl
     · simp [hc,hto,Z0,S0]
   · simp [hc,Z0,S0]
 · rw [if_neg h,if_neg h];rfl
end Go.Proofs.YtcedmbakcchkiaaGreatDoor
namespace Go.Proofs.YtcedmbakcchkiaaGreatDoor
open Go Go.Sx
open Classical
def a0S (me r night value:Int):b9:=⟨night,6*(r+1)+me,value,0,0,false⟩
noncomputable def a2G (s:b7) (me night value:Int):List b9:=upd (a7f night) (a0S me s.Round night value) (fun _=>a0S me s.Round night value) s.Bids
noncomputable def a3z (x:a6) (night value:Int):a6×Int:=
 if H6 x then(if 0≤night∧night≤100000 then(if 1≤value∧value≤1000000 then(if x.Now.Round=9999∨¬(a2G x.Now x.Me night value).length≤12 then(Z0,2)else
  (⟨x.Me,⟨x.Now.Round+1,x.Now.Slots,a2G x.Now x.Me night value,x.Now.Heard,x.Now.Leases,x.Now.Loans⟩,x.Safe⟩,0))else(Z0,1))else(Z0,6))else(Z0,90)
theorem c0Q {me:Int} {s:b7} (h:I5 me s) (hr:s.Round≠9999) (night value:Int):b9T (S8 night value s.Bids me s.Round) (a7f night) (a0S me s.Round night value) s.Bids 12:=by
 have hd:=h.dep;have hro:=h.round
 have w:W (W (6*W (s.Round+1))+me)=6*(s.Round+1)+me:=by rw [a1T (z:=s.Round+1) (by omega),a1T (z:=6*(s.Round+1)) (by omega),a1T (by omega)]
 obtain⟨i,hi,e⟩:=b8Z h (a0S me s.Round night value)
 have hn:s.Bids.length≤12:=by have:=h.nbids;omega
 unfold S8
 rw [w]
 exact b0M (ins:=fun i=>K3 s.Bids i [a0S me s.Round night value]) hi hn e (b0J s.Bids i (a0S me s.Round night value) 48 (by omega) (by omega) hi.le)
theorem b7A (x:a6) (night value:Int):U6 x night value=some (a3z x night value):=by
 unfold U6 a3z
 rw [a8Q]
 by_cases h:H6 x
 · rw [if_pos h,if_pos h]
   simp only [Option.bind_some,(a4Q night).eq,(a4H value).eq]
   by_cases h1:0≤night∧night≤100000
   · by_cases h2:1≤value∧value≤1000000
     · by_cases h3:x.Now.Round=9999
       · simp [h1,h2,h3,Z0,S0]
       · have hd:=h.1.dep;have hro:=h.1.round
         have w:W (W (6*(x.Now.Round+1))+x.Me)=6*(x.Now.Round+1)+x.Me:=by rw [a1T (z:=6*(x.Now.Round+1)) (by omega),a1T (by omega)]
         have w1:W (x.Now.Round+1)=x.Now.Round+1:=a1T (by omega)
         have n3:(x.Now.Round==9999)=false:=by rw [beq_eq_false_iff_ne];exact h3
         simp only [h1,h2,and_self,decide_true,Bool.not_true,Bool.false_eq_true,if_false,if_true,n3,h3,false_or,w,w1]
         rcases c0Q h.1 h3 night value with⟨i,L,e,hm,he,hs,hl⟩|⟨hm,hl⟩
         · have hs':=hs (fun _=>a0S x.Me x.Now.Round night value)
           simp only [hm,Option.bind_some,u6 he,Int.toNat_natCast]
           have hl':(a2G x.Now x.Me night value).length≤12:=hl _
           rw [if_neg (fun hn=>hn hl')]
           unfold a2G
           rw [←hs']
           rfl
         · have hl':¬(a2G x.Now x.Me night value).length≤12:=hl _
           simp only [hm,Option.bind_some]
           rw [if_pos hl'];rfl
     · simp [h1,h2,Z0,S0]
   · simp [h1,Z0,S0]
 · rw [if_neg h,if_neg h];rfl
theorem b6a (x:a6) (night value:Int):a2B x night value=some (a3z x night value):=by
 have e0:=a8t x
 unfold Err at e0
 unfold a2B a3z
 rw [e0,(a2o night).eq,(a3Y value).eq]
 by_cases h:H6 x
 · rw [if_pos h,if_pos h]
   by_cases h1:0≤night∧night≤100000
   · by_cases h2:1≤value∧value≤1000000
     · have hd:=h.1.dep;have hro:=h.1.round
       have hn:=h.1.nbids
       have w:W (W (6*(x.Now.Round+1))+x.Me)=6*(x.Now.Round+1)+x.Me:=by rw [a1T (z:=6*(x.Now.Round+1)) (by omega),a1T (by omega)]
       have w1:W (x.Now.Round+1)=x.Now.Round+1:=a1T (by omega)
       simp only [h1,h2,and_self,decide_true,Bool.not_true,Bool.false_eq_true,if_false,if_true,Option.bind_some,bne_self_eq_false,a4k h,w1]
       obtain⟨i,hi⟩:=b3V (a7f night) x.Now.Bids (a4d h.1.rbids fun a b hab hb=>by unfold a7f at*;rw [Z5]at*;unfold a7p at hab;omega) (by omega)
       have hgt:=b2f hi h.1.rbids (fun a b hab ha=>by
        unfold a7f at*;unfold a7p at hab;rw [Z5]at ha
        unfold a7S;rw [if_neg (by omega),if_pos (by omega)];omega)
       have kK:∀y:b9,(a7f night y<0↔y.Night<night)∧(a7f night y=0↔y.Night=night)∧(0<a7f night y↔night<y.Night):=fun y=>by
        unfold a7f
        refine⟨Z5,a2w, ?_⟩
        have h1:= @Z5 y.Night night
        have h2:= @a2w y.Night night
        omega
       have hb:(⟨night,6*(x.Now.Round+1)+x.Me,value,0,0,false⟩:b9)=a0S x.Me x.Now.Round night value:=rfl
       have hle:=hi.le
       have key:∃done out,l8 (G8 x night value x) (false,0, [], [], [])=some (done,(x.Now.Bids.length:Int), [], [],out)∧out.length≤13∧(if done=true then out else out++ [a0S x.Me x.Now.Round night value])=a2G x.Now x.Me night value:=by
        by_cases hil:i<x.Now.Bids.length
        · obtain⟨e,he⟩:=a0i hil
          have hl:=a2z (body:=G8 x night value x) (fun k=>((if k≤i then false else true),(k:Int),([]:List b9),([]:List b9),Y1 (a7f night) (a0S x.Me x.Now.Round night value) (fun _=>a0S x.Me x.Now.Round night value) x.Now.Bids i e k)) x.Now.Bids.length (by omega) (true,(x.Now.Bids.length:Int),([]:List b9),([]:List b9),a2G x.Now x.Me night value) (fun k hk=>by
           obtain⟨y,hy⟩:=a0i hk
           have hlt:((k:Int)<(x.Now.Bids.length:Int)):=by omega
           have hw:W ((k:Int)+1)=((k+1:Nat):Int):=W_s (by omega)
           have hol:=a6U (c:=a7f night) (new:=a0S x.Me x.Now.Round night value) (f:=fun _=>a0S x.Me x.Now.Round night value) (k:=k) he (by omega)
           obtain⟨k1,k2,k3⟩:=kK y
           unfold G8
           rcases Nat.lt_trichotomy k i with g|g|g
           · have hlo:=k1.1 (a6D hi g hy)
             rw [a8i g hy]
             have n1:¬y.Night≥night:=by omega
             have n2:(y.Night !=night)=true:=by rw [bne_iff_ne];omega
             simp only [hlt,decide_true,if_true,show k≤i by omega,show k+1≤i by omega,u6 hy,Option.bind_some,n1,decide_false,Bool.false_eq_true,if_false,n2,hw,Bool.not_false]
             rw [N3 (by simp;omega)]
           · subst g
             rw [he]at hy
             obtain rfl:=Option.some.inj hy
             have hhi:=b3Y hi (Nat.le_refl _) he
             rw [k1]at hhi
             rw [a9f he,a2N (Nat.le_refl _)]
             have hlen:(x.Now.Bids.take k).length=k:=by simp;omega
             have nk:¬k+1≤k:=by omega
             have n1:e.Night≥night:=by omega
             simp only [hlt,decide_true,if_true,Nat.le_refl,nk,if_false,u6 he,Option.bind_some,n1,Bool.not_false,hw,w1,w,hb]
             rw [N3 (by simp;omega),N3 (by simp;omega)]
             by_cases h0:e.Night=night
             · have n2:(e.Night !=night)=false:=by rw [bne_eq_false_iff_eq];exact h0
               simp only [n2,Bool.false_eq_true,if_false,k2.2 h0,if_true]
             · have n2:(e.Night !=night)=true:=by rw [bne_iff_ne];exact h0
               have n3:¬a7f night e=0:=fun h=>h0 (k2.1 h)
               simp only [n2,if_true,n3,if_false]
               simp
           · have h3:=k3.1 (hgt k y g hy)
             rw [a8u g hy]
             have n2:(y.Night !=night)=true:=by rw [bne_iff_ne];omega
             simp only [hlt,decide_true,if_true,show¬k≤i by omega,show¬k+1≤i by omega,if_false,u6 hy,Option.bind_some,n2,hw,Bool.not_true,Bool.false_eq_true]
             rw [N3 (by simp;omega)]) (by
           rw [a6R hi he]
           simp [G8,show¬x.Now.Bids.length≤i by omega,a2G])
          simp only [Nat.zero_le,if_true,a2N (Nat.zero_le i),List.take_zero,show((0:Nat):Int)=0 from rfl]at hl
          refine⟨true,_,hl, ?_,if_pos rfl⟩
          have:=c2n (new:=a0S x.Me x.Now.Round night value) (f:=fun _=>a0S x.Me x.Now.Round night value) hi
          unfold a2G;omega
        · obtain rfl:i=x.Now.Bids.length:=by omega
          have hl:=a2z (body:=G8 x night value x) (fun k=>(false,(k:Int),([]:List b9),([]:List b9),x.Now.Bids.take k)) x.Now.Bids.length (by omega) (false,(x.Now.Bids.length:Int),([]:List b9),([]:List b9),x.Now.Bids) (fun k hk=>by
           obtain⟨y,hy⟩:=a0i hk
           have hlt:((k:Int)<(x.Now.Bids.length:Int)):=by omega
           have hw:W ((k:Int)+1)=((k+1:Nat):Int):=W_s (by omega)
           obtain⟨k1,k2,k3⟩:=kK y
           have hlo:=k1.1 (a6D hi hk hy)
           have n1:¬y.Night≥night:=by omega
           have n2:(y.Night !=night)=true:=by rw [bne_iff_ne];omega
           unfold G8
           rw [a1w hy]
           simp only [hlt,decide_true,if_true,u6 hy,Option.bind_some,n1,decide_false,Bool.false_eq_true,if_false,n2,hw,Bool.not_false]
           rw [N3 (by simp;omega)]) (by simp [G8])
          simp only [List.take_zero,show((0:Nat):Int)=0 from rfl]at hl
          refine⟨false,_,hl,by omega, ?_⟩
          unfold a2G
          rw [b0Q hi]
          rfl
       obtain⟨done,out,hl,hlen,ho⟩:=key
       rw [hl]
       simp only [Option.bind_some,w,hb]
       by_cases hr:x.Now.Round=9999
       · have hr':x.Now.Round+1>9999:=by omega
         rw [N3 (by simp;omega)]
         simp only [hr',decide_true,if_true,hr,true_or]
         cases done<;>rfl
       · have hr':¬x.Now.Round+1>9999:=by omega
         rw [N3 (by simp;omega)]
         simp only [hr',decide_false,Bool.false_eq_true,if_false,hr,false_or]
         cases done
         · simp only [Bool.false_eq_true,if_false]at ho
           rw [ho]
           simp only [Bool.not_false,if_true]
           by_cases hf:(a2G x.Now x.Me night value).length≤12
           · have:¬((a2G x.Now x.Me night value).length:Int)>12:=by omega
             simp only [hf,this,decide_false,Bool.false_eq_true,if_false,not_true_eq_false]
           · have:((a2G x.Now x.Me night value).length:Int)>12:=by omega
             simp only [hf,this,decide_true,if_true,not_false_eq_true];rfl
         · simp only [if_true]at ho
           rw [ho]
           simp only [Bool.not_true,Bool.false_eq_true,if_false]
           by_cases hf:(a2G x.Now x.Me night value).length≤12
           · have:¬((a2G x.Now x.Me night value).length:Int)>12:=by omega
             simp only [hf,this,decide_false,Bool.false_eq_true,if_false,not_true_eq_false]
           · have:((a2G x.Now x.Me night value).length:Int)>12:=by omega
             simp only [hf,this,decide_true,if_true,not_false_eq_true];rfl
     · simp [h1,h2,Z0,S0]
   · simp [h1,Z0,S0]
 · rw [if_neg h,if_neg h];rfl
def b3f (l:List b6) (y:b6):Prop:=∃o,o∈l∧o.Thing=y.Thing∧a1m o y
noncomputable def b1a (x:a6) (thing to_ from_ until_:Int):a6×Int:=
 if H6 x then(if 1≤thing∧thing≤99 then(if 0≤to_∧to_≤5 then(if 0≤from_∧from_≤144001439 then(if 0≤until_∧until_≤144001439 then
  (if thing % 6=x.Me then(if to_=x.Me then(Z0,1)else if from_>until_ then(Z0,95)else
   if b3f x.Now.Leases ⟨(x.Now.Leases.length:Int)+1,thing,to_,from_,until_⟩then(Z0,93)else if x.Now.Leases.length=40 then(Z0,2)else
   (⟨x.Me,⟨x.Now.Round,x.Now.Slots,x.Now.Bids,x.Now.Heard,x.Now.Leases++ [⟨(x.Now.Leases.length:Int)+1,thing,to_,from_,until_⟩],x.Now.Loans⟩,x.Safe⟩,0))else(Z0,92))else(Z0,95))else(Z0,95))else(Z0,1))else(Z0,1))else(Z0,90)
theorem c3v (p:a6) (h:H6 p) (y:b6):Ans (V4 ⟨p⟩ y) (b3f p.Now.Leases y):=by
 have:=h.1.nleases
 exact(a0d p.Now.Leases (by omega) (fun o=>a0f o y) (fun o=>o.Thing=y.Thing∧a1m o y) fun o _=>Ans.ite (by simp) fun _=>(c0u _ _).id).id
theorem c2j (x:a6) (thing to_ from_ until_:Int):J6 x thing to_ from_ until_=some (b1a x thing to_ from_ until_):=by
 unfold J6 b1a
 rw [a8Q]
 by_cases h:H6 x
 · rw [if_pos h,if_pos h]
   have hn:=h.1.nleases
   have hw:W ((x.Now.Leases.length:Int)+1)=(x.Now.Leases.length:Int)+1:=a1T (by omega)
   have hp:(⟨⟨x.Me,⟨x.Now.Round,x.Now.Slots,x.Now.Bids,x.Now.Heard,x.Now.Leases,x.Now.Loans⟩,⟨x.Safe.Round,x.Safe.Slots,x.Safe.Bids,x.Safe.Heard,x.Safe.Leases,x.Safe.Loans⟩⟩⟩:G7)=⟨x⟩:=rfl
   have hd:d6 thing=some (thing.tmod 6):=rfl
   simp only [Option.bind_some,(a6Z thing).eq,(a2f to_).eq,(a2k from_).eq,(a2k until_).eq,hw,hp,(c3v x h _).eq,hd]
   by_cases h1:1≤thing∧thing≤99
   · have ht:thing.tmod 6=thing % 6:=a6I (by omega)
     by_cases h2:0≤to_∧to_≤5
     · by_cases h3:0≤from_∧from_≤144001439
       · by_cases h4:0≤until_∧until_≤144001439
         · simp only [h1,h2,h3,h4,and_self,decide_true,Bool.not_true,Bool.false_eq_true,if_false,if_true,ht]
           by_cases h5:thing % 6=x.Me
           · by_cases h6:to_=x.Me
             · simp [h5,h6,Z0,S0]
             · by_cases h7:from_>until_
               · simp [h5,h6,h7,Z0,S0]
               · by_cases h8:b3f x.Now.Leases ⟨(x.Now.Leases.length:Int)+1,thing,to_,from_,until_⟩
                 · simp [h5,h6,h7,h8,Z0,S0]
                 · rw [N3 (by simp;omega)]
                   simp only [h5,h6,h7,h8,bne_self_eq_false,Bool.false_eq_true,if_false,if_true,decide_false,beq_eq_false_iff_ne.2 h6]
                   by_cases h9:x.Now.Leases.length=40
                   · rw [if_pos h9,if_pos (by rw [h9];rfl)];rfl
                   · rw [if_neg h9,if_neg (by rw [beq_iff_eq];omega)]
           · simp [h5,Z0,S0]
         · simp [h1,h2,h3,h4,Z0,S0]
       · simp [h1,h2,h3,Z0,S0]
     · simp [h1,h2,Z0,S0]
   · simp [h1,Z0,S0]
 · rw [if_neg h,if_neg h];rfl
theorem c0V (x:a6) (d:a2X):a5z x d=some (b1a x d.Thing d.To d.From d.Until):=by
 have e0:=a8t x
 unfold Err at e0
 unfold a5z b1a
 rw [e0]
 by_cases h:H6 x
 · rw [if_pos h,if_pos h]
   have hn:=h.1.nleases
   have hw:W ((x.Now.Leases.length:Int)+1)=(x.Now.Leases.length:Int)+1:=a1T (by omega)
   simp only [Option.bind_some,(a5s d.Thing).eq,(a0T d.To).eq,(Q4 d.From).eq,(Q4 d.Until).eq,a4k h,hw,bne_self_eq_false,Bool.false_eq_true,if_false]
   have hl:(b3f x.Now.Leases ⟨(x.Now.Leases.length:Int)+1,d.Thing,d.To,d.From,d.Until⟩∧l8 (R7 x d) 0=some (.inr (Z0,93)))∨(¬b3f x.Now.Leases ⟨(x.Now.Leases.length:Int)+1,d.Thing,d.To,d.From,d.Until⟩∧∃j,l8 (R7 x d) 0=some (.inl j)):=by
    have hs:=a1v (body:=R7 x d) x.Now.Leases.length (by omega) (fun i=>match x.Now.Leases[i]? with|some o=>if o.Thing=d.Thing∧a1m o ⟨(x.Now.Leases.length:Int)+1,d.Thing,d.To,d.From,d.Until⟩then some (Z0,(93:Int))else none|none=>none) 0 (Nat.zero_le _) (fun i _ h2=>by
     have hlt:((i:Int)<(x.Now.Leases.length:Int)):=by omega
     unfold R7
     simp only [hlt,decide_true,if_true,u6 (List.getElem?_eq_getElem h2),Option.bind_some,hw,(b8k _ _).eq,List.getElem?_eq_getElem h2]
     by_cases hp:x.Now.Leases[i].Thing=d.Thing∧a1m x.Now.Leases[i] ⟨(x.Now.Leases.length:Int)+1,d.Thing,d.To,d.From,d.Until⟩
     · simp only [hp,and_self,decide_true,if_true];rfl
     · simp only [hp,decide_false,Bool.false_eq_true,if_false]
       rw [W_s (by omega)]) (by simp [R7])
    rw [show((0:Nat):Int)=0 from rfl]at hs
    rw [hs]
    by_cases hany:b3f x.Now.Leases ⟨(x.Now.Leases.length:Int)+1,d.Thing,d.To,d.From,d.Until⟩
    · refine .inl ⟨hany, ?_⟩
      obtain⟨o,ho,hp⟩:=hany
      obtain⟨i,hi,rfl⟩:=List.getElem_of_mem ho
      obtain⟨j,r,a,b,c,e⟩:=a3k (q:=fun i=>match x.Now.Leases[i]? with|some o=>if o.Thing=d.Thing∧a1m o ⟨(x.Now.Leases.length:Int)+1,d.Thing,d.To,d.From,d.Until⟩then some (Z0,(93:Int))else none|none=>none) (x.Now.Leases.length-0) 0 i (Nat.zero_le _) (by omega) (by simp only [List.getElem?_eq_getElem hi];rw [if_pos hp];simp)
      have hr:r=(Z0,93):=by
       split at c
       · split at c
         · simpa using c.symm
         · cases c
       · cases c
      rw [e,hr]
    · refine .inr ⟨hany,((0+(x.Now.Leases.length-0):Nat):Int), ?_⟩
      rw [a2l _ _ (fun i _ h2=>by
       have hi:i<x.Now.Leases.length:=by omega
       simp only [List.getElem?_eq_getElem hi]
       rw [if_neg (fun hp=>hany ⟨_,List.getElem_mem hi,hp⟩)])]
   by_cases h1:1≤d.Thing∧d.Thing≤99
   · have ht:d.Thing.tmod 6=d.Thing % 6:=a6I (by omega)
     by_cases h2:0≤d.To∧d.To≤5
     · by_cases h3:0≤d.From∧d.From≤144001439
       · by_cases h4:0≤d.Until∧d.Until≤144001439
         · simp only [h1,h2,h3,h4,and_self,decide_true,Bool.not_true,Bool.false_eq_true,if_false,if_true,ht]
           by_cases h5:d.Thing % 6=x.Me
           · by_cases h6:d.To=x.Me
             · simp [h5,h6,Z0,S0]
             · by_cases h7:d.From>d.Until
               · simp [h5,h6,h7,Z0,S0]
               · rw [N3 (by simp;omega)]
                 simp only [h5,h6,h7,bne_self_eq_false,Bool.false_eq_true,if_false,if_true,decide_false,beq_eq_false_iff_ne.2 h6]
                 rcases hl with⟨h8,hl⟩|⟨h8,j,hl⟩
                 · rw [hl,if_pos h8];rfl
                 · rw [hl,if_neg h8]
                   simp only [Option.bind_some]
                   by_cases h9:x.Now.Leases.length=40
                   · rw [if_pos h9,if_pos (by rw [h9];rfl)];rfl
                   · rw [if_neg h9,if_neg (by rw [beq_iff_eq];omega)]
           · simp [h5,Z0,S0]
         · simp [h1,h2,h3,h4,Z0,S0]
       · simp [h1,h2,h3,Z0,S0]
     · simp [h1,h2,Z0,S0]
   · simp [h1,Z0,S0]
 · rw [if_neg h,if_neg h];rfl
def a7I (o n m:Int) (y:b4):b4:=if y.Owner=o∧y.No=n∧y.Back=false then⟨y.Owner,y.No,y.Thing,y.From,min y.Until (max m y.From),true⟩else y
noncomputable def a5H (x:a6) (o n m:Int):a6×Int:=
 if H6 x then(if 0≤o∧o≤5 then(if 0≤m∧m≤144001439 then(if∃y,y∈x.Now.Loans∧y.Owner=o∧y.No=n∧y.Back=false then
  (⟨x.Me,⟨x.Now.Round,x.Now.Slots,x.Now.Bids,x.Now.Heard,x.Now.Leases,x.Now.Loans.map (a7I o n m)⟩,x.Safe⟩,0)else(Z0,94))else(Z0,95))else(Z0,1))else(Z0,90)
theorem a6A {me:Int} {s:b7} (h:I5 me s) {o n:Int} {i:Nat} (hi:Cut (O8 o n) s.Loans i):∀(k:Nat) (y:b4),s.Loans[k]?=some y→y.Owner=o→y.No=n→k=i:=by
 intro k y hy ho hno
 have h0:O8 o n y=0:=(O3 o n y).2.2 ⟨ho,hno⟩
 rcases Nat.lt_trichotomy k i with g|g|g
 · have:=a6D hi g hy;omega
 · exact g
 · have:=b2f hi h.rloans (f:=a1e) (fun a b hab ha=>by
    refine b6w ?_ ?_
    · rw [(O3 _ _ _).1]at*;unfold a1e at hab;omega
    · rw [(O3 _ _ _).1]at ha;rw [(O3 _ _ _).2];unfold a1e at hab;omega) k y g hy
   omega
theorem b8B (x:a6) (o n m:Int):a0P x o n m=some (a5H x o n m):=by
 unfold a0P a5H
 rw [a8Q]
 by_cases h:H6 x
 · rw [if_pos h,if_pos h]
   simp only [Option.bind_some,(a2f o).eq,(a2k m).eq]
   by_cases h1:0≤o∧o≤5
   · by_cases h2:0≤m∧m≤144001439
     · obtain⟨i,hi,e⟩:=a7W h.1 (⟨o,n,0,0,0,false⟩:b4)
       simp only [h1,h2,and_self,decide_true,Bool.not_true,Bool.false_eq_true,if_false,if_true,e,Option.bind_some]
       have hi:Cut (O8 o n) x.Now.Loans i:=hi
       by_cases hx:∃y,x.Now.Loans[i]?=some y∧O8 o n y=0
       · obtain⟨y,hy,h0⟩:=hx
         have hex:decide (∃y,x.Now.Loans[i]?=some y∧O8 o n y=0)=true:=decide_eq_true ⟨y,hy,h0⟩
         obtain⟨q1,q2⟩:=(O3 o n y).2.1 h0
         rw [show(!decide (∃y,x.Now.Loans[i]?=some y∧O8 o n y=0))=false by rw [hex];rfl]
         simp only [Bool.false_eq_true,if_false,u6 hy,Option.bind_some]
         by_cases hb:y.Back=true
         · have hno:¬∃y,y∈x.Now.Loans∧y.Owner=o∧y.No=n∧y.Back=false:=by
            rintro⟨z,hz,z1,z2,z3⟩
            obtain⟨k,hk,rfl⟩:=List.getElem_of_mem hz
            have hki:=a6A h.1 hi k _ (List.getElem?_eq_getElem hk) z1 z2
            rw [←hki,List.getElem?_eq_getElem hk]at hy
            rw [Option.some.inj hy,hb]at z3
            cases z3
           rw [if_pos hb,if_neg hno]
           rfl
         · have hb':y.Back=false:=by simpa using hb
           have hyes:∃y,y∈x.Now.Loans∧y.Owner=o∧y.No=n∧y.Back=false:=⟨y,List.mem_of_getElem? hy,q1,q2,hb'⟩
           rw [if_neg hb,if_pos hyes]
           have hm:x.Now.Loans.map (a7I o n m)=x.Now.Loans.set i (a7I o n m y):=b4z hy fun k z hk hz=>by
            unfold a7I
            rw [if_neg]
            rintro⟨z1,z2,_⟩
            exact hk (a6A h.1 hi k z hz z1 z2)
           have e1:=a5B (L:=x.Now.Loans) (⟨y.Owner,y.No,y.Thing,y.From,min y.Until (max m y.From),y.Back⟩:b4) hy
           rw [hm]
           simp only [a9L,a9n,Int.toNat_natCast,u6 e1,Option.bind_some,List.set_set]
           unfold a7I
           rw [if_pos ⟨q1,q2,hb'⟩]
       · have hex:decide (∃y,x.Now.Loans[i]?=some y∧O8 o n y=0)=false:=decide_eq_false hx
         rw [show(!decide (∃y,x.Now.Loans[i]?=some y∧O8 o n y=0))=true by rw [hex];rfl]
         have hno:¬∃y,y∈x.Now.Loans∧y.Owner=o∧y.No=n∧y.Back=false:=by
          rintro⟨z,hz,z1,z2,z3⟩
          obtain⟨k,hk,rfl⟩:=List.getElem_of_mem hz
          have hki:=a6A h.1 hi k _ (List.getElem?_eq_getElem hk) z1 z2
          exact hx ⟨_,by rw [←hki];exact List.getElem?_eq_getElem hk,(O3 o n _).2.2 ⟨z1,z2⟩⟩
         simp only [if_true]
         rw [if_neg hno]
         rfl
     · simp [h1,h2,Z0,S0]
   · simp [h1,Z0,S0]
 · rw [if_neg h,if_neg h];rfl
theorem b7l (x:a6) (l:Int×Int×Int):a3a x l=some (a5H x l.1 l.2.1 l.2.2):=by
 have e0:=a8t x
 unfold Err at e0
 obtain⟨o,n,m⟩:=l
 unfold a3a a5H
 rw [e0]
 by_cases h:H6 x
 · rw [if_pos h,if_pos h]
   have hn:=h.1.nloans
   simp only [Option.bind_some,(a0T o).eq,(Q4 m).eq,a4k h,bne_self_eq_false,Bool.false_eq_true,if_false]
   by_cases h1:0≤o∧o≤5
   · by_cases h2:0≤m∧m≤144001439
     · simp only [h1,h2,and_self,decide_true,Bool.not_true,Bool.false_eq_true,if_false,if_true]
       obtain⟨i,hi,_⟩:=a7W h.1 (⟨o,n,0,0,0,false⟩:b4)
       have hi:Cut (O8 o n) x.Now.Loans i:=hi
       let R:Nat→Option (a6×Int):=fun k=>match x.Now.Loans[k]? with|some y=>if y.Owner=o∧y.No=n∧y.Back=false then some (⟨x.Me,⟨x.Now.Round,x.Now.Slots,x.Now.Bids,x.Now.Heard,x.Now.Leases,x.Now.Loans.set k (a7I o n m y)⟩,x.Safe⟩,0)else none|none=>none
       have hs:=a1v (body:=Y4 (o,n,m) x) x.Now.Loans.length (by omega) R 0 (Nat.zero_le _) (fun k _ h2=>by
        obtain⟨y,hy⟩:=a0i h2
        have hlt:((k:Int)<(x.Now.Loans.length:Int)):=by omega
        have hR:R k=if y.Owner=o∧y.No=n∧y.Back=false then some (⟨x.Me,⟨x.Now.Round,x.Now.Slots,x.Now.Bids,x.Now.Heard,x.Now.Leases,x.Now.Loans.set k (a7I o n m y)⟩,x.Safe⟩,0)else none:=by
         show(match x.Now.Loans[k]? with|some y=>if y.Owner=o∧y.No=n∧y.Back=false then some ((⟨x.Me,⟨x.Now.Round,x.Now.Slots,x.Now.Bids,x.Now.Heard,x.Now.Leases,x.Now.Loans.set k (a7I o n m y)⟩,x.Safe⟩:a6),(0:Int))else none|none=>none)=_
         rw [hy]
        rw [hR]
        unfold Y4
        simp only [hlt,decide_true,if_true,u6 hy,Option.bind_some,a9L,a9n,Int.toNat_natCast,W_s (show k<9223372036854775807 by omega)]
        by_cases g1:y.Owner=o
        · by_cases g2:y.No=n
          · by_cases g3:y.Back=true
            · simp [g1,g2,g3]
            · have g3':y.Back=false:=by simpa using g3
              simp [g1,g2,g3',a7I]
          · simp [g1,g2]
        · simp [g1]) (by simp [Y4])
       rw [show((0:Nat):Int)=0 from rfl]at hs
       rw [hs]
       by_cases hx:∃y,y∈x.Now.Loans∧y.Owner=o∧y.No=n∧y.Back=false
       · rw [if_pos hx]
         obtain⟨y,hy,q1,q2,q3⟩:=hx
         obtain⟨k,hk,rfl⟩:=List.getElem_of_mem hy
         have hRk:R k≠none:=by
          show(match x.Now.Loans[k]? with|some y=>if y.Owner=o∧y.No=n∧y.Back=false then some ((⟨x.Me,⟨x.Now.Round,x.Now.Slots,x.Now.Bids,x.Now.Heard,x.Now.Leases,x.Now.Loans.set k (a7I o n m y)⟩,x.Safe⟩:a6),(0:Int))else none|none=>none)≠none
          rw [List.getElem?_eq_getElem hk]
          simp [q1,q2,q3]
         obtain⟨j,r,a,b,c,e⟩:=a3k (q:=R) (x.Now.Loans.length-0) 0 k (Nat.zero_le _) (by omega) hRk
         rw [e]
         have hj:j<x.Now.Loans.length:=by omega
         have c:(match x.Now.Loans[j]? with|some y=>if y.Owner=o∧y.No=n∧y.Back=false then some ((⟨x.Me,⟨x.Now.Round,x.Now.Slots,x.Now.Bids,x.Now.Heard,x.Now.Leases,x.Now.Loans.set j (a7I o n m y)⟩,x.Safe⟩:a6),(0:Int))else none|none=>none)=some r:=c
         rw [List.getElem?_eq_getElem hj]at c
         simp only at c
         split at c
         · rename_i hq
           have hm:x.Now.Loans.map (a7I o n m)=x.Now.Loans.set j (a7I o n m x.Now.Loans[j]):=b4z (List.getElem?_eq_getElem hj) fun k z hk hz=>by
            unfold a7I
            rw [if_neg]
            rintro⟨z1,z2,_⟩
            have e1:=a6A h.1 hi k z hz z1 z2
            have e2:=a6A h.1 hi j _ (List.getElem?_eq_getElem hj) hq.1 hq.2.1
            exact hk (e1.trans e2.symm)
           rw [hm]
           simp only [Option.bind_some]
           exact c.symm
         · cases c
       · rw [if_neg hx,a2l _ _ (fun k _ h2=>by
          have hk:k<x.Now.Loans.length:=by omega
          show(match x.Now.Loans[k]? with|some y=>if y.Owner=o∧y.No=n∧y.Back=false then some ((⟨x.Me,⟨x.Now.Round,x.Now.Slots,x.Now.Bids,x.Now.Heard,x.Now.Leases,x.Now.Loans.set k (a7I o n m y)⟩,x.Safe⟩:a6),(0:Int))else none|none=>none)=none
          rw [List.getElem?_eq_getElem hk]
          simp only
          rw [if_neg (fun hq=>hx ⟨_,List.getElem_mem hk,hq⟩)])]
         rfl
     · simp [h1,h2,Z0,S0]
   · simp [h1,Z0,S0]
 · rw [if_neg h,if_neg h];rfl
end Go.Proofs.YtcedmbakcchkiaaGreatDoor
namespace Go.Proofs.YtcedmbakcchkiaaGreatDoor
open Go Go.Sx
open Classical
theorem a0j:a3W Z0.Now∧a3W Z0.Safe:=⟨c0y,c0y⟩
theorem a6y (x:a6) (n v:Int):a3W (a3z x n v).1.Now∧a3W (a3z x n v).1.Safe:=by
 unfold a3z
 split
 · rename_i h
   have hs:=h.1.short
   split
   · split
     · split
       · exact a0j
       · rename_i hf
         exact⟨⟨hs.a,by show(a2G x.Now x.Me n v).length≤_;omega,hs.c,hs.d,hs.e⟩,h.2.short⟩
     · exact a0j
   · exact a0j
 · exact a0j
theorem a9X (x:a6) (a b c d:Int):a3W (b1a x a b c d).1.Now∧a3W (b1a x a b c d).1.Safe:=by
 unfold b1a
 by_cases h:H6 x
 · have hs:=h.1.short
   have hn:=h.1.nleases
   rw [if_pos h]
   repeat' split
   all_goals first|exact a0j|exact⟨⟨hs.a,hs.b,hs.c,by simp;omega,hs.e⟩,h.2.short⟩
 · rw [if_neg h];exact a0j
theorem a7q (x:a6) (a b c:Int):a3W (a5H x a b c).1.Now∧a3W (a5H x a b c).1.Safe:=by
 unfold a5H
 by_cases h:H6 x
 · have hs:=h.1.short
   rw [if_pos h]
   repeat' split
   all_goals first|exact a0j|exact⟨⟨hs.a,hs.b,hs.c,hs.d,by simp;exact hs.e⟩,h.2.short⟩
 · rw [if_neg h];exact a0j
theorem a9T (x:a6) (c:b8):a3W (b1T x c).1.Now∧a3W (b1T x c).1.Safe:=by
 unfold b1T
 by_cases h:H6 x
 · have hs:=h.1.short
   rw [if_pos h]
   split
   · split
     · rename_i s hh
       refine⟨?_,h.2.short⟩
       unfold b7Y at hh
       split at hh
       · split at hh
         · cases hh;rename_i hf;exact⟨by show(upd _ _ _ _).length≤_;omega,hs.b,hs.c,hs.d,hs.e⟩
         · cases hh
       · split at hh
         · cases hh;exact⟨hs.a,by simp;exact hs.b,hs.c,hs.d,hs.e⟩
         · split at hh
           · split at hh
             · cases hh;rename_i hf;exact⟨by show(upd _ _ _ _).length≤_;omega,hs.b,hs.c,hs.d,hs.e⟩
             · cases hh
           · split at hh
             · split at hh
               · cases hh;rename_i hf;exact⟨hs.a,hs.b,by show(upd _ _ _ _).length≤_;omega,hs.d,hs.e⟩
               · cases hh
             · split at hh
               · split at hh
                 · cases hh;rename_i hf;exact⟨hs.a,hs.b,hs.c,hs.d,by show(upd _ _ _ _).length≤_;omega⟩
                 · cases hh
               · cases hh;exact⟨hs.a,hs.b,hs.c,by simp;exact hs.d,hs.e⟩
     · exact a0j
   · exact a0j
 · rw [if_neg h];exact a0j
end Go.Proofs.YtcedmbakcchkiaaGreatDoor
namespace Go.Proofs.YtcedmbakcchkiaaGreatDoor
open Go Go.Sx
set_option maxRecDepth 100000
def SB0:b7:=⟨0, [], [], [], [], []⟩
def SB1:b7:=⟨1, [], [⟨4,7,77,0,14,false⟩], [], [], []⟩
def SB2:b7:=⟨1, [], [⟨4,7,77,0,46,true⟩], [], [], []⟩
def SL:a6:=⟨2,⟨0, [], [], [], [⟨1,8,0,100,200⟩], []⟩,SB0⟩
theorem sn1:a9M=some (⟨1,SB1,SB0⟩,true):=by decide+kernel
theorem sn2:N7 ⟨1,SB1,SB0⟩ ⟨2,5,1,4,7,0,0,0,0,0,0⟩=some (⟨1,SB2,SB0⟩,0):=by decide+kernel
theorem sn3:a3K ⟨1,SB2,SB0⟩=some (⟨1,SB2,SB2⟩,0):=by decide+kernel
theorem sn4:a3A ⟨1,SB2,SB2⟩ 2=some ([⟨3,1,2,4,7,0,77,0,0,0,0⟩],0):=by decide+kernel
theorem sn5:a1K 2=some (⟨2,SB0,SB0⟩,0):=by decide+kernel
theorem sn6:J6 ⟨2,SB0,SB0⟩ 8 0 100 200=some (SL,0):=by decide+kernel
theorem sn7:V7 SL 8 150=some (false,0):=by decide+kernel
theorem sn8:V7 SL 8 200=some (true,0):=by decide+kernel
theorem sn9:J6 SL 8 1 150 250=some (⟨0,SB0,SB0⟩,93):=by decide+kernel
theorem sna:P3 [150,200]=some [150,200]:=by
 have:a7A [150,200]= [150,200]:=List.mergeSort_of_pairwise (by simp)
 unfold P3
 rw [this];rfl
theorem snb:a0y SL=some (some ⟨SL⟩,0):=by decide+kernel
theorem snc:l8 (a2m 8 150 ⟨SL⟩) (0, [150])=some (1, [150,200]):=by decide+kernel
theorem snd:(Option.bind (l8 (a2g 8 150 250 ⟨SL⟩ [150,200]) 0) fun e=>match e with| .inl _=>some ((0:Int),(3:Int))| .inr r=>some r)=some (200,0):=by decide+kernel
theorem sne:w6 8=some true:=by decide+kernel
theorem snf:d8 150=some true:=by decide+kernel
theorem sng:d8 250=some true:=by decide+kernel
theorem snh:a0B SL 8 150 250=some (200,0):=by
 unfold a0B
 rw [snb]
 have h2:((SL.Me !=SL.Me)=true)=False:=by simp
 simp only [Option.bind_some,b8X,sne,snf,sng,snc,sna,show((0:Int) !=0)=false from rfl,Bool.false_eq_true,if_false,Bool.not_true,d6,show((8:Int).tmod 6 !=SL.Me)=false from rfl,show decide ((150:Int)>250)=false from rfl]
 exact snd
theorem sni:a1M SB1=some (⟨#[114,111,117,110,100,32,49,10,98,105,100,32,52,32,55,32,55,55,32,48,32,49,52,32,48,10]⟩,0):=by decide+kernel
theorem snj:a0N [⟨3,1,2,4,7,0,77,0,0,0,0⟩] [⟨3,1,2,4,7,0,77,0,0,0,0⟩]=some true:=by decide+kernel
theorem c1A:a5t=some true:=by
 unfold a5t
 rw [sn1,Option.bind_some]
 dsimp only
 rw [sn2,Option.bind_some]
 dsimp only
 rw [sn3,Option.bind_some]
 dsimp only
 rw [sn4,Option.bind_some]
 dsimp only
 rw [if_neg (by decide),if_neg (by decide),if_neg (by decide),if_neg (by decide),if_neg (by decide),if_neg (by decide)]
 rw [show idx SB1.Bids 0=some ⟨4,7,77,0,14,false⟩ from rfl,Option.bind_some,if_pos (by decide)]
 rw [show idx SB2.Bids 0=some ⟨4,7,77,0,46,true⟩ from rfl,Option.bind_some]
 rw [snj,Option.bind_some,sn5,Option.bind_some]
 dsimp only
 rw [sn6,Option.bind_some]
 dsimp only
 rw [sn7,Option.bind_some]
 dsimp only
 rw [sn8,Option.bind_some]
 dsimp only
 rw [sn9,Option.bind_some]
 dsimp only
 rw [snh,Option.bind_some]
 dsimp only
 rw [sni,Option.bind_some]
 dsimp only
 rw [if_pos (by decide),if_pos (by decide),if_pos (by decide),if_pos (by decide),if_pos (by decide),if_pos (by decide),if_pos (by decide),if_pos (by decide),if_pos (by decide),if_pos (by decide),if_pos (by decide),if_pos (by decide)]
 rw [beq_self_eq_true]
end Go.Proofs.YtcedmbakcchkiaaGreatDoor
namespace Go.Proofs.YtcedmbakcchkiaaGreatDoor
open Go Go.Sx
open Classical
theorem b1x (x:a6) (c:b8) (a:a7V) (_:a6.G x) (_:b8.G c) (_:a7V.G a):a1I x c a=some true:=by
 have s1:=a6T _ (a6y x a.Night a.Value).1 (a6y x a.Night a.Value).2
 have s2:=a6T _ (a9X x a.Deal.Thing a.Deal.To a.Deal.From a.Deal.Until).1 (a9X x a.Deal.Thing a.Deal.To a.Deal.From a.Deal.Until).2
 have s3:=a6T _ (a7q x a.Loan.1 a.Loan.2.1 a.Loan.2.2).1 (a7q x a.Loan.1 a.Loan.2.1 a.Loan.2.2).2
 have s4:=a6T _ (a9T x c).1 (a9T x c).2
 unfold a1I
 rw [b7A,b6a,c2j,c0V,b8B,b7l,c1Y,b9W]
 simp only [Option.bind_some,s1,s2,s3,s4,beq_self_eq_true,if_true,c1A]
end Go.Proofs.YtcedmbakcchkiaaGreatDoor
