/- What may be read at the types of the statement's parameters; plain facts. -/
import Derived.Test.YtcedmbakcchkiaaGreatDoorL2
set_option linter.unusedVariables false
set_option linter.unusedSimpArgs false
namespace Go.Proofs.YtcedmbakcchkiaaGreatDoor
open Go Go.RowKit Go.Sx
def b6.G (x:b6):Prop:=InK .i64 x.Night∧InK .i64 x.Promised∧InK .i64 x.Ballot∧InK .i64 x.Value
theorem c1Z:j7 Tryz.prog 110 b6.c b6.G:=
 (j7.struct Tryz.underlying110 (t6.cons (s:=1) (j7.int Tryz.underlying3) (t6.cons (s:=1) (j7.int Tryz.underlying3) (t6.cons (s:=1) (j7.int Tryz.underlying3) (t6.last (s:=1) (j7.int Tryz.underlying3) rfl (by kernel_rfl) rfl) rfl (by kernel_rfl)) rfl (by kernel_rfl)) rfl (by kernel_rfl)) (by kernel_rfl)).iso (fun x=>(⟨x.1,x.2.1,x.2.2.1,x.2.2.2⟩:b6)) (fun _=>rfl) (fun _ h=>h)
theorem c3F:j7 Tryz.prog 22 (fun l:(List b6)=> [.lst 4 l.length (l.flatMap b6.c)]) (fun l=>(l.length*32≤reachBytes∧l.length≤maxLen∧∀y:b6,y∈l→b6.G y)):=
 j7.slice Tryz.underlying22 c1Z (by kernel_rfl) (by kernel_rfl) (fun _=>rfl) (fun _=>rfl) (by decide)
def c4.G (x:c4):Prop:=InK .i64 x.Night∧InK .i64 x.Ballot∧InK .i64 x.Value∧InK .i64 x.Best∧InK .i64 x.Mask∧True
theorem c2w:j7 Tryz.prog 108 c4.c c4.G:=
 (j7.struct Tryz.underlying108 (t6.cons (s:=1) (j7.int Tryz.underlying3) (t6.cons (s:=1) (j7.int Tryz.underlying3) (t6.cons (s:=1) (j7.int Tryz.underlying3) (t6.cons (s:=1) (j7.int Tryz.underlying3) (t6.cons (s:=1) (j7.int Tryz.underlying3) (t6.last (s:=1) (j7.bool Tryz.underlying4) rfl (by kernel_rfl) rfl) rfl (by kernel_rfl)) rfl (by kernel_rfl)) rfl (by kernel_rfl)) rfl (by kernel_rfl)) rfl (by kernel_rfl)) (by kernel_rfl)).iso (fun x=>(⟨x.1,x.2.1,x.2.2.1,x.2.2.2.1,x.2.2.2.2.1,x.2.2.2.2.2⟩:c4)) (fun _=>rfl) (fun _ h=>h)
theorem c3g:j7 Tryz.prog 23 (fun l:(List c4)=> [.lst 6 l.length (l.flatMap c4.c)]) (fun l=>(l.length*48≤reachBytes∧l.length≤maxLen∧∀y:c4,y∈l→c4.G y)):=
 j7.slice Tryz.underlying23 c2w (by kernel_rfl) (by kernel_rfl) (fun _=>rfl) (fun _=>rfl) (by decide)
def b4.G (x:b4):Prop:=InK .i64 x.Night∧InK .i64 x.Ballot∧InK .i64 x.Value∧InK .i64 x.Mask
theorem c2E:j7 Tryz.prog 149 b4.c b4.G:=
 (j7.struct Tryz.underlying149 (t6.cons (s:=1) (j7.int Tryz.underlying3) (t6.cons (s:=1) (j7.int Tryz.underlying3) (t6.cons (s:=1) (j7.int Tryz.underlying3) (t6.last (s:=1) (j7.int Tryz.underlying3) rfl (by kernel_rfl) rfl) rfl (by kernel_rfl)) rfl (by kernel_rfl)) rfl (by kernel_rfl)) (by kernel_rfl)).iso (fun x=>(⟨x.1,x.2.1,x.2.2.1,x.2.2.2⟩:b4)) (fun _=>rfl) (fun _ h=>h)
theorem c2O:j7 Tryz.prog 24 (fun l:(List b4)=> [.lst 4 l.length (l.flatMap b4.c)]) (fun l=>(l.length*32≤reachBytes∧l.length≤maxLen∧∀y:b4,y∈l→b4.G y)):=
 j7.slice Tryz.underlying24 c2E (by kernel_rfl) (by kernel_rfl) (fun _=>rfl) (fun _=>rfl) (by decide)
def a7.G (x:a7):Prop:=InK .i64 x.No∧InK .i64 x.Thing∧InK .i64 x.To∧InK .i64 x.From∧InK .i64 x.Until
theorem c2o:j7 Tryz.prog 112 a7.c a7.G:=
 (j7.struct Tryz.underlying112 (t6.cons (s:=1) (j7.int Tryz.underlying3) (t6.cons (s:=1) (j7.int Tryz.underlying3) (t6.cons (s:=1) (j7.int Tryz.underlying3) (t6.cons (s:=1) (j7.int Tryz.underlying3) (t6.last (s:=1) (j7.int Tryz.underlying3) rfl (by kernel_rfl) rfl) rfl (by kernel_rfl)) rfl (by kernel_rfl)) rfl (by kernel_rfl)) rfl (by kernel_rfl)) (by kernel_rfl)).iso (fun x=>(⟨x.1,x.2.1,x.2.2.1,x.2.2.2.1,x.2.2.2.2⟩:a7)) (fun _=>rfl) (fun _ h=>h)
theorem c3H:j7 Tryz.prog 25 (fun l:(List a7)=> [.lst 5 l.length (l.flatMap a7.c)]) (fun l=>(l.length*40≤reachBytes∧l.length≤maxLen∧∀y:a7,y∈l→a7.G y)):=
 j7.slice Tryz.underlying25 c2o (by kernel_rfl) (by kernel_rfl) (fun _=>rfl) (fun _=>rfl) (by decide)
def b9.G (x:b9):Prop:=InK .i64 x.Owner∧InK .i64 x.No∧InK .i64 x.Thing∧InK .i64 x.From∧InK .i64 x.Until∧True
theorem c2r:j7 Tryz.prog 114 b9.c b9.G:=
 (j7.struct Tryz.underlying114 (t6.cons (s:=1) (j7.int Tryz.underlying3) (t6.cons (s:=1) (j7.int Tryz.underlying3) (t6.cons (s:=1) (j7.int Tryz.underlying3) (t6.cons (s:=1) (j7.int Tryz.underlying3) (t6.cons (s:=1) (j7.int Tryz.underlying3) (t6.last (s:=1) (j7.bool Tryz.underlying4) rfl (by kernel_rfl) rfl) rfl (by kernel_rfl)) rfl (by kernel_rfl)) rfl (by kernel_rfl)) rfl (by kernel_rfl)) rfl (by kernel_rfl)) (by kernel_rfl)).iso (fun x=>(⟨x.1,x.2.1,x.2.2.1,x.2.2.2.1,x.2.2.2.2.1,x.2.2.2.2.2⟩:b9)) (fun _=>rfl) (fun _ h=>h)
theorem c3B:j7 Tryz.prog 26 (fun l:(List b9)=> [.lst 6 l.length (l.flatMap b9.c)]) (fun l=>(l.length*48≤reachBytes∧l.length≤maxLen∧∀y:b9,y∈l→b9.G y)):=
 j7.slice Tryz.underlying26 c2r (by kernel_rfl) (by kernel_rfl) (fun _=>rfl) (fun _=>rfl) (by decide)
def b5.G (x:b5):Prop:=InK .i64 x.Round∧(x.Slots.length*32≤reachBytes∧x.Slots.length≤maxLen∧∀y:b6,y∈x.Slots→b6.G y)∧(x.Bids.length*48≤reachBytes∧x.Bids.length≤maxLen∧∀y:c4,y∈x.Bids→c4.G y)∧(x.Heard.length*32≤reachBytes∧x.Heard.length≤maxLen∧∀y:b4,y∈x.Heard→b4.G y)∧(x.Leases.length*40≤reachBytes∧x.Leases.length≤maxLen∧∀y:a7,y∈x.Leases→a7.G y)∧(x.Loans.length*48≤reachBytes∧x.Loans.length≤maxLen∧∀y:b9,y∈x.Loans→b9.G y)
theorem c1K:j7 Tryz.prog 28 b5.c b5.G:=
 (j7.struct Tryz.underlying28 (t6.cons (s:=1) (j7.int Tryz.underlying3) (t6.cons (s:=1) c3F (t6.cons (s:=1) c3g (t6.cons (s:=1) c2O (t6.cons (s:=1) c3H (t6.last (s:=1) c3B rfl (by kernel_rfl) rfl) rfl (by kernel_rfl)) rfl (by kernel_rfl)) rfl (by kernel_rfl)) rfl (by kernel_rfl)) rfl (by kernel_rfl)) (by kernel_rfl)).iso (fun x=>(⟨x.1,x.2.1,x.2.2.1,x.2.2.2.1,x.2.2.2.2.1,x.2.2.2.2.2⟩:b5)) (fun _=>rfl) (fun _ h=>h)
def a6.G (x:a6):Prop:=InK .i64 x.Me∧b5.G x.Now∧b5.G x.Safe
theorem c4p:j7 Tryz.prog 30 a6.c a6.G:=
 (j7.struct Tryz.underlying30 (t6.cons (s:=1) (j7.int Tryz.underlying3) (t6.cons (s:=6) c1K (t6.last (s:=6) c1K rfl (by kernel_rfl) rfl) rfl (by kernel_rfl)) rfl (by kernel_rfl)) (by kernel_rfl)).iso (fun x=>(⟨x.1,x.2.1,x.2.2⟩:a6)) (fun _=>rfl) (fun _ h=>h)
theorem c4o:j7 Tryz.prog 77 (fun l:(List a6)=> [.lst 13 l.length (l.flatMap a6.c)]) (fun l=>(l.length*264≤reachBytes∧l.length≤maxLen∧∀y:a6,y∈l→a6.G y)):=
 j7.slice Tryz.underlying77 c4p (by kernel_rfl) (by kernel_rfl) (fun _=>rfl) (fun _=>rfl) (by decide)
theorem c3t:j7 Tryz.prog 92 (fun(x:(Int×Int))=> [DI x.1,DI x.2]) (fun x:(Int×Int)=>(InK .i64 x.1∧InK .i64 x.2)):=
 (j7.arr Tryz.underlying92 (a5F.cons (s:=1) (j7.int Tryz.underlying3) (a5F.last (s:=1) (j7.int Tryz.underlying3) rfl (by kernel_rfl) rfl) rfl (by kernel_rfl)) (by kernel_rfl)).iso (fun x=>x) (fun _=>rfl) (fun _ h=>h)
end Go.Proofs.YtcedmbakcchkiaaGreatDoor
namespace Go.Proofs.YtcedmbakcchkiaaGreatDoor
open Go Go.Sx
theorem a6N {z:Int} (h: -9223372036854775808≤z∧z≤9223372036854775807):W z=z:=b6U h
theorem W_s {k:Nat} (h:k<9223372036854775807):W ((k:Int)+1)=((k+1:Nat):Int):=c2e h
def b1e {R:Type} (q:Nat→Option R):Nat→Nat→Sum Nat R
 |k,0=> .inl k
 |k,m+1=>match q k with|none=>b1e q (k+1) m|some r=> .inr r
theorem a3O {R:Type} {body:Int→Option (Sum Int (Sum Int R))} (n:Nat) (hn:n≤9223372036854775807) (q:Nat→Option R) (k:Nat) (hk:k≤n)
 (h:∀i,k≤i→i<n→body (i:Int)=some (match q i with|none=> .inl ((i+1:Nat):Int)|some r=> .inr (.inr r)))
 (he:body (n:Int)=some (.inr (.inl (n:Int)))):
 l5 body (k:Int)=some (match b1e q k (n-k)with| .inl j=> .inl (j:Int)| .inr r=> .inr r):=by
 have key:∀(m k N:Nat),k+m=n→m<N→(∀i,k≤i→i<n→body (i:Int)=some (match q i with|none=> .inl ((i+1:Nat):Int)|some r=> .inr (.inr r)))→
  a0q body N (k:Int)=some (match b1e q k m with| .inl j=> .inl (j:Int)| .inr r=> .inr r):=by
  intro m
  induction m with
  |zero=>
   intro k N hkm hN _
   cases N with
   |zero=>omega
   |succ N=>
    have:k=n:=by omega
    subst this
    simp only [a0q,he,b1e]
  |succ m ih=>
   intro k N hkm hN hb
   cases N with
   |zero=>omega
   |succ N=>
    simp only [a0q,hb k (Nat.le_refl _) (by omega),b1e]
    cases hq:q k with
    |none=>exact ih (k+1) N (by omega) (by omega) (fun i h1 h2=>hb i (by omega) h2)
    |some r=>rfl
 exact key (n-k) k a5C (by omega) (by unfold a5C;omega) h
theorem a5K {R:Type} {q:Nat→Option R}:∀(m k:Nat),(∀i,k≤i→i<k+m→q i=none)→b1e q k m= .inl (k+m)
 |0,k,_=>rfl
 |m+1,k,h=>by
  simp only [b1e,h k (Nat.le_refl _) (by omega)]
  rw [a5K m (k+1) (fun i h1 h2=>h i (by omega) (by omega))]
  congr 1;omega
theorem a8J {R:Type} {q:Nat→Option R}:∀(m k i:Nat),k≤i→i<k+m→q i≠none→∃j r,k≤j∧j<k+m∧q j=some r∧b1e q k m= .inr r
 |0,k,i,h1,h2,_=>by omega
 |m+1,k,i,h1,h2,h3=>by
  cases hq:q k with
  |some r=>exact⟨k,r,Nat.le_refl _,by omega,hq,by simp only [b1e,hq]⟩
  |none=>
   have:k≠i:=fun e=>h3 (e▸hq)
   obtain⟨j,r,a,b,c,d⟩:=a8J m (k+1) i (by omega) (by omega) h3
   exact⟨j,r,by omega,by omega,c,by simp only [b1e,hq,d]⟩
theorem b9B {body:Int→Option (Sum Int (Sum Int Bool))} (n:Nat) (hn:n≤9223372036854775807) (q:Nat→Prop) [DecidablePred q] (k:Nat) (hk:k≤n)
 (h:∀i,k≤i→i<n→body (i:Int)=some (if q i then .inl ((i+1:Nat):Int)else .inr (.inr false)))
 (he:body (n:Int)=some (.inr (.inl (n:Int)))) (ans:Bool) (hb:ans=true↔∀i,k≤i→i<n→q i):
 (l5 body (k:Int)).bind (fun e=>match e with| .inl _=>some true| .inr r=>some r)=some ans:=by
 rw [a3O n hn (fun i=>if q i then none else some false) k hk (fun i h1 h2=>by rw [h i h1 h2];by_cases hq:q i<;>simp [hq]) he]
 by_cases hall:∀i,k≤i→i<n→q i
 · rw [a5K _ _ (fun i h1 h2=>by simp [hall i h1 (by omega)])]
   simp only [Option.bind_some,hb.2 hall]
 · have:∃i,k≤i∧i<n∧¬q i:=by
    refine Classical.byContradiction fun hn2=>hall fun i h1 h2=>Classical.byContradiction fun h3=>hn2 ⟨i,h1,h2,h3⟩
   obtain⟨i,h1,h2,h3⟩:=this
   obtain⟨j,r,a,b,c,d⟩:=a8J (q:=fun i=>if q i then none else some false) (n-k) k i h1 (by omega) (by simp [h3])
   have hr:r=false:=by
    by_cases hqj:q j
    · simp [hqj]at c
    · simpa [hqj]using c.symm
   rw [d,hr]
   have:ans=false:=by cases ans with|true=>exact absurd (hb.1 rfl) hall|false=>rfl
   simp only [Option.bind_some,this]
theorem b7n {body:Int→Option (Sum Int (Sum Int Bool))} (n:Nat) (hn:n≤9223372036854775807) (q:Nat→Prop) (k:Nat) (hk:k≤n)
 (h:∀i,k≤i→i<n→(q i∧body (i:Int)=some (.inl ((i+1:Nat):Int)))∨(¬q i∧body (i:Int)=some (.inr (.inr false))))
 (he:body (n:Int)=some (.inr (.inl (n:Int)))) (ans:Bool) (hb:ans=true↔∀i,k≤i→i<n→q i):
 (l5 body (k:Int)).bind (fun e=>match e with| .inl _=>some true| .inr r=>some r)=some ans:=by
 letI:DecidablePred q:=fun _=>Classical.propDecidable _
 exact b9B n hn q k hk (fun i h1 h2=>by rcases h i h1 h2 with⟨a,b⟩|⟨a,b⟩<;>simp only [b,a,if_true,if_false]) he ans hb
theorem b2U {α:Type} (l:List α) (hl:l.length≤9223372036854775807) (P:α→Option Bool) (p:α→Bool) (hP:∀x,x∈l→P x=some (p x)):
 (Option.bind (Option.bind (l5 (fun(v:Int)=>if(decide (v<(l.length:Int)))=true then Option.bind (idx l v) fun e=>Option.bind (P e) fun x=>if x=true then some (.inr (.inr v))else some (.inl (W (v+1)))else some (.inr (.inl v))) 0)
  fun(e:Sum Int Int)=>match e with| .inl _=>some (-1)| .inr r=>some r) fun x=>some (decide (x≥0)))=some (l.any p):=by
 have hs:=a3O (body:=fun(v:Int)=>if(decide (v<(l.length:Int)))=true then Option.bind (idx l v) fun e=>Option.bind (P e) fun x=>if x=true then some (.inr (.inr v))else some (.inl (W (v+1)))else some (.inr (.inl v)))
  l.length hl (fun i=>match l[i]? with|some x=>if p x then some (i:Int)else none|none=>none) 0 (Nat.zero_le _) (fun i _ h2=>by
   have hx:idx l (i:Int)=some l[i]:=by simp [idx,h2]
   have hlt:((i:Int)<(l.length:Int)):=by omega
   simp only [hlt,decide_true,if_true,hx,Option.bind_some,hP _ (List.getElem_mem h2),List.getElem?_eq_getElem h2]
   by_cases hp:p l[i]=true
   · simp [hp]
   · simp [hp];exact W_s (by omega)) (by simp)
 rw [show((0:Int))=((0:Nat):Int) from rfl,hs]
 by_cases hany:l.any p=true
 · rw [hany]
   obtain⟨x,hx,hpx⟩:=List.any_eq_true.1 hany
   obtain⟨i,hi,rfl⟩:=List.getElem_of_mem hx
   obtain⟨j,r,a,b,c,d⟩:=a8J (q:=fun i=>match l[i]? with|some x=>if p x then some (i:Int)else none|none=>none) (l.length-0) 0 i (Nat.zero_le _) (by omega) (by simp [List.getElem?_eq_getElem hi,hpx])
   rw [d]
   have hj:j<l.length:=by omega
   simp only [List.getElem?_eq_getElem hj]at c
   split at c
   · simp only [Option.some.injEq]at c
     subst c
     simp
   · cases c
 · rw [a5K _ _ (fun i _ h2=>by
    have hi:i<l.length:=by omega
    simp only [List.getElem?_eq_getElem hi]
    rw [if_neg]
    intro hp
    exact hany (List.any_eq_true.2 ⟨l[i],List.getElem_mem hi,hp⟩))]
   simp [Bool.not_eq_true _▸hany]
end Go.Proofs.YtcedmbakcchkiaaGreatDoor
namespace Go.Proofs.YtcedmbakcchkiaaGreatDoor
open Go Go.Sx
open Classical
def Ans (m:Option Bool) (P:Prop):Prop:=∃b,m=some b∧(b=true↔P)
theorem Ans.eq {m:Option Bool} {P:Prop} (h:Ans m P):m=some (decide P):=by
 obtain⟨b,rfl,hb⟩:=h
 congr 1
 by_cases hp:P
 · rw [hb.2 hp];simp [hp]
 · have:b=false:=by cases b with|false=>rfl|true=>exact absurd (hb.1 rfl) hp
   rw [this];simp [hp]
theorem Ans.of {P:Prop} [Decidable P]:Ans (some (decide P)) P:=⟨_,rfl,by simp⟩
theorem Ans.ofb {b:Bool} {P:Prop} (h:b=true↔P):Ans (some b) P:=⟨b,rfl,h⟩
theorem Ans.yes {P:Prop} (h:P):Ans (some true) P:=⟨_,rfl,by simp [h]⟩
theorem Ans.no {P:Prop} (h:¬P):Ans (some false) P:=⟨_,rfl,by simp [h]⟩
theorem Ans.iff {m:Option Bool} {P Q:Prop} (h:Ans m P) (e:P↔Q):Ans m Q:=by
 obtain⟨b,hm,hb⟩:=h
 exact⟨b,hm,hb.trans e⟩
theorem Ans.id {m:Option Bool} {P:Prop} (h:Ans m P):Ans (Option.bind m fun x=>some x) P:=by
 obtain⟨b,rfl,hb⟩:=h
 exact⟨b,rfl,hb⟩
theorem Ans.not {m:Option Bool} {P:Prop} (h:Ans m P):Ans (Option.bind m fun x=>some (!x)) (¬P):=by
 obtain⟨b,rfl,hb⟩:=h
 exact⟨!b,rfl,by rw [←hb];simp⟩
theorem Ans.and {m n:Option Bool} {P Q:Prop} (h:Ans m P) (k:P→Ans n Q):Ans (Option.bind m fun x=>if x=true then n else some false) (P∧Q):=by
 obtain⟨b,rfl,hb⟩:=h
 by_cases hp:P
 · obtain⟨c,rfl,hc⟩:=k hp
   exact⟨c,by simp [hb.2 hp],by simp [hp,hc]⟩
 · have:b=false:=by cases b with|false=>rfl|true=>exact absurd (hb.1 rfl) hp
   exact⟨false,by simp [this],by simp [hp]⟩
theorem Ans.nand {m n:Option Bool} {P Q:Prop} (h:Ans m P) (k:P→Ans n Q):Ans (Option.bind m fun x=>if(!x)=true then some false else n) (P∧Q):=by
 obtain⟨b,rfl,hb⟩:=h
 by_cases hp:P
 · obtain⟨c,rfl,hc⟩:=k hp
   exact⟨c,by simp [hb.2 hp],by simp [hp,hc]⟩
 · have:b=false:=by cases b with|false=>rfl|true=>exact absurd (hb.1 rfl) hp
   exact⟨false,by simp [this],by simp [hp]⟩
theorem Ans.ite {n:Option Bool} {b:Bool} {P Q:Prop} (h:b=true↔P) (k:P→Ans n Q):Ans (if b=true then n else some false) (P∧Q):=Ans.and (m:=some b) (Ans.ofb h) k
theorem Ans.ite' {n:Option Bool} {b:Bool} {P Q:Prop} (h:b=true↔¬P) (k:P→Ans n Q):Ans (if b=true then some false else n) (P∧Q):=by
 by_cases hp:P
 · obtain⟨c,rfl,hc⟩:=k hp
   have:b=false:=by cases b with|false=>rfl|true=>exact absurd hp (h.1 rfl)
   exact⟨c,by simp [this],by simp [hp,hc]⟩
 · exact⟨false,by simp [h.2 hp],by simp [hp]⟩
def jn (i:Int) (b:Bool):Option (Sum Int (Sum Int Bool)):=if b=true then some (.inl (W (i+1)))else some (.inr (.inr false))
theorem b7M (i:Int):(some (.inl (W (i+1))):Option (Sum Int (Sum Int Bool)))=jn i true:=rfl
theorem b7w (i:Int):(some (.inr (.inr false)):Option (Sum Int (Sum Int Bool)))=jn i false:=rfl
theorem b1Z (i:Int) (a b c:Bool):(if a=true then jn i b else jn i c)=jn i ((a&&b)||(!a&&c)):=by cases a<;>simp
def Rnd (i:Int) (m:Option (Sum Int (Sum Int Bool))) (P:Prop):Prop:=∃b,m=jn i b∧(b=true↔P)
theorem Rnd.go {i:Int} {P:Prop} (h:P):Rnd i (some (.inl (W (i+1)))) P:=⟨true,rfl,by simp [h]⟩
theorem Rnd.end {i:Int} {P:Prop} (h:¬P):Rnd i (some (.inr (.inr false))) P:=⟨false,rfl,by simp [h]⟩
theorem Rnd.iff {i:Int} {m:Option (Sum Int (Sum Int Bool))} {P Q:Prop} (h:Rnd i m P) (e:P↔Q):Rnd i m Q:=by
 obtain⟨b,hm,hb⟩:=h
 exact⟨b,hm,hb.trans e⟩
theorem Rnd.nand {i:Int} {m:Option Bool} {n:Option (Sum Int (Sum Int Bool))} {P Q:Prop} (h:Ans m P) (k:P→Rnd i n Q):Rnd i (Option.bind m fun x=>if(!x)=true then some (.inr (.inr false))else n) (P∧Q):=by
 obtain⟨b,rfl,hb⟩:=h
 by_cases hp:P
 · obtain⟨c,rfl,hc⟩:=k hp
   exact⟨c,by simp [hb.2 hp],by simp [hp,hc]⟩
 · have:b=false:=by cases b with|false=>rfl|true=>exact absurd (hb.1 rfl) hp
   exact⟨false,by simp [this];rfl,by simp [hp]⟩
theorem Rnd.and {i:Int} {m:Option Bool} {n:Option (Sum Int (Sum Int Bool))} {P Q:Prop} (h:Ans m P) (k:¬P→Rnd i n Q):Rnd i (Option.bind m fun x=>if x=true then some (.inr (.inr false))else n) (¬P∧Q):=by
 obtain⟨b,rfl,hb⟩:=h
 by_cases hp:P
 · exact⟨false,by simp [hb.2 hp];rfl,by simp [hp]⟩
 · obtain⟨c,rfl,hc⟩:=k hp
   have:b=false:=by cases b with|false=>rfl|true=>exact absurd (hb.1 rfl) hp
   exact⟨c,by simp [this],by simp [hp,hc]⟩
theorem Rnd.ite {i:Int} {b:Bool} {n:Option (Sum Int (Sum Int Bool))} {P Q:Prop} (h:b=true↔¬P) (k:P→Rnd i n Q):Rnd i (if b=true then some (.inr (.inr false))else n) (P∧Q):=by
 by_cases hp:P
 · obtain⟨c,rfl,hc⟩:=k hp
   have:b=false:=by cases b with|false=>rfl|true=>exact absurd hp (h.1 rfl)
   exact⟨c,by simp [this],by simp [hp,hc]⟩
 · exact⟨false,by simp [h.2 hp];rfl,by simp [hp]⟩
theorem Rnd.get {i:Int} {α:Type} {l:List α} {j:Nat} (hj:j<l.length) {n:α→Option (Sum Int (Sum Int Bool))} {P:Prop} (h:Rnd i (n l[j]) P):Rnd i (Option.bind (idx l (j:Int)) n) P:=by
 have:Sx.idx l (j:Int)=some l[j]:=by simp [Sx.idx,hj]
 rw [this];exact h
theorem b4Z {body:Int→Option (Sum Int (Sum Int Bool))} (n:Nat) (hn:n≤9223372036854775807) (q:Nat→Prop) (k:Nat) (hk:k≤n) (h:∀i:Nat,k≤i→i<n→Rnd (i:Int) (body (i:Int)) (q i))
 (he:body (n:Int)=some (.inr (.inl (n:Int)))):
 Ans ((l5 body (k:Int)).bind fun e=>match e with| .inl _=>some true| .inr r=>some r) (∀i,k≤i→i<n→q i):=by
 refine⟨decide (∀i,k≤i→i<n→q i), ?_,by simp⟩
 refine b7n n hn q k hk (fun i h1 h2=> ?_) he _ (by simp)
 obtain⟨b,hb,hq⟩:=h i h1 h2
 have hw:W ((i:Int)+1)=((i+1:Nat):Int):=W_s (by omega)
 cases b with
 |true=>exact .inl ⟨hq.1 rfl,by rw [hb];simp [jn,hw]⟩
 |false=>exact .inr ⟨fun h=>by simpa using hq.2 h,by rw [hb];rfl⟩
def Lp (m:Option (Sum Int Bool)) (P:Prop):Prop:=(P∧∃j,m=some (.inl j))∨(¬P∧m=some (.inr false))
theorem Lp.iff {m:Option (Sum Int Bool)} {P Q:Prop} (h:Lp m P) (e:P↔Q):Lp m Q:=by
 rcases h with⟨h,h'⟩|⟨h,h'⟩
 · exact .inl ⟨e.1 h,h'⟩
 · exact .inr ⟨fun q=>h (e.2 q),h'⟩
theorem Ans.loop {m:Option (Sum Int Bool)} {n:Option Bool} {P Q:Prop} (h:Lp m P) (k:P→Ans n Q):Ans (m.bind fun e=>match e with| .inl _=>n| .inr r=>some r) (P∧Q):=by
 rcases h with⟨h,j,rfl⟩|⟨h,rfl⟩
 · obtain⟨b,hb,hq⟩:=k h
   exact⟨b,hb,by simp [h,hq]⟩
 · exact⟨false,rfl,by simp [h]⟩
theorem Ans.lp {m:Option (Sum Int Bool)} {P:Prop} (h:Lp m P):Ans (m.bind fun e=>match e with| .inl _=>some true| .inr r=>some r) P:=(Ans.loop (Q:=True) h fun _=> .yes trivial).iff (by simp)
theorem a0G {body:Int→Option (Sum Int (Sum Int Bool))} (n:Nat) (hn:n≤9223372036854775807) (q:Nat→Prop) (h:∀i:Nat,i<n→Rnd (i:Int) (body (i:Int)) (q i))
 (he:body (n:Int)=some (.inr (.inl (n:Int)))):Lp (l5 body 0) (∀i,i<n→q i):=by
 by_cases hall:∀i,i<n→q i
 · have hs:=a3O (body:=body) n hn (fun _=>(none:Option Bool)) 0 (Nat.zero_le _) (fun i _ h2=>by
    obtain⟨b,hb,hq⟩:=h i h2
    rw [hb,hq.2 (hall i h2)];simp only [jn,if_true];rw [W_s (by omega)]) he
   rw [a5K _ _ (fun _ _ _=>rfl)]at hs
   exact .inl ⟨hall,_,hs⟩
 · refine .inr ⟨hall, ?_⟩
   have h2:=b4Z n hn q 0 (Nat.zero_le _) (fun i _ h2=>h i h2) he
   have h3:=h2.eq
   rw [decide_eq_false (fun h=>hall fun i hi=>h i (Nat.zero_le _) hi)]at h3
   rw [show((0:Int))=((0:Nat):Int) from rfl]
   cases hl:l5 body ((0:Nat):Int)with
   |none=>rw [hl]at h3;cases h3
   |some e=>
    rw [hl]at h3
    cases e with
    |inl x=>simp at h3
    |inr r=>simp at h3;rw [h3]
theorem Rnd.loop {j:Int} {m:Option (Sum Int Bool)} {P:Prop} (h:Lp m P):Rnd j (m.bind fun e=>match e with| .inl _=>some (.inl (W (j+1)))| .inr r=>some (.inr (.inr r))) P:=by
 rcases h with⟨h,_,rfl⟩|⟨h,rfl⟩
 · exact .go h
 · exact .end h
theorem Q9 {α:Type} (l:List α) (hl:l.length≤9223372036854775807) (P:α→Option Bool) (Q:α→Prop) (hP:∀x,x∈l→Ans (P x) (Q x)):
 Ans (Option.bind (Option.bind (l5 (fun(v:Int)=>if(decide (v<(l.length:Int)))=true then Option.bind (idx l v) fun e=>Option.bind (P e) fun x=>if x=true then some (.inr (.inr v))else some (.inl (W (v+1)))else some (.inr (.inl v))) 0)
  fun(e:Sum Int Int)=>match e with| .inl _=>some (-1)| .inr r=>some r) fun x=>some (decide (x≥0))) (∃x,x∈l∧Q x):=
 ⟨_,b2U l hl P (fun x=>decide (Q x)) (fun x hx=>(hP x hx).eq),by simp⟩
theorem b1s {α:Type} {l:List α} {most:Int} {C:Option Bool} {ok:α→Prop} (hC:l.length≤9223372036854775807→Ans C (∃x,x∈l∧¬ok x)) (hm:most≤9223372036854775807):
 Ans (if(decide ((l.length:Int)≤most))=true then Option.bind C fun x=>some (!x)else some false) ((l.length:Int)≤most∧∀x,x∈l→ok x):=
 Ans.ite (by simp) fun h=>(hC (by omega)).not.iff (by simp)
def I0 {α:Type} (f:α→α→Prop) (l:List α):Prop:=∀i a b,l[i]?=some a→l[i+1]?=some b→f a b
theorem a9P {α:Type} (l:List α) (hl:l.length≤9223372036854775807) (cmp:α→α→Option Int) (c:α→α→Int) (f:α→α→Prop) (hc:∀a b,cmp a b=some (c a b)) (hf:∀a b,c a b<0↔f a b):
 Ans (Option.bind (l5 (fun(i:Int)=>if(decide (i<(l.length:Int)))=true then Option.bind (idx l (W (i-1))) fun a=>Option.bind (idx l i) fun b=>Option.bind (cmp a b) fun x=>
  if(decide (x≥0))=true then some (.inr (.inr false))else some (.inl (W (i+1)))else some (.inr (.inl i))) 1) fun(e:Sum Int Bool)=>match e with| .inl _=>some true| .inr r=>some r) (I0 f l):=by
 by_cases h0:l.length=0
 · refine⟨true, ?_,by simp;intro i a b h1 _;rw [List.getElem?_eq_none (by omega)]at h1;cases h1⟩
   have:=a3O (R:=Bool) (body:=fun(i:Int)=>if(decide (i<(l.length:Int)))=true then Option.bind (idx l (W (i-1))) fun a=>Option.bind (idx l i) fun b=>Option.bind (cmp a b) fun x=>
    if(decide (x≥0))=true then some (.inr (.inr false))else some (.inl (W (i+1)))else some (.inr (.inl i))) 1 (by omega) (fun _=>none) 1 (Nat.le_refl _) (fun i h1 h2=>by omega) (by simp [h0])
   exact(congrArg (fun o=>Option.bind o _) this).trans rfl
 · refine(b4Z (body:=fun(i:Int)=>if(decide (i<(l.length:Int)))=true then Option.bind (idx l (W (i-1))) fun a=>Option.bind (idx l i) fun b=>Option.bind (cmp a b) fun x=>
    if(decide (x≥0))=true then some (.inr (.inr false))else some (.inl (W (i+1)))else some (.inr (.inl i))) l.length hl (fun i=>∀a b,l[i-1]?=some a→l[i]?=some b→f a b) 1 (by omega) (fun i h1 h2=> ?_) (by simp)).iff ?_
   · have e1:W ((i:Int)-1)=((i-1:Nat):Int):=by rw [a6N (by omega)];omega
     have e2:idx l ((i-1:Nat):Int)=some (l[i-1]'(by omega)):=by simp [idx,show i-1<l.length by omega]
     have e3:idx l ((i:Nat):Int)=some (l[i]'h2):=by simp [idx,h2]
     have hlt:((i:Int)<(l.length:Int)):=by omega
     simp only [hlt,decide_true,if_true,e1,e2,e3,Option.bind_some,hc]
     rw [List.getElem?_eq_getElem (show i-1<l.length by omega),List.getElem?_eq_getElem h2]
     refine(Rnd.ite (P:=c (l[i-1]'(by omega)) (l[i]'h2)<0) (Q:=True) (by simp) fun _=> .go trivial).iff ?_
     rw [and_true,hf]
     exact⟨fun h a b ha hb=>by cases ha;cases hb;exact h,fun h=>h _ _ rfl rfl⟩
   · constructor
     · intro h i a b ha hb'
       have:i+1<l.length:=by
        rcases Nat.lt_or_ge (i+1) l.length with h|h
        · exact h
        · rw [List.getElem?_eq_none h]at hb';cases hb'
       exact h (i+1) (by omega) this a b (by simpa using ha) hb'
     · intro h i h1 h2 a b ha hb'
       exact h (i-1) a b ha (by rw [Nat.sub_add_cancel h1];exact hb')
theorem a7m {α:Type} (l:List α) (ok:α→Prop) (f:α→α→Prop):(∀i,0≤i→i<l.length→(∀x,l[i]?=some x→ok x)∧(0<i→∀a,l[i-1]?=some a→∀b,l[i]?=some b→f a b))↔(∀x,x∈l→ok x)∧I0 f l:=by
 constructor
 · intro h
   refine⟨fun x hx=> ?_,fun i a b ha hb=> ?_⟩
   · obtain⟨i,hi,rfl⟩:=List.getElem_of_mem hx
     exact(h i (Nat.zero_le _) hi).1 _ (List.getElem?_eq_getElem hi)
   · have:i+1<l.length:=by
      rcases Nat.lt_or_ge (i+1) l.length with h|h
      · exact h
      · rw [List.getElem?_eq_none h]at hb;cases hb
     exact(h (i+1) (Nat.zero_le _) this).2 (by omega) a (by simpa using ha) b hb
 · intro⟨h1,h2⟩ i _ hi
   refine⟨fun x hx=>h1 x (List.mem_of_getElem? hx),fun h0 a ha b hb=>h2 (i-1) a b ha (by rw [Nat.sub_add_cancel h0];exact hb)⟩
theorem S2 (n lo hi:Int):Ans (e7 n lo hi) (lo≤n∧n≤hi):=Ans.ite (by simp) fun _=>Ans.ofb (by simp)
theorem a9q (n lo hi:Int):Ans (F4 n lo hi) (lo≤n∧n≤hi):=Ans.ite (by simp) fun _=>Ans.ofb (by simp)
end Go.Proofs.YtcedmbakcchkiaaGreatDoor
namespace Go.Proofs.YtcedmbakcchkiaaGreatDoor
open Go Go.Sx
open Classical
theorem a8G (n:Int):Ans (s9 n) (0≤n∧n≤5):=(S2 _ _ _).id
theorem a6d (n:Int):Ans (o4 n) (0≤n∧n≤100000):=(S2 _ _ _).id
theorem a8i (n:Int):Ans (i0 n) (1≤n∧n≤1000000):=(S2 _ _ _).id
theorem b1d (n:Int):Ans (u0 n) (6≤n∧n≤59999):=(S2 _ _ _).id
theorem a8w (n:Int):Ans (s5 n) (1≤n∧n≤99):=(S2 _ _ _).id
theorem a7d (n:Int):Ans (d6 n) (0≤n∧n≤144001439):=(S2 _ _ _).id
theorem b6x (n:Int):Ans (P3 n) (0≤n∧n≤63):=(S2 _ _ _).id
theorem a7b (n:Int):Ans (Z0 n) (0≤n∧n≤5):=(a9q _ _ _).id
theorem a2w (n:Int):Ans (S8 n) (0≤n∧n≤100000):=(a9q _ _ _).id
theorem a7f (n:Int):Ans (H3 n) (1≤n∧n≤1000000):=(a9q _ _ _).id
theorem a8P (n:Int):Ans (U6 n) (6≤n∧n≤59999):=(a9q _ _ _).id
theorem a7e (n:Int):Ans (Y9 n) (1≤n∧n≤99):=(a9q _ _ _).id
theorem a1C (n:Int):Ans (L7 n) (0≤n∧n≤144001439):=(a9q _ _ _).id
theorem b2m (n:Int):Ans (X5 n) (0≤n∧n≤63):=(a9q _ _ _).id
def qr (n:Int):Bool:=(I7 n).getD false
set_option maxRecDepth 10000 in
theorem b9f:∀n:Fin 64,G3 (n.val:Int)=some (qr (n.val:Int))∧I7 (n.val:Int)=some (qr (n.val:Int)):=by decide+kernel
theorem b1X {n:Int} (h:0≤n∧n≤63):G3 n=some (qr n)∧I7 n=some (qr n):=by
 have:=b9f ⟨n.toNat,by omega⟩
 simpa [Int.toNat_of_nonneg h.1]using this
theorem a9i {n:Int} (h:0≤n):n.tmod 6=n % 6:=Int.tmod_eq_emod_of_nonneg h
def a2x (s:b6):Prop:=(0≤s.Night∧s.Night≤100000)∧(6≤s.Promised∧s.Promised≤59999)∧((s.Ballot=0∧s.Value=0)∨((6≤s.Ballot∧s.Ballot≤s.Promised)∧(1≤s.Value∧s.Value≤1000000)))
def a6s (me r:Int) (b:c4):Prop:=(0≤b.Night∧b.Night≤100000)∧(6≤b.Ballot∧b.Ballot≤6*r+me)∧b.Ballot % 6=me∧(1≤b.Value∧b.Value≤1000000)∧(0≤b.Best∧b.Best≤b.Ballot-1)∧(0≤b.Mask∧b.Mask≤63)∧b.Asked=qr b.Mask
def a2e (h:b4):Prop:=(6≤h.Ballot∧h.Ballot≤59999)∧(0≤h.Night∧h.Night≤100000)∧(1≤h.Value∧h.Value≤1000000)∧h.Mask≠0∧(0≤h.Mask∧h.Mask≤63)
def a4K (me:Int) (l:a7):Prop:=(1≤l.Thing∧l.Thing≤99)∧l.Thing % 6=me∧(0≤l.To∧l.To≤5)∧l.To≠me∧(0≤l.From∧l.From≤144001439)∧(0≤l.Until∧l.Until≤144001439)∧l.From≤l.Until
def a4x (me:Int) (l:b9):Prop:=(0≤l.Owner∧l.Owner≤5)∧l.Owner≠me∧(1≤l.No∧l.No≤40)∧(1≤l.Thing∧l.Thing≤99)∧l.Thing % 6=l.Owner∧(0≤l.From∧l.From≤144001439)∧(0≤l.Until∧l.Until≤144001439)∧l.From≤l.Until
def a2C (a b:a7):Prop:=max a.From b.From<min a.Until b.Until
def a6z (a b:b6):Prop:=a.Night<b.Night
def b0I (a b:c4):Prop:=a.Night<b.Night
def a4L (a b:b4):Prop:=a.Ballot<b.Ballot∨(a.Ballot=b.Ballot∧a.Night<b.Night)
def a6W (a b:b9):Prop:=a.Owner<b.Owner∨(a.Owner=b.Owner∧a.No<b.No)
def a9k {α:Type} (f:α→α→Prop) (l:List α):Prop:=∀(i:Nat) x,l[i]?=some x→∀y,y∈l.take i→¬f y x
structure a5B (me:Int) (s:b5):Prop where
 dep:0≤me∧me≤5
 round:0≤s.Round∧s.Round≤9999
 nslots:(s.Slots.length:Int)≤12
 slots:∀x,x∈s.Slots→a2x x
 nbids:(s.Bids.length:Int)≤12
 bids:∀x,x∈s.Bids→a6s me s.Round x
 nheard:(s.Heard.length:Int)≤60
 heard:∀x,x∈s.Heard→a2e x
 nleases:(s.Leases.length:Int)≤40
 leases:∀x,x∈s.Leases→a4K me x
 nloans:(s.Loans.length:Int)≤60
 loans:∀x,x∈s.Loans→a4x me x
 rslots:I0 a6z s.Slots
 rbids:I0 b0I s.Bids
 rheard:I0 a4L s.Heard
 rloans:I0 a6W s.Loans
 ballots:a9k (fun a b=>a.Ballot=b.Ballot) s.Bids
 nos:∀(i:Nat) x,s.Leases[i]?=some x→x.No=(i:Int)+1
 meets:a9k (fun a b=>a.Thing=b.Thing∧a2C a b) s.Leases
theorem b8G (s:b6):Ans (Z2 s) (a2x s):=by
 have e1:=(a6d s.Night).eq
 have e2:=(b1d s.Promised).eq
 have e3:=(a8i s.Value).eq
 have e4:=(S2 s.Ballot 6 s.Promised).eq
 unfold Z2
 simp only [e1,e2,e3,e4,Option.bind_some]
 refine⟨decide (a2x s), ?_,by simp⟩
 unfold a2x
 by_cases h1:s.Ballot=0<;>by_cases h2:s.Value=0<;>by_cases h3:(0≤s.Night∧s.Night≤100000)<;>by_cases h4:(6≤s.Promised∧s.Promised≤59999)<;>by_cases h5:(6≤s.Ballot∧s.Ballot≤s.Promised)<;>simp [h1,h2,h3,h4,h5]<;>omega
theorem b4d (f u:Int):Ans (M9 f u) ((0≤f∧f≤144001439)∧(0≤u∧u≤144001439)∧f≤u):=
 Ans.and (a7d f) fun _=>Ans.and (a7d u) fun _=> .of
theorem c4z {me:Int} {s:b5} (hm:0≤me∧me≤5) (hr:0≤s.Round∧s.Round≤9999) (b:c4):Ans (R4 b s me) (a6s me s.Round b):=by
 have w:W (W (6*s.Round)+me)=6*s.Round+me:=by rw [a6N (z:=6*s.Round) (by omega),a6N (by omega)]
 unfold R4
 rw [w]
 refine Ans.and (a6d _) fun h1=>Ans.and (S2 _ _ _) fun h2=> ?_
 rw [a6N (z:=b.Ballot-1) (by omega)]
 show Ans (if(b.Ballot.tmod 6==me)=true then _ else some false) _
 refine Ans.ite (by rw [a9i (by omega)];simp) fun h3=>Ans.and (a8i _) fun h4=>Ans.and (S2 _ _ _) fun h5=>Ans.and (b6x _) fun h6=> ?_
 rw [(b1X h6).1]
 exact Ans.ofb (by simp)
theorem c1x (h:b4):Ans (a0b h) (a2e h):=
 Ans.and (b1d _) fun _=>Ans.and (a6d _) fun _=>Ans.and (a8i _) fun _=>Ans.ite (by simp) fun _=>(b6x _).id
theorem c1e (me:Int) (l:a7):Ans (R7 l me) (a4K me l):=by
 unfold R7
 refine Ans.and (a8w _) fun h1=> ?_
 show Ans (if(l.Thing.tmod 6==me)=true then _ else some false) _
 exact Ans.ite (by rw [a9i (by omega)];simp) fun h3=>Ans.and (a8G _) fun _=>Ans.ite (by simp) fun _=>(b4d _ _).id
theorem c2u (me:Int) (l:b9):Ans (R2 l me) (a4x me l):=by
 unfold R2
 refine Ans.and (a8G _) fun _=>Ans.ite (by simp) fun _=>Ans.and (S2 _ _ _) fun _=>Ans.and (a8w _) fun h1=> ?_
 show Ans (if(l.Thing.tmod 6==l.Owner)=true then _ else some false) _
 exact Ans.ite (by rw [a9i (by omega)];simp) fun h3=>(b4d _ _).id
theorem c1j (l:List b6):Ans (E2 l 12) ((l.length:Int)≤12∧∀x,x∈l→a2x x):=
 b1s (fun hl=>Q9 l hl D6 _ fun x _=>(b8G x).not) (by omega)
theorem c2a {me:Int} {s:b5} (hm:0≤me∧me≤5) (hr:0≤s.Round∧s.Round≤9999) (l:List c4):Ans (D5 l 12 s me) ((l.length:Int)≤12∧∀x,x∈l→a6s me s.Round x):=
 b1s (fun hl=>Q9 l hl (fun x=>B6 x s me) _ fun x _=>(c4z hm hr x).not) (by omega)
theorem c0e (l:List b4):Ans (B2 l 60) ((l.length:Int)≤60∧∀x,x∈l→a2e x):=
 b1s (fun hl=>Q9 l hl y9 _ fun x _=>(c1x x).not) (by omega)
theorem b9v (me:Int) (l:List a7):Ans (B1 l 40 me) ((l.length:Int)≤40∧∀x,x∈l→a4K me x):=
 b1s (fun hl=>Q9 l hl (fun x=>z6 x me) _ fun x _=>(c1e me x).not) (by omega)
theorem c1m (me:Int) (l:List b9):Ans (C5 l 60 me) ((l.length:Int)≤60∧∀x,x∈l→a4x me x):=
 b1s (fun hl=>Q9 l hl (fun x=>A2 x me) _ fun x _=>(c2u me x).not) (by omega)
def a3D (x y:Int):Int:=if x<y then-1 else if x>y then 1 else 0
theorem b3D (x y:Int):D0 x y=some (a3D x y):=by
 unfold a3D
 simp only [D0,Z7,Option.bind_some,bne_self_eq_false,if_false]
 by_cases h1:x<y<;>by_cases h2:x>y<;>simp [h1,h2]
theorem V9 {x y:Int}:a3D x y<0↔x<y:=by
 unfold a3D;split
 · simp;assumption
 · split<;>simp<;>omega
theorem a1Y {x y:Int}:a3D x y=0↔x=y:=by
 unfold a3D;split
 · simp;omega
 · split<;>simp<;>omega
def b7U (a b c d:Int):Int:=if a3D a b=0 then a3D c d else a3D a b
theorem b6F {a b c d:Int}:b7U a b c d<0↔a<b∨(a=b∧c<d):=by
 unfold b7U
 split
 · rename_i h;rw [a1Y]at h;rw [V9];omega
 · rename_i h;rw [a1Y]at h;rw [V9];omega
theorem c1N (a b:Int):a0J [a,b]=some (if a=0 then b else a):=by
 have hs:=a3O (R:=Int) (body:=S4 [a,b]) 2 (by omega) (fun i=>if i=0 then(if a=0 then none else some a)else(if b=0 then none else some b)) 0 (Nat.zero_le _) (fun i _ h2=>by
  have:i=0∨i=1:=by omega
  unfold S4
  rcases this with rfl|rfl
  · by_cases h:a=0<;>simp [idx,h];exact W_s (by omega)
  · by_cases h:b=0<;>simp [idx,h];exact W_s (by omega)) (by simp [S4])
 unfold a0J
 rw [show((0:Int))=((0:Nat):Int) from rfl,hs]
 by_cases h:a=0<;>by_cases h':b=0<;>simp [b1e,h,h']
theorem a9A (a b:b6):F0 a b=some (a3D a.Night b.Night):=by simp only [F0,b3D,Option.bind_some]
theorem b0K (a b:c4):G7 a b=some (a3D a.Night b.Night):=by simp only [G7,b3D,Option.bind_some]
theorem a9w (a b:b4):F2 a b=some (b7U a.Ballot b.Ballot a.Night b.Night):=by simp only [F2,b3D,Option.bind_some,c1N,b7U]
theorem a9v (a b:b9):F1 a b=some (b7U a.Owner b.Owner a.No b.No):=by simp only [F1,b3D,Option.bind_some,c1N,b7U]
theorem b9D (l:List b6) (hl:l.length≤9223372036854775807):Ans (y6 l) (I0 a6z l):=a9P l hl _ _ _ a9A fun _ _=>V9
theorem c0D (l:List c4) (hl:l.length≤9223372036854775807):Ans (A4 l) (I0 b0I l):=a9P l hl _ _ _ b0K fun _ _=>V9
theorem b9e (l:List b4) (hl:l.length≤9223372036854775807):Ans (w3 l) (I0 a4L l):=a9P l hl _ _ _ a9w fun _ _=>b6F
theorem b8D (l:List b9) (hl:l.length≤9223372036854775807):Ans (w9 l) (I0 a6W l):=a9P l hl _ _ _ a9v fun _ _=>b6F
theorem b8Y (a b:Int):(if b>a then b else a)=max a b:=by split<;>omega
theorem b8H (a b:Int):(if b<a then b else a)=min a b:=by split<;>omega
theorem c1W (a b:a7):Ans (Y3 a b) (a2C a b):=by
 unfold Y3 a2C
 rw [b8Y,b8H];exact .of
theorem c3Z {α:Type} (l:List α) (k:Nat):sub l 0 k=l.take k:=by simp [sub]
theorem b7v (s:b5) (hl:s.Bids.length≤9223372036854775807):Lp (l5 (J9 s) 0) (a9k (fun a b=>a.Ballot=b.Ballot) s.Bids):=by
 refine(a0G s.Bids.length hl (fun i=>∀x,s.Bids[i]?=some x→∀y,y∈s.Bids.take i→¬y.Ballot=x.Ballot) (fun i h2=> ?_) (by simp [J9])).iff ?_
 · have hlt:((i:Int)<(s.Bids.length:Int)):=by omega
   have hg:0≤(i:Int)∧(i:Int)≤(s.Bids.length:Int):=by omega
   unfold J9
   simp only [hlt,decide_true,if_true]
   refine Rnd.get h2 ?_
   simp only [gd,hg,and_self,if_true,Option.bind_some,c3Z,Int.toNat_natCast]
   refine(Rnd.and (Q9 _ (by simp;omega) (fun x=>Z8 x s.Bids[i]) (fun y=>y.Ballot=s.Bids[i].Ballot) fun x _=>Ans.ofb (by simp)) fun _=> .go trivial).iff ?_
   rw [List.getElem?_eq_getElem h2]
   simp
 · exact⟨fun h i x hx=>h i ((List.getElem?_eq_some_iff.1 hx).1) x hx,fun h i _=>h i⟩
theorem c0V (s:b5) (hl:s.Leases.length≤9223372036854775806):Lp (l5 (K1 s) 0) ((∀(i:Nat) x,s.Leases[i]?=some x→x.No=(i:Int)+1)∧a9k (fun a b=>a.Thing=b.Thing∧a2C a b) s.Leases):=by
 refine(a0G s.Leases.length (by omega) (fun i=>∀x,s.Leases[i]?=some x→x.No=(i:Int)+1∧∀y,y∈s.Leases.take i→¬(y.Thing=x.Thing∧a2C y x)) (fun i h2=> ?_) (by simp [K1])).iff ?_
 · have hlt:((i:Int)<(s.Leases.length:Int)):=by omega
   have hg:0≤(i:Int)∧(i:Int)≤(s.Leases.length:Int):=by omega
   unfold K1
   simp only [hlt,decide_true,if_true]
   refine Rnd.get h2 ?_
   refine(Rnd.ite (P:=s.Leases[i].No=(i:Int)+1) (Q:=∀y,y∈s.Leases.take i→¬(y.Thing=s.Leases[i].Thing∧a2C y s.Leases[i])) (by rw [a6N (by omega)];simp) fun _=> ?_).iff (Q:=∀x,s.Leases[i]?=some x→x.No=(i:Int)+1∧∀y,y∈s.Leases.take i→¬(y.Thing=x.Thing∧a2C y x)) ?_
   · simp only [gd,hg,and_self,if_true,Option.bind_some,c3Z,Int.toNat_natCast]
     refine(Rnd.and (Q9 _ (by simp;omega) (fun x=>a0a x s.Leases[i]) (fun y=>y.Thing=s.Leases[i].Thing∧a2C y s.Leases[i]) fun x _=>Ans.ite (by simp) fun _=>(c1W _ _).id) fun _=> .go trivial).iff ?_
     simp
   · rw [List.getElem?_eq_getElem h2]
     simp
 · constructor
   · intro h
     exact⟨fun i x hx=>(h i ((List.getElem?_eq_some_iff.1 hx).1) x hx).1,fun i x hx=>(h i ((List.getElem?_eq_some_iff.1 hx).1) x hx).2⟩
   · exact fun h i _ x hx=>⟨h.1 i x hx,h.2 i x hx⟩
theorem b0q {me:Int} {s:b5}:a5B me s↔(0≤me∧me≤5)∧(0≤s.Round∧s.Round≤9999)∧((s.Slots.length:Int)≤12∧∀x,x∈s.Slots→a2x x)∧((s.Bids.length:Int)≤12∧∀x,x∈s.Bids→a6s me s.Round x)∧((s.Heard.length:Int)≤60∧∀x,x∈s.Heard→a2e x)∧((s.Leases.length:Int)≤40∧∀x,x∈s.Leases→a4K me x)∧((s.Loans.length:Int)≤60∧∀x,x∈s.Loans→a4x me x)∧I0 a6z s.Slots∧I0 b0I s.Bids∧I0 a4L s.Heard∧I0 a6W s.Loans∧a9k (fun a b=>a.Ballot=b.Ballot) s.Bids∧((∀(i:Nat) x,s.Leases[i]?=some x→x.No=(i:Int)+1)∧a9k (fun a b=>a.Thing=b.Thing∧a2C a b) s.Leases):=by
 constructor
 · rintro⟨a,b,c1,c2,d1,d2,e1,e2,f1,f2,g1,g2,h1,h2,h3,h4,h5,h6,h7⟩
   exact⟨a,b,⟨c1,c2⟩,⟨d1,d2⟩,⟨e1,e2⟩,⟨f1,f2⟩,⟨g1,g2⟩,h1,h2,h3,h4,h5,h6,h7⟩
 · rintro⟨a,b,⟨c1,c2⟩,⟨d1,d2⟩,⟨e1,e2⟩,⟨f1,f2⟩,⟨g1,g2⟩,h1,h2,h3,h4,h5,h6,h7⟩
   exact⟨a,b,c1,c2,d1,d2,e1,e2,f1,f2,g1,g2,h1,h2,h3,h4,h5,h6,h7⟩
theorem b2z (me:Int) (s:b5):Ans (L1 me s) (a5B me s):=by
 refine Ans.iff ?_ b0q.symm
 unfold L1
 exact Ans.nand (a8G _) fun hm=>Ans.nand (S2 _ _ _) fun hr=>Ans.nand (c1j _) fun h1=>Ans.nand (c2a hm hr _) fun h2=>Ans.nand (c0e _) fun h3=>Ans.nand (b9v _ _) fun h4=>Ans.nand (c1m _ _) fun h5=>
  Ans.nand (b9D _ (by omega)) fun _=>Ans.nand (c0D _ (by omega)) fun _=>Ans.nand (b9e _ (by omega)) fun _=>Ans.nand (b8D _ (by omega)) fun _=>Ans.loop (b7v s (by omega)) fun _=>Ans.lp (c0V s (by omega))
end Go.Proofs.YtcedmbakcchkiaaGreatDoor
namespace Go.Proofs.YtcedmbakcchkiaaGreatDoor
open Go Go.Sx
open Classical
theorem c0s (n:Int):a3L n 6=some (n % 6):=by
 unfold a3L
 simp only [gd,ne_eq,show¬(6:Int)=0 by omega,not_false_eq_true,if_true,Option.some.injEq]
 have h3:=Int.tmod_eq_emod (a:=n) (b:=6)
 have h1: -6<n.tmod 6∧n.tmod 6<6∧(n.tmod 6=n % 6∨n.tmod 6=n % 6-6):=by
  rw [h3];split<;>simp<;>omega
 rw [a6N (by omega),a9i (by omega)]
 omega
theorem b6c (m:Int):∃b,I7 m=some b:=by
 obtain⟨e,he,n,d,rfl⟩:=b2b (body:=Z6 m) (fun st=>∃(n:Nat) (d:Nat),st=((n:Int),(d:Int))∧n≤d∧d≤6) (fun st=>(6-st.2).toNat) (fun st=>∃n d:Int,st=(n,d)) (by
  rintro st ⟨n,d,rfl,h1,h2⟩
  unfold Z6 a8s
  by_cases h:(d:Int)<6
  · right
    have hd:(0:Int)≤d:=by omega
    simp only [h,decide_true,if_true,gd,hd,Option.bind_some]
    split
    · exact⟨_,rfl,⟨n+1,d+1,by rw [W_s (by omega),W_s (by omega)],by omega,by omega⟩,by simp only;rw [W_s (by omega)];omega⟩
    · exact⟨_,rfl,⟨n,d+1,by rw [W_s (by omega)],by omega,by omega⟩,by simp only;rw [W_s (by omega)];omega⟩
  · left
    exact⟨((n:Int),(d:Int)),by simp only [h,decide_false,Bool.false_eq_true,if_false],_,_,rfl⟩) (0,0) ⟨0,0,rfl,by omega,by omega⟩ (by simp [a5C])
 unfold I7
 rw [he]
 exact⟨_,rfl⟩
theorem a9W (m:Int):I7 m=some (qr m):=by
 obtain⟨b,hb⟩:=b6c m
 rw [hb,qr,hb];rfl
theorem a6c {i:Nat} (h:0<i) (h2:i<9223372036854775807):W ((i:Int)-1)=((i-1:Nat):Int):=by rw [a6N (by omega)];omega
theorem K7 {α:Type} {l:List α} {i:Nat} {x:α} (h:l[i]?=some x):idx l (i:Int)=some x:=by simp [idx,h]
theorem a1e {α:Type} {l:List α} {i:Nat} (h:i<l.length):∃x,l[i]?=some x:=⟨_,List.getElem?_eq_getElem h⟩
theorem b0Q {α:Type} {l:List α} {i:Nat} {m:Option (Sum Int (Sum Int Bool))} {ok:α→Prop} {f:α→α→Prop} (h:i<l.length) (k:∀x,l[i]?=some x→Rnd i m (ok x∧(0<i→∀y,l[i-1]?=some y→f y x))):
 Rnd (i:Int) m ((∀x,l[i]?=some x→ok x)∧(0<i→∀a,l[i-1]?=some a→∀b,l[i]?=some b→f a b)):=by
 obtain⟨x,hx⟩:=a1e h
 refine(k x hx).iff ?_
 rw [hx]
 simp
theorem c0F (l:List b6) (i:Nat) (h:i<l.length) (hl:l.length≤12):Rnd (i:Int) (N2 l i) ((∀x,l[i]?=some x→a2x x)∧(0<i→∀a,l[i-1]?=some a→∀b,l[i]?=some b→a6z a b)):=by
 refine b0Q h fun x hx=> ?_
 have hlt:((i:Int)<(l.length:Int)):=by omega
 have e1:=(a2w x.Night).eq
 have e2:=(a8P x.Promised).eq
 have e3:=(a7f x.Value).eq
 have e4:=(a9q x.Ballot 6 x.Promised).eq
 unfold N2
 simp only [hlt,decide_true,if_true,K7 hx,Option.bind_some,e1,e2,e3,e4]
 by_cases h0:0<i
 · obtain⟨y,hy⟩:=a1e (l:=l) (i:=i-1) (by omega)
   have h00:(i:Int)>0:=by omega
   simp only [h00,decide_true,if_true,a6c h0 (by omega),K7 hy,hy,Option.bind_some,b7M,b7w (i:Int),b1Z,h0,true_imp_iff,Option.some.injEq,forall_eq']
   refine⟨_,rfl, ?_⟩
   simp only [a2x,a6z,Bool.or_eq_true,Bool.and_eq_true,Bool.not_eq_true',decide_eq_true_eq,decide_eq_false_iff_not,beq_iff_eq,Bool.not_not,beq_eq_false_iff_ne,ne_eq,Bool.and_false,Bool.and_true,Bool.false_or,Bool.or_false,Bool.false_eq_true]
   omega
 · have h00:¬((i:Int)>0):=by omega
   simp only [h00,decide_false,Bool.false_eq_true,if_false,b7M,b7w (i:Int),b1Z,h0,false_imp_iff,and_true]
   refine⟨_,rfl, ?_⟩
   simp only [a2x,Bool.or_eq_true,Bool.and_eq_true,Bool.not_eq_true',decide_eq_true_eq,decide_eq_false_iff_not,beq_iff_eq,Bool.not_not,beq_eq_false_iff_ne,ne_eq,Bool.and_false,Bool.and_true,Bool.false_or,Bool.or_false,Bool.false_eq_true]
   omega
theorem b8E (l:List b4) (i:Nat) (h:i<l.length) (hl:l.length≤60):Rnd (i:Int) (N5 l i) ((∀x,l[i]?=some x→a2e x)∧(0<i→∀a,l[i-1]?=some a→∀b,l[i]?=some b→a4L a b)):=by
 refine b0Q h fun x hx=> ?_
 have hlt:((i:Int)<(l.length:Int)):=by omega
 have e1:=(a2w x.Night).eq
 have e2:=(a8P x.Ballot).eq
 have e3:=(a7f x.Value).eq
 have e4:=(b2m x.Mask).eq
 unfold N5
 simp only [hlt,decide_true,if_true,K7 hx,Option.bind_some,e1,e2,e3,e4]
 by_cases h0:0<i
 · obtain⟨y,hy⟩:=a1e (l:=l) (i:=i-1) (by omega)
   have h00:(i:Int)>0:=by omega
   simp only [h00,decide_true,if_true,a6c h0 (by omega),K7 hy,hy,Option.bind_some,b7M,b7w (i:Int),b1Z,h0,true_imp_iff,Option.some.injEq,forall_eq']
   refine⟨_,rfl, ?_⟩
   simp only [a2e,a4L,Bool.or_eq_true,Bool.and_eq_true,Bool.not_eq_true',decide_eq_true_eq,decide_eq_false_iff_not,beq_iff_eq,Bool.not_not,beq_eq_false_iff_ne,ne_eq,Bool.and_false,Bool.and_true,Bool.false_or,Bool.or_false,Bool.false_eq_true]
   omega
 · have h00:¬((i:Int)>0):=by omega
   simp only [h00,decide_false,Bool.false_eq_true,if_false,b7M,b7w (i:Int),b1Z,h0,false_imp_iff,and_true]
   refine⟨_,rfl, ?_⟩
   simp only [a2e,Bool.or_eq_true,Bool.and_eq_true,Bool.not_eq_true',decide_eq_true_eq,decide_eq_false_iff_not,beq_iff_eq,Bool.not_not,beq_eq_false_iff_ne,ne_eq,Bool.and_false,Bool.and_true,Bool.false_or,Bool.or_false,Bool.false_eq_true]
   omega
theorem c1z (l:List b9) (me:Int) (i:Nat) (h:i<l.length) (hl:l.length≤60):Rnd (i:Int) (N1 l me i) ((∀x,l[i]?=some x→a4x me x)∧(0<i→∀a,l[i-1]?=some a→∀b,l[i]?=some b→a6W a b)):=by
 refine b0Q h fun x hx=> ?_
 have hlt:((i:Int)<(l.length:Int)):=by omega
 have e1:=(a7b x.Owner).eq
 have e2:=(a9q x.No 1 40).eq
 have e3:=(a7e x.Thing).eq
 have e4:=(a1C x.From).eq
 have e5:=(a1C x.Until).eq
 have et:1≤x.Thing∧x.Thing≤99→x.Thing.tmod 6=x.Thing % 6:=fun h=>a9i (by omega)
 unfold N1
 simp only [hlt,decide_true,if_true,K7 hx,Option.bind_some,e1,e2,e3,e4,e5]
 generalize x.Thing.tmod 6=tm at et⊢
 by_cases h0:0<i
 · obtain⟨y,hy⟩:=a1e (l:=l) (i:=i-1) (by omega)
   have h00:(i:Int)>0:=by omega
   simp only [h00,decide_true,if_true,a6c h0 (by omega),K7 hy,hy,Option.bind_some,b7M,b7w (i:Int),b1Z,h0,true_imp_iff,Option.some.injEq,forall_eq']
   refine⟨_,rfl, ?_⟩
   simp only [a4x,a6W,Bool.or_eq_true,Bool.and_eq_true,Bool.not_eq_true',decide_eq_true_eq,decide_eq_false_iff_not,beq_iff_eq,Bool.not_not,beq_eq_false_iff_ne,ne_eq,Bool.and_false,Bool.and_true,Bool.false_or,Bool.or_false,Bool.false_eq_true,bne_iff_ne,bne_eq_false_iff_eq]
   omega
 · have h00:¬((i:Int)>0):=by omega
   simp only [h00,decide_false,Bool.false_eq_true,if_false,b7M,b7w (i:Int),b1Z,h0,false_imp_iff,and_true]
   refine⟨_,rfl, ?_⟩
   simp only [a4x,Bool.or_eq_true,Bool.and_eq_true,Bool.not_eq_true',decide_eq_true_eq,decide_eq_false_iff_not,beq_iff_eq,Bool.not_not,beq_eq_false_iff_ne,ne_eq,Bool.and_false,Bool.and_true,Bool.false_or,Bool.or_false,Bool.false_eq_true,bne_iff_ne,bne_eq_false_iff_eq]
   omega
theorem c1G (l:List c4) (i:Nat) (h:i<l.length) (hl:l.length≤12) (x:c4):Lp (l5 (G5 l i x) 0) (∀y,y∈l.take i→¬y.Ballot=x.Ballot):=by
 refine(a0G i (by omega) (fun k=>∀y,l[k]?=some y→¬y.Ballot=x.Ballot) (fun k hk=> ?_) (by simp [G5])).iff ?_
 · obtain⟨y,hy⟩:=a1e (l:=l) (i:=k) (by omega)
   have hlt:((k:Int)<(i:Int)):=by omega
   unfold G5
   simp only [hlt,decide_true,if_true,K7 hy,Option.bind_some,hy,Option.some.injEq,forall_eq']
   exact(Rnd.ite (P:=¬y.Ballot=x.Ballot) (by simp) fun _=> .go trivial).iff (by simp)
 · constructor
   · intro h' y hy
     obtain⟨k,hk,rfl⟩:=List.mem_take_iff_getElem.1 hy
     exact h' k (by omega) _ (List.getElem?_eq_getElem _)
   · intro h' k hk y hy
     exact h' y (List.mem_take_iff_getElem.2 ⟨k,by omega,(List.getElem?_eq_some_iff.1 hy).2⟩)
theorem c1D (a b:a7):Ans (a4E a b) (a.Thing=b.Thing∧a2C a b):=by
 unfold a4E a2C
 rw [b8Y,b8H]
 exact Ans.ite (by simp) fun _=> .of
theorem b8f (l:List a7) (i:Nat) (h:i<l.length) (hl:l.length≤40) (x:a7):Lp (l5 (L4 l i x) 0) (∀y,y∈l.take i→¬(y.Thing=x.Thing∧a2C y x)):=by
 refine(a0G i (by omega) (fun k=>∀y,l[k]?=some y→¬(y.Thing=x.Thing∧a2C y x)) (fun k hk=> ?_) (by simp [L4])).iff ?_
 · obtain⟨y,hy⟩:=a1e (l:=l) (i:=k) (by omega)
   have hlt:((k:Int)<(i:Int)):=by omega
   unfold L4
   simp only [hlt,decide_true,if_true,K7 hy,Option.bind_some,hy,Option.some.injEq,forall_eq']
   exact(Rnd.and (c1D y x) fun _=> .go trivial).iff (by simp)
 · constructor
   · intro h' y hy
     obtain⟨k,hk,rfl⟩:=List.mem_take_iff_getElem.1 hy
     exact h' k (by omega) _ (List.getElem?_eq_getElem _)
   · intro h' k hk y hy
     exact h' y (List.mem_take_iff_getElem.2 ⟨k,by omega,(List.getElem?_eq_some_iff.1 hy).2⟩)
theorem c2B (l:List c4) (me r:Int) (hm:0≤me∧me≤5) (hr:0≤r∧r≤9999) (i:Nat) (h:i<l.length) (hl:l.length≤12):Rnd (i:Int) (P4 l me r i) ((∀x,l[i]?=some x→a6s me r x∧∀y,y∈l.take i→¬y.Ballot=x.Ballot)∧(0<i→∀a,l[i-1]?=some a→∀b,l[i]?=some b→b0I a b)):=by
 refine b0Q (ok:=fun x=>a6s me r x∧∀y,y∈l.take i→¬y.Ballot=x.Ballot) h fun x hx=> ?_
 have hlt:((i:Int)<(l.length:Int)):=by omega
 have w1:W (W (6*r)+me)=6*r+me:=by rw [a6N (z:=6*r) (by omega),a6N (by omega)]
 have w2:W (6+me)=6+me:=a6N (by omega)
 have hlp:=c1G l i h hl x
 unfold P4
 simp only [hlt,decide_true,if_true]
 simp only [K7 hx,Option.bind_some,w1,w2,c0s,a9W]
 have tail:Rnd (i:Int) (Option.bind (H3 x.Value) fun x154=>if(!x154)=true then some (.inr (.inr false))else Option.bind (F4 x.Ballot (6+me) (6*r+me)) fun x157=>if(!x157)=true then some (.inr (.inr false))else
  if(x.Ballot % 6 !=me)=true then some (.inr (.inr false))else Option.bind (F4 x.Best 0 (W (x.Ballot-1))) fun x163=>if(!x163)=true then some (.inr (.inr false))else Option.bind (X5 x.Mask) fun x166=>if(!x166)=true then some (.inr (.inr false))else
  if(!(x.Asked==qr x.Mask))=true then some (.inr (.inr false))else Option.bind (l5 (G5 l i x) 0) fun e=>match e with| .inl _=>some (.inl (W ((i:Int)+1)))| .inr r=>some (.inr (.inr r)))
  ((1≤x.Value∧x.Value≤1000000)∧(6+me≤x.Ballot∧x.Ballot≤6*r+me)∧x.Ballot % 6=me∧(0≤x.Best∧x.Best≤x.Ballot-1)∧(0≤x.Mask∧x.Mask≤63)∧x.Asked=qr x.Mask∧∀y,y∈l.take i→¬y.Ballot=x.Ballot):=by
  refine Rnd.nand (a7f _) fun h1=>Rnd.nand (a9q _ _ _) fun h2=>Rnd.ite (by simp) fun h3=> ?_
  rw [a6N (z:=x.Ballot-1) (by omega)]
  exact Rnd.nand (a9q _ _ _) fun h4=>Rnd.nand (b2m _) fun h5=>Rnd.ite (by simp) fun h6=>Rnd.loop hlp
 by_cases h0:0<i
 · obtain⟨y,hy⟩:=a1e (l:=l) (i:=i-1) (by omega)
   have h00:(i:Int)>0:=by omega
   simp only [h00,decide_true,if_true,a6c h0 (by omega),K7 hy,hy,Option.bind_some,h0,true_imp_iff,Option.some.injEq,forall_eq']
   refine(Rnd.nand (a2w _) fun h1=>Rnd.ite (P:=y.Night<x.Night) (by simp) fun h2=>tail).iff ?_
   unfold a6s b0I
   constructor
   · rintro⟨a,b,c,d,e,f,g,h,k⟩;exact⟨⟨⟨a,by omega,e,c,f,g,h⟩,k⟩,b⟩
   · rintro⟨⟨⟨a,b,c,d,e,f,g⟩,k⟩,m⟩;exact⟨a,m,d,by omega,c,e,f,g,k⟩
 · have h00:¬((i:Int)>0):=by omega
   simp only [h00,decide_false,Bool.false_eq_true,if_false,h0,false_imp_iff,and_true]
   refine(Rnd.nand (a2w _) fun h1=>tail).iff ?_
   unfold a6s
   constructor
   · rintro⟨a,c,d,e,f,g,h,k⟩;exact⟨⟨a,by omega,e,c,f,g,h⟩,k⟩
   · rintro⟨⟨a,b,c,d,e,f,g⟩,k⟩;exact⟨a,d,by omega,c,e,f,g,k⟩
theorem c0g (l:List a7) (me:Int) (i:Nat) (h:i<l.length) (hl:l.length≤40):Rnd (i:Int) (M2 l me i) (∀x,l[i]?=some x→a4K me x∧x.No=(i:Int)+1∧∀y,y∈l.take i→¬(y.Thing=x.Thing∧a2C y x)):=by
 obtain⟨x,hx⟩:=a1e h
 have hlt:((i:Int)<(l.length:Int)):=by omega
 have hlp:=b8f l i h hl x
 unfold M2
 simp only [hlt,decide_true,if_true,K7 hx,Option.bind_some,hx,Option.some.injEq,forall_eq']
 refine(Rnd.ite (P:=x.No=(i:Int)+1) (by rw [a6N (by omega)];simp) fun _=>Rnd.nand (a7e _) fun h1=>Rnd.ite (P:=x.Thing % 6=me) (by rw [a9i (by omega)];simp) fun _=>Rnd.nand (a7b _) fun _=>Rnd.ite (P:=¬x.To=me) (by simp) fun _=>
  Rnd.nand (a1C _) fun _=>Rnd.nand (a1C _) fun _=>Rnd.ite (P:=x.From≤x.Until) (by simp) fun _=>Rnd.loop hlp).iff ?_
 unfold a4K
 constructor
 · rintro⟨a,b,c,d,e,f,g,h,k⟩;exact⟨⟨b,c,d,e,f,g,h⟩,a,k⟩
 · rintro⟨⟨b,c,d,e,f,g,h⟩,a,k⟩;exact⟨a,b,c,d,e,f,g,h,k⟩
theorem b2h {m:Option (Sum Int Bool)} {n most:Int} {P:Prop} (h:n≤most→Lp m P):Ans (if(decide (n>most))=true then some false else m.bind fun e=>match e with| .inl _=>some true| .inr r=>some r) (n≤most∧P):=
 Ans.ite' (by simp) fun h'=>Ans.lp (h h')
theorem a6K {i:Nat} {P:Prop}:(0≤i→P)↔P:=⟨fun h=>h (Nat.zero_le _),fun h _=>h⟩
theorem b3T (l:List b6):Ans (a2v l) ((l.length:Int)≤12∧(∀x,x∈l→a2x x)∧I0 a6z l):=
 b2h fun h=>(a0G l.length (by omega) _ (fun i hi=>c0F l i hi (by omega)) (by simp [N2])).iff ((forall_congr' fun _=>a6K.symm).trans (a7m l a2x a6z))
theorem b4j (l:List b4):Ans (a2Q l) ((l.length:Int)≤60∧(∀x,x∈l→a2e x)∧I0 a4L l):=
 b2h fun h=>(a0G l.length (by omega) _ (fun i hi=>b8E l i hi (by omega)) (by simp [N5])).iff ((forall_congr' fun _=>a6K.symm).trans (a7m l a2e a4L))
theorem b4I (l:List b9) (me:Int):Ans (a2J l me) ((l.length:Int)≤60∧(∀x,x∈l→a4x me x)∧I0 a6W l):=
 b2h fun h=>(a0G l.length (by omega) _ (fun i hi=>c1z l me i hi (by omega)) (by simp [N1])).iff ((forall_congr' fun _=>a6K.symm).trans (a7m l (a4x me) a6W))
theorem b6e (l:List c4) (me r:Int) (hm:0≤me∧me≤5) (hr:0≤r∧r≤9999):Ans (a3q l me r) ((l.length:Int)≤12∧(∀x,x∈l→a6s me r x)∧I0 b0I l∧a9k (fun a b=>a.Ballot=b.Ballot) l):=
 b2h fun h=>(a0G l.length (by omega) _ (fun i hi=>c2B l me r hm hr i hi (by omega)) (by simp [P4])).iff (by
  have key:=a7m l (a6s me r) b0I
  constructor
  · intro h
    obtain⟨h1,h2⟩:=key.1 fun i _ hi=>⟨fun x hx=>((h i hi).1 x hx).1,(h i hi).2⟩
    exact⟨h1,h2,fun i x hx=>((h i (List.getElem?_eq_some_iff.1 hx).1).1 x hx).2⟩
  · rintro⟨h1,h2,h3⟩ i hi
    have:=key.2 ⟨h1,h2⟩ i (Nat.zero_le _) hi
    exact⟨fun x hx=>⟨this.1 x hx,h3 i x hx⟩,this.2⟩)
theorem b3b (l:List a7) (me:Int):Ans (a1S l me) ((l.length:Int)≤40∧(∀x,x∈l→a4K me x)∧(∀(i:Nat) x,l[i]?=some x→x.No=(i:Int)+1)∧a9k (fun a b=>a.Thing=b.Thing∧a2C a b) l):=
 b2h fun h=>(a0G l.length (by omega) _ (fun i hi=>c0g l me i hi (by omega)) (by simp [M2])).iff (by
  constructor
  · intro h
    refine⟨fun x hx=> ?_,fun i x hx=>((h i (List.getElem?_eq_some_iff.1 hx).1) x hx).2.1,fun i x hx=>((h i (List.getElem?_eq_some_iff.1 hx).1) x hx).2.2⟩
    obtain⟨i,hi,rfl⟩:=List.getElem_of_mem hx
    exact((h i hi) _ (List.getElem?_eq_getElem hi)).1
  · rintro⟨h1,h2,h3⟩ i hi x hx
    exact⟨h1 x (List.mem_of_getElem? hx),h2 i x hx,h3 i x hx⟩)
def Err (m:Option Int) (P:Prop) (e:Int):Prop:=m=some (if P then 0 else e)
theorem Err.nand {m:Option Bool} {n:Option Int} {P Q:Prop} {e:Int} (h:Ans m P) (k:P→Err n Q e):Err (Option.bind m fun x=>if(!x)=true then some e else n) (P∧Q) e:=by
 obtain⟨b,rfl,hb⟩:=h
 unfold Err
 by_cases hp:P
 · have:=k hp
   unfold Err at this
   simp [hb.2 hp,hp,this]
 · have:b=false:=by cases b with|false=>rfl|true=>exact absurd (hb.1 rfl) hp
   simp [this,hp]
theorem Err.one {m:Option Bool} {P:Prop} {e:Int} (h:Ans m P):Err (Option.bind m fun x=>if(!x)=true then some e else some 0) P e:=by
 have:=Err.nand (Q:=True) (n:=some 0) (e:=e) h (fun _=>by simp [Err])
 simpa using this
theorem Err.iff {m:Option Int} {P Q:Prop} {e:Int} (h:Err m P e) (k:P↔Q):Err m Q e:=by
 unfold Err at*;rw [h];simp [k]
theorem a6t (me:Int) (s:b5):Err (W6 me s) (a5B me s) 90:=by
 refine Err.iff (Err.nand (a7b _) fun hm=>Err.nand (a9q _ _ _) fun hr=>Err.nand (b3T _) fun _=>Err.nand (b6e _ _ _ hm hr) fun _=>Err.nand (b4j _) fun _=>Err.nand (b3b _ _) fun _=>Err.one (b4I _ _)) ?_
 rw [b0q]
 constructor
 · rintro⟨a,b,⟨c1,c2,c3⟩,⟨d1,d2,d3,d4⟩,⟨e1,e2,e3⟩,⟨f1,f2,f3,f4⟩,⟨g1,g2,g3⟩⟩
   exact⟨a,b,⟨c1,c2⟩,⟨d1,d2⟩,⟨e1,e2⟩,⟨f1,f2⟩,⟨g1,g2⟩,c3,d3,e3,g3,d4,f3,f4⟩
 · rintro⟨a,b,⟨c1,c2⟩,⟨d1,d2⟩,⟨e1,e2⟩,⟨f1,f2⟩,⟨g1,g2⟩,c3,d3,e3,g3,d4,f3,f4⟩
   exact⟨a,b,⟨c1,c2,c3⟩,⟨d1,d2,d3,d4⟩,⟨e1,e2,e3⟩,⟨f1,f2,f3,f4⟩,⟨g1,g2,g3⟩⟩
def M0 (x:a6):Prop:=a5B x.Me x.Now∧a5B x.Me x.Safe
theorem c1h (x:a6):Err (V7 x) (M0 x) 90:=Err.nand (b2z _ _) fun _=>Err.one (b2z _ _)
theorem b9g (x:a6):Err (a3f x) (M0 x) 90:=by
 have e1:=a6t x.Me x.Now
 have e2:=a6t x.Me x.Safe
 unfold Err at*
 unfold a3f
 rw [e1,e2]
 unfold M0
 by_cases h1:a5B x.Me x.Now<;>by_cases h2:a5B x.Me x.Safe<;>simp [h1,h2]
end Go.Proofs.YtcedmbakcchkiaaGreatDoor
namespace Go.Proofs.YtcedmbakcchkiaaGreatDoor
open Go Go.Sx
open Classical
theorem c1E {α:Type} {l:List α} (hl:l.length≤9223372036854775806) {q:α→α→Bool} (hq:∀x,q x x=true) {body:Int→Option (Sum Int (Sum Int Bool))}
 (hb:body=fun i=>if(decide (i<(l.length:Int)))=true then Option.bind (idx l i) fun a=>Option.bind (idx l i) fun b=>if(!(q a b))=true then some (.inr (.inr false))else some (.inl (W (i+1)))else some (.inr (.inl i))):Lp (l5 body 0) True:=by
 refine(a0G l.length (by omega) (fun _=>True) (fun i hi=> ?_) (by rw [hb];simp)).iff (by simp)
 rw [hb]
 have hlt:((i:Int)<(l.length:Int)):=by omega
 simp only [hlt,decide_true,if_true]
 refine Rnd.get hi (Rnd.get hi ?_)
 rw [hq]
 exact .go trivial
theorem Ans.true {m:Option Bool} (h:Ans m True):m=some true:=by rw [h.eq];simp
theorem a6m (l:List Int) (h:l.length≤9223372036854775806):V4 l l=some true:=by
 unfold V4
 refine Ans.true ((Ans.ite' (P:=True) (by simp) fun _=>Ans.lp (c1E h (q:=fun a b=> !(a !=b)) (by simp) ?_)).iff (by simp))
 funext i
 unfold a0P
 simp only [Bool.not_not]
end Go.Proofs.YtcedmbakcchkiaaGreatDoor
namespace Go.Proofs.YtcedmbakcchkiaaGreatDoor
open Go Go.Sx
open Classical
def a9u {α σ R:Type} (f:σ→α→Sum σ R):List α→σ→Sum σ R
 | [],s=> .inl s
 |x::l,s=>match f s x with| .inl s'=>a9u f l s'| .inr r=> .inr r
theorem a8j {α σ S E R:Type} {body:S→Option (Sum S E)} (l:List α) (hl:l.length≤9223372036854775807) (enc:Nat→σ→S) (f:σ→α→Sum σ R) (out:R→E) (fin:σ→E) (P:List α→σ→Prop)
 (h:∀pre x post s,l=pre++x::post→P pre s→body (enc pre.length s)=some (match f s x with| .inl s'=> .inl (enc (pre.length+1) s')| .inr r=> .inr (out r))∧∀s',f s x= .inl s'→P (pre++ [x]) s')
 (he:∀s,P l s→body (enc l.length s)=some (.inr (fin s))) (s0:σ) (h0:P [] s0):
 l5 body (enc 0 s0)=some (match a9u f l s0 with| .inl s=>fin s| .inr r=>out r):=by
 have key:∀(post pre:List α) (s:σ) (n:Nat),l=pre++post→P pre s→post.length<n→a0q body n (enc pre.length s)=some (match a9u f post s with| .inl s=>fin s| .inr r=>out r):=by
  intro post
  induction post with
  |nil=>
   intro pre s n hp hs hn
   cases n with
   |zero=>omega
   |succ n=>
    simp only [List.append_nil]at hp
    subst hp
    simp only [a0q,he s hs,a9u]
  |cons x post ih=>
   intro pre s n hp hs hn
   cases n with
   |zero=>omega
   |succ n=>
    obtain⟨h1,h2⟩:=h pre x post s hp hs
    simp only [a0q,h1,a9u]
    cases hf:f s x with
    |inl s'=>
     have:=ih (pre++ [x]) s' n (by simp [hp]) (h2 s' hf) (by simp at hn;omega)
     simpa using this
    |inr r=>rfl
 exact key l [] s0 a5C rfl h0 (by unfold a5C;omega)
theorem b9V {α β R:Type} (em:α→List β) (l:List α) (s:List β):a9u (R:=R) (fun s x=> .inl (s++em x)) l s= .inl (s++l.flatMap em):=by
 induction l generalizing s with
 |nil=>simp [a9u]
 |cons x l ih=>simp [a9u,ih]
theorem b0Y {α β S:Type} {body:S→Option (Sum S S)} (l:List α) (hl:l.length≤1000) (enc:Nat→List β→S) (em:α→List β) (acc:List β) (ha:acc.length≤10000) (hem:∀x,(em x).length≤2)
 (h:∀pre x post s,l=pre++x::post→s.length≤20000→body (enc pre.length s)=some (.inl (enc (pre.length+1) (s++em x)))) (he:∀s,body (enc l.length s)=some (.inr (enc l.length s))):
 l5 body (enc 0 acc)=some (enc l.length (acc++l.flatMap em)):=by
 have:=a8j (R:=S) (body:=body) l (by omega) enc (fun s x=> .inl (s++em x)) id (fun s=>enc l.length s) (fun pre s=>s.length≤acc.length+2*pre.length∧pre.length≤l.length) (fun pre x post s hp hs=>⟨h pre x post s hp (by omega),fun s' hs'=>by
  have hx:=hem x
  have hpl:pre.length+1≤l.length:=by rw [hp];simp
  simp only [Sum.inl.injEq]at hs'
  subst hs'
  simp only [List.length_append,List.length_singleton]
  omega⟩) (fun s _=>he s) acc ⟨by simp,by simp⟩
 rw [this,b9V]
theorem b6y {α:Type} {pre post:List α} {x:α}:idx (pre++x::post) (pre.length:Int)=some x:=by
 unfold idx;simp
theorem b3c {α:Type} {pre post:List α} {x:α}:((pre.length:Int)<((pre++x::post).length:Int)):=by simp;omega
theorem a7h {α:Type} {p:Prop} [Decidable p] {k:Option α} (h:p):gd p k=k:=by unfold gd;rw [if_pos h]
theorem b1M {me:Int} {s:b5} (h:a5B me s):B0 s=some s:=by
 have:=h.nslots;have:=h.nbids;have:=h.nheard;have:=h.nleases;have:=h.nloans
 unfold B0 D1 E3 A3 A6 D3
 rw [a7h (by omega),a7h (by omega),a7h (by omega),a7h (by omega),a7h (by omega)]
 rfl
theorem c1l (x:a6):K8 x=some (if M0 x then(some ⟨x⟩,0)else(none,90)):=by
 have e:=c1h x
 unfold Err at e
 unfold K8
 rw [e]
 by_cases h:M0 x
 · rw [if_pos h,if_pos h,b1M h.1,b1M h.2];rfl
 · rw [if_neg h,if_neg h];rfl
theorem a2p {α β:Type} (f:α→List β) (n:Nat) (h:∀x,(f x).length≤n):∀l:List α,(l.flatMap f).length≤n*l.length
 | []=>by simp
 |x::l=>by
  have:=a2p f n h l
  have:=h x
  simp only [List.flatMap_cons,List.length_append,List.length_cons,Nat.mul_add];omega
end Go.Proofs.YtcedmbakcchkiaaGreatDoor
namespace Go.Proofs.YtcedmbakcchkiaaGreatDoor
open Go Go.Sx
open Classical
theorem c2C {z:Int} (h:0≤z∧z≤18446744073709551615):IntKind.u64.wrap z=z:=by
 simp only [IntKind.wrap,IntKind.signed,IntKind.bits]
 simp
 omega
theorem c4H (i j:Nat) (h:i+j≤9223372036854775807):W ((IntKind.u64.wrap (W ((i:Int)+(j:Int)))).fdiv (2^(min (1:Int).toNat IntKind.u64.bits)))=(((i+j) / 2:Nat):Int):=by
 have e:(2:Int)^(min (1:Int).toNat IntKind.u64.bits)=2:=by decide
 rw [e,a6N (z:=(i:Int)+j) (by omega),c2C (by omega),Int.fdiv_eq_ediv_of_nonneg _ (by omega)]
 have e2:((i:Int)+j) / 2=(((i+j) / 2:Nat):Int):=by simp
 rw [e2,a6N (by omega)]
structure Cut {α:Type} (c:α→Int) (l:List α) (i:Nat):Prop where
 le:i≤l.length
 lo:∀k (h:k<l.length),k<i→c l[k]<0
 hi:∀k (h:k<l.length),i≤k→¬c l[k]<0
def bsB {α:Type} (l:List α) (cm:α→Option Int):(Int×Int)→Option (Sum (Int×Int) (Int×Int)):=fun(i,j)=>
 if(decide (i<j))=true then
  Option.bind (idx l (W ((IntKind.u64.wrap (W (i+j))).fdiv (2^(min (1:Int).toNat IntKind.u64.bits))))) fun e=>
  Option.bind (cm e) fun x=>
  if(decide (x<0))=true then
   some (.inl ((W ((W ((IntKind.u64.wrap (W (i+j))).fdiv (2^(min (1:Int).toNat IntKind.u64.bits))))+1)),j))
  else
   some (.inl (i,(W ((IntKind.u64.wrap (W (i+j))).fdiv (2^(min (1:Int).toNat IntKind.u64.bits))))))
 else
  some (.inr (i,j))
def bsM {α:Type} (l:List α) (cm:α→Option Int):Option (Int×Bool):=
 Option.bind (l5 (bsB l cm) (0,(l.length:Int))) fun(i,_)=>
 if(decide (i<(l.length:Int)))=true then
  Option.bind (idx l i) fun e=>
  Option.bind (cm e) fun x=>
  some (i,(x==0))
 else
  some (i,false)
theorem b5I {α:Type} (l:List α) (c:α→Int) (hl:l.length≤1000) (hm:∀i j (hi:i<l.length) (hj:j<l.length),i≤j→c l[j]<0→c l[i]<0) (cm:α→Option Int) (hc:∀x,x∈l→cm x=some (c x)):
 ∃i,Cut c l i∧bsM l cm=some ((i:Int),decide (∃x,l[i]?=some x∧c x=0)):=by
 obtain⟨e,he,i,rfl,hi⟩:=b2b (body:=bsB l cm) (fun st:Int×Int=>∃i j:Nat,st=((i:Int),(j:Int))∧i≤j∧j≤l.length∧(∀k (hk:k<l.length),k<i→c l[k]<0)∧(∀k (hk:k<l.length),j≤k→¬c l[k]<0))
  (fun st=>(st.2-st.1).toNat) (fun st=>∃i:Nat,st=((i:Int),(i:Int))∧Cut c l i) (by
  rintro⟨_,_⟩ ⟨i,j,he,hij,hj,ha,hb⟩
  cases he
  unfold bsB
  by_cases hlt:i<j
  · right
    have c1:(i:Int)<(j:Int):=by omega
    have hmid:(i+j) / 2<l.length:=by omega
    have hx:idx l (((i+j) / 2:Nat):Int)=some l[(i+j) / 2]:=K7 (List.getElem?_eq_getElem hmid)
    simp only [c1,decide_true,if_true,c4H i j (by omega),hx,Option.bind_some,hc _ (List.getElem_mem hmid)]
    by_cases hcc:c l[(i+j) / 2]<0
    · refine⟨((((i+j) / 2+1:Nat):Int),(j:Int)), ?_,⟨(i+j) / 2+1,j,rfl,by omega,hj,fun k hk hki=> ?_,hb⟩,by simp only;omega⟩
      · simp only [hcc,decide_true,if_true]
        rw [a6N (z:=(((i+j) / 2:Nat):Int)+1) (by omega)];rfl
      · exact hm k ((i+j) / 2) hk hmid (by omega) hcc
    · refine⟨((i:Int),(((i+j) / 2:Nat):Int)), ?_,⟨i,(i+j) / 2,rfl,by omega,by omega,ha,fun k hk hki h=>hcc (hm _ _ hmid hk hki h)⟩,by simp only;omega⟩
      simp only [hcc,decide_false,Bool.false_eq_true,if_false]
  · left
    have c1:¬(i:Int)<(j:Int):=by omega
    obtain rfl:i=j:=by omega
    exact⟨_,by simp only [c1,decide_false,Bool.false_eq_true,if_false],i,rfl,hj,ha,hb⟩) (0,(l.length:Int)) ⟨0,l.length,rfl,by omega,by omega,by omega,by omega⟩ (by simp only [a5C];omega)
 refine⟨i,hi, ?_⟩
 unfold bsM
 rw [he]
 have hle:=hi.le
 by_cases h:i<l.length
 · have c1:(i:Int)<(l.length:Int):=by omega
   have hx:idx l (i:Int)=some l[i]:=by simp [idx,h]
   simp only [Option.bind_some,c1,decide_true,if_true,hx,hc _ (List.getElem_mem h),List.getElem?_eq_getElem h,Option.some.injEq,exists_eq_left']
   congr 2
 · have c1:¬(i:Int)<(l.length:Int):=by omega
   simp only [Option.bind_some,c1,decide_false,Bool.false_eq_true,if_false,List.getElem?_eq_none (show l.length≤i by omega)]
   simp
noncomputable def upd {α:Type} (c:α→Int) (new:α) (f:α→α):List α→List α
 | []=> [f new]
 |x::l=>if c x<0 then x::upd c new f l else if c x=0 then f x::l else f new::x::l
theorem b3k {α:Type} {c:α→Int} {new:α} {f:α→α}:∀ {l:List α} {i:Nat},Cut c l i→upd c new f l=l.take i++(match l.drop i with| []=> [f new]|x::r=>if c x=0 then f x::r else f new::x::r)
 | [],i,h=>by simp [upd]
 |x::l,0,h=>by
  have:=h.hi 0 (by simp) (Nat.le_refl _)
  simp only [List.getElem_cons_zero]at this
  simp [upd,this]
 |x::l,i+1,h=>by
  have h0:=h.lo 0 (by simp) (by omega)
  simp only [List.getElem_cons_zero]at h0
  have ih:=b3k (c:=c) (new:=new) (f:=f) (l:=l) (i:=i) ⟨by have:=h.le;simpa using this,fun k hk hki=>h.lo (k+1) (by simpa using hk) (by omega),fun k hk hki=>h.hi (k+1) (by simpa using hk) (by omega)⟩
  simp only [upd,h0,if_true,ih,List.take_succ_cons,List.drop_succ_cons,List.cons_append]
theorem c1c {α:Type} {l:List α} {i:Nat} {x:α} (h:l[i]?=some x):l.drop i=x::l.drop (i+1):=by
 obtain⟨hi,rfl⟩:=List.getElem?_eq_some_iff.1 h
 exact List.drop_eq_getElem_cons hi
theorem c0E {α:Type} {l:List α} {f:α→α→Prop} {c:α→Int} (h:I0 f l) (hc:∀a b,f a b→c b<0→c a<0):∀i j (hi:i<l.length) (hj:j<l.length),i≤j→c l[j]<0→c l[i]<0:=by
 intro i j hi hj hij
 induction j with
 |zero=>
  obtain rfl:i=0:=by omega
  exact id
 |succ j ih=>
  intro h1
  by_cases e:i=j+1
  · subst e;exact h1
  · exact ih (by omega) (by omega) (hc _ _ (h j _ _ (List.getElem?_eq_getElem _) (List.getElem?_eq_getElem hj)) h1)
end Go.Proofs.YtcedmbakcchkiaaGreatDoor
namespace Go.Proofs.YtcedmbakcchkiaaGreatDoor
open Go Go.Sx
open Classical
theorem a9I {S E:Type} {body:S→Option (Sum S E)} (st:Nat→S) (n:Nat) (hn:n≤9223372036854775807) (fin:E) (h:∀k,k<n→body (st k)=some (.inl (st (k+1)))) (he:body (st n)=some (.inr fin)):l5 body (st 0)=some fin:=by
 have key:∀(m k N:Nat),k+m=n→m<N→a0q body N (st k)=some fin:=by
  intro m
  induction m with
  |zero=>
   intro k N hk hN
   cases N with
   |zero=>omega
   |succ N=>
    obtain rfl:k=n:=by omega
    simp only [a0q,he]
  |succ m ih=>
   intro k N hk hN
   cases N with
   |zero=>omega
   |succ N=>
    simp only [a0q,h k (by omega)]
    exact ih (k+1) N (by omega) (by omega)
 exact key n 0 a5C (by omega) (by unfold a5C;omega)
theorem a5Y {α:Type} {l:List α} {k:Nat} {x:α} (h:l[k]?=some x):l.take (k+1)=l.take k++ [x]:=by
 rw [List.take_add_one,h];rfl
noncomputable def a1T {α:Type} (c:α→Int) (new:α) (f:α→α) (l:List α) (i:Nat) (x:α) (k:Nat):List α:=
 if k≤i then l.take k else l.take i++((if c x=0 then [f x]else [f new,x])++(l.take k).drop (i+1))
section
variable {α : Type} {c : α → Int} {new : α} {f : α → α} {l : List α} {i k : Nat} {x y : α}
theorem b8R (h:k<i) (hy:l[k]?=some y):a1T c new f l i x (k+1)=a1T c new f l i x k++ [y]:=by
 unfold a1T
 rw [if_pos (by omega),if_pos (by omega),a5Y hy]
theorem b9Z (hx:l[i]?=some x):a1T c new f l i x (i+1)=a1T c new f l i x i++(if c x=0 then [f x]else [f new,x]):=by
 unfold a1T
 rw [if_neg (by omega),if_pos (Nat.le_refl _)]
 have:(l.take (i+1)).drop (i+1)= []:=List.drop_eq_nil_of_le (by simp;omega)
 rw [this,List.append_nil]
theorem c0w (h:i<k) (hy:l[k]?=some y):a1T c new f l i x (k+1)=a1T c new f l i x k++ [y]:=by
 have hk:=(List.getElem?_eq_some_iff.1 hy).1
 unfold a1T
 rw [if_neg (show¬k+1≤i by omega),if_neg (show¬k≤i by omega),a5Y hy,List.drop_append_of_le_length (by simp;omega)]
 simp
theorem b7C (hc:Cut c l i) (hx:l[i]?=some x):a1T c new f l i x l.length=upd c new f l:=by
 have hi:=(List.getElem?_eq_some_iff.1 hx).1
 unfold a1T
 rw [if_neg (by omega),b3k hc,c1c hx,List.take_length]
 by_cases h0:c x=0<;>simp [h0]
theorem b7c (hx:l[i]?=some x) (hk:k≤l.length):(a1T c new f l i x k).length≤k+1:=by
 have hi:=(List.getElem?_eq_some_iff.1 hx).1
 unfold a1T
 split
 · simp;omega
 · split<;>simp<;>omega
theorem b4q (h:k≤i):a1T c new f l i x k=l.take k:=by unfold a1T;rw [if_pos h]
end
theorem c2x {α:Type} {c:α→Int} {l:List α} {i:Nat} {f:α→α→Prop} (h:Cut c l i) (hr:I0 f l) (hf:∀a b,f a b→¬c a<0→0<c b):∀k y,i<k→l[k]?=some y→0<c y:=by
 intro k y hk hy
 obtain⟨hl,rfl⟩:=List.getElem?_eq_some_iff.1 hy
 obtain⟨m,rfl⟩:∃m,k=m+1:=⟨k-1,by omega⟩
 exact hf _ _ (hr m _ _ (List.getElem?_eq_getElem (by omega)) (List.getElem?_eq_getElem hl)) (h.hi m (by omega) (by omega))
theorem b9k {α:Type} {c:α→Int} {l:List α} {i k:Nat} {y:α} (h:Cut c l i) (hk:k<i) (hy:l[k]?=some y):c y<0:=by
 obtain⟨hl,rfl⟩:=List.getElem?_eq_some_iff.1 hy
 exact h.lo k hl hk
theorem c1Y {α:Type} {c:α→Int} {l:List α} {i k:Nat} {y:α} (h:Cut c l i) (hk:i≤k) (hy:l[k]?=some y):¬c y<0:=by
 obtain⟨hl,rfl⟩:=List.getElem?_eq_some_iff.1 hy
 exact h.hi k hl hk
theorem c1u {α:Type} {c:α→Int} {new:α} {f:α→α} {l:List α} (h:Cut c l l.length):upd c new f l=l++ [f new]:=by
 rw [b3k h,List.drop_length,List.take_length]
theorem c2p {α:Type} (c:α→Int) (l:List α) (hm:∀i j (hi:i<l.length) (hj:j<l.length),i≤j→c l[j]<0→c l[i]<0) (hl:l.length≤1000):∃i,Cut c l i:=by
 obtain⟨i,hi,_⟩:=b5I l c hl hm (fun x=>some (c x)) (fun _ _=>rfl)
 exact⟨i,hi⟩
end Go.Proofs.YtcedmbakcchkiaaGreatDoor
namespace Go.Proofs.YtcedmbakcchkiaaGreatDoor
open Go Go.Sx
open Classical
theorem c2t {x:Int} (h1:¬x<0) (h2:¬x=0):0<x:=by omega
end Go.Proofs.YtcedmbakcchkiaaGreatDoor
namespace Go.Proofs.YtcedmbakcchkiaaGreatDoor
open Go Go.Sx
open Classical
theorem a5L {α R:Type} {body:Int→Option (Sum Int (Sum Int R))} (l:List α) (hl:l.length≤1000) (q:α→Bool) (r:α→R) (h:∀(i:Nat) x,l[i]?=some x→body (i:Int)=some (if q x=true then .inr (.inr (r x))else .inl ((i+1:Nat):Int)))
 (he:body (l.length:Int)=some (.inr (.inl (l.length:Int)))):l5 body 0=some (match l.find? q with|some x=> .inr (r x)|none=> .inl (l.length:Int)):=by
 have:=a8j (R:=R) (body:=body) l (by omega) (fun k (_:Unit)=>(k:Int)) (fun _ x=>if q x=true then .inr (r x)else .inl ()) .inr (fun _=> .inl (l.length:Int)) (fun _ _=>True) (fun pre x post s hp _=>by
  refine⟨?_,fun _ _=>trivial⟩
  rw [h pre.length x (by rw [hp];simp)]
  by_cases hq:q x=true<;>simp [hq]) (fun _ _=>he) () trivial
 rw [show((0:Nat):Int)=0 from rfl]at this
 rw [this]
 have key:∀l:List α,a9u (fun(_:Unit) x=>if q x=true then Sum.inr (r x)else Sum.inl ()) l ()=match l.find? q with|some x=> .inr (r x)|none=> .inl ():=by
  intro l
  induction l with
  |nil=>rfl
  |cons x l ih=>
   unfold a9u
   by_cases hq:q x=true
   · simp [hq]
   · simp [hq,ih]
 rw [key]
 cases l.find? q<;>rfl
def a3a (night:Int) (h:b4):Bool:=decide (h.Night=night)&&qr h.Mask
def a3o (s:b5) (night:Int):Option b4:=s.Heard.find? (a3a night)
theorem b8n {x:a6} (h:M0 x) (night:Int):O1 ⟨x⟩ night=some (match a3o x.Now night with|some y=>(y.Value,true)|none=>(0,false)):=by
 have hn:=h.1.nheard
 unfold O1
 rw [a5L x.Now.Heard (by omega) (a3a night) (fun y=>(y.Value,true)) (fun i y hy=>by
  have hi:=(List.getElem?_eq_some_iff.1 hy).1
  have hlt:((i:Int)<(x.Now.Heard.length:Int)):=by omega
  have hq:=(b1X (h.1.heard y (List.mem_of_getElem? hy)).2.2.2.2).1
  unfold J5 a3a
  simp only [hlt,decide_true,if_true,K7 hy,Option.bind_some,hq,W_s (show i<9223372036854775807 by omega)]
  by_cases g1:y.Night=night<;>by_cases g2:qr y.Mask=true<;>simp [g1,g2]) (by simp [J5])]
 unfold a3o
 cases x.Now.Heard.find? (a3a night)<;>rfl
theorem b6h {x:a6} (h:M0 x) (night:Int):a2d x.Now night=some (match a3o x.Now night with|some y=>y.Value|none=>0):=by
 have hn:=h.1.nheard
 unfold a2d
 rw [a5L x.Now.Heard (by omega) (a3a night) (fun y=>y.Value) (fun i y hy=>by
  have hi:=(List.getElem?_eq_some_iff.1 hy).1
  have hlt:((i:Int)<(x.Now.Heard.length:Int)):=by omega
  unfold Z1 a3a
  simp only [hlt,decide_true,if_true,K7 hy,Option.bind_some,a9W,W_s (show i<9223372036854775807 by omega)]
  by_cases g1:y.Night=night<;>by_cases g2:qr y.Mask=true<;>simp [g1,g2]) (by simp [Z1])]
 unfold a3o
 cases x.Now.Heard.find? (a3a night)<;>rfl
theorem b4B {x:a6} (h:M0 x) {night:Int} {y:b4} (hy:a3o x.Now night=some y):1≤y.Value∧y.Value≤1000000∧y.Night=night∧y∈x.Now.Heard∧qr y.Mask=true:=by
 have hm:=List.mem_of_find?_eq_some hy
 have hq:=List.find?_some hy
 have:=h.1.heard y hm
 unfold a3a at hq
 simp only [Bool.and_eq_true,decide_eq_true_eq]at hq
 exact⟨this.2.2.1.1,this.2.2.1.2,hq.1,hm,hq.2⟩
def b1E (thing from_ until_ t m:Int):Prop:=thing=t∧from_≤m∧m<until_
def b6o (x:a6) (t m:Int):Prop:=if t % 6=x.Me then¬∃l,l∈x.Now.Leases∧b1E l.Thing l.From l.Until t m else∃l,l∈x.Now.Loans∧b1E l.Thing l.From l.Until t m
theorem c4h {x:a6} (h:M0 x) {t:Int} (ht:1≤t∧t≤99) (m:Int):Ans (N7 ⟨x⟩ t m) (b6o x t m):=by
 have n1:=h.1.nleases;have n2:=h.1.nloans
 have hd:c9 t=some (t % 6):=by show some (t.tmod 6)=_;rw [a9i (by omega)]
 unfold N7 b6o
 simp only [hd,Option.bind_some]
 by_cases g:t % 6=x.Me
 · rw [if_pos g,if_pos (by rw [beq_iff_eq];exact g)]
   exact(Q9 x.Now.Leases (by omega) (fun l=>X9 l t m) (fun l=>b1E l.Thing l.From l.Until t m) fun l _=>Ans.ite (by simp) fun _=>Ans.ite (by simp) fun _=> .of).not
 · rw [if_neg g,if_neg (by rw [beq_iff_eq];exact g)]
   exact(Q9 x.Now.Loans (by omega) (fun l=>X7 l t m) (fun l=>b1E l.Thing l.From l.Until t m) fun l _=>Ans.ite (by simp) fun _=>Ans.ite (by simp) fun _=> .of).id
theorem c1V {x:a6} (h:M0 x) {t:Int} (ht:1≤t∧t≤99) (m:Int):Ans (a5N x.Me x.Now (t,m)) (b6o x t m):=by
 have n1:=h.1.nleases;have n2:=h.1.nloans
 unfold a5N b6o
 simp only [a9i (show 0≤t by omega)]
 by_cases g:t % 6=x.Me
 · rw [if_pos g,if_pos (by rw [beq_iff_eq];exact g)]
   rw [a5L x.Now.Leases (by omega) (fun l=>decide (b1E l.Thing l.From l.Until t m)) (fun _=>false) (fun i y hy=>by
    have hi:=(List.getElem?_eq_some_iff.1 hy).1
    have hlt:((i:Int)<(x.Now.Leases.length:Int)):=by omega
    unfold a2g b1E
    simp only [hlt,decide_true,if_true,K7 hy,Option.bind_some,W_s (show i<9223372036854775807 by omega)]
    by_cases g1:y.Thing=t<;>by_cases g2:y.From≤m<;>by_cases g3:m<y.Until<;>simp [g1,g2,g3]) (by simp [a2g])]
   cases hf:x.Now.Leases.find? (fun l=>decide (b1E l.Thing l.From l.Until t m))with
   |none=>
    refine .yes ?_
    rintro⟨l,hl,hc⟩
    have:=List.find?_eq_none.1 hf l hl
    simp [hc]at this
   |some y=>
    refine .no fun hn=>hn ⟨y,List.mem_of_find?_eq_some hf, ?_⟩
    simpa using List.find?_some hf
 · rw [if_neg g,if_neg (by rw [beq_iff_eq];exact g)]
   rw [a5L x.Now.Loans (by omega) (fun l=>decide (b1E l.Thing l.From l.Until t m)) (fun _=>true) (fun i y hy=>by
    have hi:=(List.getElem?_eq_some_iff.1 hy).1
    have hlt:((i:Int)<(x.Now.Loans.length:Int)):=by omega
    unfold a2c b1E
    simp only [hlt,decide_true,if_true,K7 hy,Option.bind_some,W_s (show i<9223372036854775807 by omega)]
    by_cases g1:y.Thing=t<;>by_cases g2:y.From≤m<;>by_cases g3:m<y.Until<;>simp [g1,g2,g3]) (by simp [a2c])]
   cases hf:x.Now.Loans.find? (fun l=>decide (b1E l.Thing l.From l.Until t m))with
   |none=>
    refine .no ?_
    rintro⟨l,hl,hc⟩
    have:=List.find?_eq_none.1 hf l hl
    simp [hc]at this
   |some y=>
    refine .yes ⟨y,List.mem_of_find?_eq_some hf, ?_⟩
    simpa using List.find?_some hf
noncomputable def a1G (l:List Int) (n:Int):List Int:=upd (fun y=>a3D y n) n id l
theorem b5e {l:List Int} (h:l.Pairwise (fun a b=>a<b)):I0 (fun a b=>a<b) l:=fun i a b ha hb=>by
 obtain⟨hi,rfl⟩:=List.getElem?_eq_some_iff.1 ha
 obtain⟨hj,rfl⟩:=List.getElem?_eq_some_iff.1 hb
 exact List.pairwise_iff_getElem.1 h _ _ _ _ (by omega)
theorem b0P (n:Int):∀(l:List Int) (x:Int),x∈a1G l n↔x∈l∨x=n
 | [],x=>by simp [a1G,upd]
 |y::l,x=>by
  have ih:=b0P n l x
  unfold a1G at ih⊢
  unfold upd
  split
  · rw [List.mem_cons,ih,List.mem_cons];simp only [or_assoc]
  · split
    · rename_i h0
      have:=a1Y.1 h0
      simp only [id,List.mem_cons]
      constructor
      · rintro(h|h)
        · exact .inl (.inl h)
        · exact .inl (.inr h)
      · rintro((h|h)|h)
        · exact .inl h
        · exact .inr h
        · left;omega
    · simp only [id,List.mem_cons]
      constructor
      · rintro(h|h|h)
        · exact .inr h
        · exact .inl (.inl h)
        · exact .inl (.inr h)
      · rintro((h|h)|h)
        · exact .inr (.inl h)
        · exact .inr (.inr h)
        · exact .inl h
theorem b6B (n:Int):∀(l:List Int),l.Pairwise (fun a b=>a<b)→(a1G l n).Pairwise (fun a b=>a<b)
 | [],_=>by simp [a1G,upd]
 |y::l,h=>by
  have ih:=b6B n l (List.pairwise_cons.1 h).2
  have h1:=(List.pairwise_cons.1 h).1
  unfold a1G upd
  split
  · rename_i h0
    have h0:=V9.1 h0
    refine List.pairwise_cons.2 ⟨fun z hz=> ?_,ih⟩
    rcases(b0P n l z).1 hz with hz|hz
    · exact h1 z hz
    · omega
  · rename_i h0
    rw [V9]at h0
    split
    · exact h
    · rename_i h2
      rw [a1Y]at h2
      refine List.pairwise_cons.2 ⟨fun z hz=> ?_,h⟩
      simp only [id]
      rcases List.mem_cons.1 hz with rfl|hz
      · omega
      · have:=h1 z hz;omega
theorem c2m {l:List Int} (hl:l.length≤100) (hs:l.Pairwise (fun a b=>a<b)) (n:Int):a5S l n=some (a1G l n):=by
 have hr:=b5e hs
 have hmono:=c0E (c:=fun y=>a3D y n) hr fun a b (hab:a<b) hb=>by rw [V9]at*;omega
 obtain⟨i,hi⟩:=c2p (fun y=>a3D y n) l hmono (by omega)
 have hgt:∀k y,i<k→l[k]?=some y→n<y:=fun k y hk hy=>by
  have:=c2x (c:=fun y=>a3D y n) hi hr (fun a b (hab:a<b) ha=>by
   rw [V9]at ha
   refine c2t ?_ ?_
   · rw [V9];omega
   · rw [a1Y];omega) k y hk hy
  have h1:= @V9 y n
  have h2:= @a1Y y n
  omega
 have hle:=hi.le
 unfold a5S
 by_cases hil:i<l.length
 · obtain⟨e,he⟩:=a1e hil
   have hl:=a9I (body:=N6 l n) (fun k=>(([]:List Int),(if k≤i then false else true),(k:Int),([]:List Int),a1T (fun y=>a3D y n) n id l i e k)) l.length (by omega) (([]:List Int),true,(l.length:Int),([]:List Int),a1G l n) (fun k hk=>by
    obtain⟨y,hy⟩:=a1e hk
    have hlt:((k:Int)<(l.length:Int)):=by omega
    have hw:W ((k:Int)+1)=((k+1:Nat):Int):=W_s (by omega)
    have hol:=b7c (c:=fun y=>a3D y n) (new:=n) (f:=id) (k:=k) he (by omega)
    unfold N6
    rcases Nat.lt_trichotomy k i with g|g|g
    · have hlo:y<n:=V9.1 (b9k (c:=fun y=>a3D y n) hi g hy)
      rw [b8R g hy]
      have n1:(y==n)=false:=by rw [beq_eq_false_iff_ne];omega
      have n2:¬y>n:=by omega
      simp only [hlt,decide_true,if_true,show k≤i by omega,show k+1≤i by omega,K7 hy,Option.bind_some,n1,n2,decide_false,Bool.false_eq_true,if_false,hw,Bool.not_false]
      rw [a7h (by simp;omega)]
    · subst g
      rw [he]at hy
      obtain rfl:=Option.some.inj hy
      have hhi:=c1Y hi (Nat.le_refl _) he
      rw [V9]at hhi
      rw [b9Z he,b4q (Nat.le_refl _)]
      have hlen:(l.take k).length=k:=by simp;omega
      have nk:¬k+1≤k:=by omega
      simp only [hlt,decide_true,if_true,Nat.le_refl,nk,if_false,K7 he,Option.bind_some,Bool.not_false,hw,id]
      rw [a7h (by simp;omega),a7h (by simp;omega),a7h (by simp;omega)]
      by_cases h0:e=n
      · have n2:a3D e n=0:=a1Y.2 h0
        simp [h0,a1Y]
      · have n1:(e==n)=false:=by rw [beq_eq_false_iff_ne];exact h0
        have n2:e>n:=by omega
        have n3:¬a3D e n=0:=fun h=>h0 (a1Y.1 h)
        simp [n1,n2,n3]
    · have h3:=hgt k y g hy
      rw [c0w g hy]
      have n1:(y==n)=false:=by rw [beq_eq_false_iff_ne];omega
      simp only [hlt,decide_true,if_true,show¬k≤i by omega,show¬k+1≤i by omega,if_false,K7 hy,Option.bind_some,n1,hw,Bool.not_true,Bool.false_eq_true]
      rw [a7h (by simp;omega)]) (by
    rw [b7C hi he]
    simp [N6,show¬l.length≤i by omega,a1G])
   simp only [Nat.zero_le,if_true,b4q (Nat.zero_le i),List.take_zero,show((0:Nat):Int)=0 from rfl]at hl
   rw [hl]
   rfl
 · obtain rfl:i=l.length:=by omega
   have hl:=a9I (body:=N6 l n) (fun k=>(([]:List Int),false,(k:Int),([]:List Int),l.take k)) l.length (by omega) (([]:List Int),false,(l.length:Int),([]:List Int),l) (fun k hk=>by
    obtain⟨y,hy⟩:=a1e hk
    have hlt:((k:Int)<(l.length:Int)):=by omega
    have hw:W ((k:Int)+1)=((k+1:Nat):Int):=W_s (by omega)
    have hlo:y<n:=V9.1 (b9k (c:=fun y=>a3D y n) hi hk hy)
    have n1:(y==n)=false:=by rw [beq_eq_false_iff_ne];omega
    have n2:¬y>n:=by omega
    unfold N6
    rw [a5Y hy]
    simp only [hlt,decide_true,if_true,K7 hy,Option.bind_some,n1,n2,decide_false,Bool.false_eq_true,if_false,hw,Bool.not_false]
    rw [a7h (by simp;omega)]) (by simp [N6])
   simp only [List.take_zero,show((0:Nat):Int)=0 from rfl]at hl
   rw [hl]
   simp only [Option.bind_some,Bool.not_false,if_true]
   rw [a7h (by simp;omega)]
   unfold a1G
   rw [c1u hi]
   rfl
theorem a8u:∀(l a:List Int),a.Pairwise (fun x y=>x<y)→(l.foldl a1G a).Pairwise (fun x y=>x<y)∧∀x,x∈l.foldl a1G a↔x∈a∨x∈l
 | [],a,h=>⟨h,fun x=>by simp⟩
 |n::l,a,h=>by
  obtain⟨h1,h2⟩:=a8u l (a1G a n) (b6B n a h)
  refine⟨h1,fun x=> ?_⟩
  rw [List.foldl_cons,h2 x,b0P,List.mem_cons]
  simp only [or_assoc]
theorem b7V (l:List Int):a4c (a4g l)=l.foldl a1G []:=by
 obtain⟨h1,h2⟩:=a8u l [] List.Pairwise.nil
 refine b6V (b8O (b3p l)) h1 fun x=> ?_
 rw [b7l,b7p,h2 x]
 simp
end Go.Proofs.YtcedmbakcchkiaaGreatDoor
namespace Go.Proofs.YtcedmbakcchkiaaGreatDoor
open Go Go.Sx
open Classical
theorem b4o (l:List Int) (n:Int):(a1G l n).length≤l.length+1:=by
 induction l with
 |nil=>simp [a1G,upd]
 |cons y l ih=>
  unfold a1G at ih⊢
  unfold upd
  split
  · simp only [List.length_cons];omega
  · split<;>simp
theorem b8u {α S:Type} {body:S→Option (Sum S S)} (l:List α) (hl:l.length≤100) (enc:Nat→List Int→S) (em:α→List Int) (hem:∀x,(em x).length≤1)
 (h:∀pre x post s,l=pre++x::post→s.length≤100→s.Pairwise (fun a b=>a<b)→body (enc pre.length s)=some (.inl (enc (pre.length+1) ((em x).foldl a1G s)))) (he:∀s,body (enc l.length s)=some (.inr (enc l.length s))):
 l5 body (enc 0 [])=some (enc l.length ((l.flatMap em).foldl a1G [])):=by
 have:=a8j (R:=S) (body:=body) l (by omega) enc (fun s x=> .inl ((em x).foldl a1G s)) id (fun s=>enc l.length s) (fun pre s=>s.length≤pre.length∧pre.length≤l.length∧s.Pairwise (fun a b=>a<b)) (fun pre x post s hp hs=>by
  refine⟨h pre x post s hp (by omega) hs.2.2,fun s' hs'=> ?_⟩
  simp only [Sum.inl.injEq]at hs'
  subst hs'
  refine⟨?_,by rw [hp];simp,(a8u (em x) s hs.2.2).1⟩
  have hx:=hem x
  match hex:em x with
  | []=>simp;omega
  | [n]=>have:=b4o s n;simp;omega
  |_::_::_=>rw [hex]at hx;simp at hx) (fun s _=>he s) [] ⟨by simp,by simp,List.Pairwise.nil⟩
 rw [this]
 have key:∀(l:List α) (s:List Int),a9u (R:=S) (fun s x=> .inl ((em x).foldl a1G s)) l s= .inl ((l.flatMap em).foldl a1G s):=by
  intro l
  induction l with
  |nil=>intro s;rfl
  |cons x l ih=>intro s;simp only [a9u,ih,List.flatMap_cons,List.foldl_append]
 rw [key]
theorem b3V:∀(l a:List Int),(l.foldl a1G a).length≤a.length+l.length
 | [],a=>by simp
 |n::l,a=>by
  have:=b3V l (a1G a n)
  have:=b4o a n
  simp only [List.foldl_cons,List.length_cons];omega
def b9C (T:Int→Prop) (ok:Int→Prop) (r:Int×Int):Prop:=((∀f,T f→¬ok f)∧r=(0,3))∨∃f,T f∧ok f∧(∀g,T g→ok g→f≤g)∧r=(f,0)
theorem b9C.one {T:Int→Prop} {ok:Int→Prop} {r s:Int×Int} (h1:b9C T ok r) (h2:b9C T ok s):r=s:=by
 rcases h1 with⟨a,rfl⟩|⟨f,a,b,c,rfl⟩
 · rcases h2 with⟨a',rfl⟩|⟨f',a',b',c',rfl⟩
   · rfl
   · exact absurd b' (a f' a')
 · rcases h2 with⟨a',rfl⟩|⟨f',a',b',c',rfl⟩
   · exact absurd b (a' f a)
   · have h1:=c f' a' b'
     have h2:=c' f a b
     have:f=f':=by omega
     rw [this]
end Go.Proofs.YtcedmbakcchkiaaGreatDoor
namespace Go.Proofs.YtcedmbakcchkiaaGreatDoor
open Go Go.Sx
open Classical
def a6g (l:List a6):Prop:=(∀x,x∈l→M0 x)∧I0 (fun a b=>a.Me<b.Me) l
theorem b2o (ok:Nat→Prop):∀n,(∀k,k<n→ok k)∨∃k,k<n∧¬ok k∧∀j,j<k→ok j
 |0=> .inl fun k h=>by omega
 |n+1=>by
  rcases b2o ok n with h|⟨k,h1,h2,h3⟩
  · by_cases hn:ok n
    · exact .inl fun k hk=>by
       by_cases e:k=n
       · rw [e];exact hn
       · exact h k (by omega)
    · exact .inr ⟨n,by omega,hn,h⟩
  · exact .inr ⟨k,by omega,h2,h3⟩
def b0L (l:List a6) (k:Nat):Prop:=(∀x,l[k]?=some x→M0 x)∧(0<k→∀a,l[k-1]?=some a→∀b,l[k]?=some b→a.Me<b.Me)
theorem a8a (l:List a6):(∀k,k<l.length→b0L l k)↔a6g l:=by
 have:=a7m l M0 (fun a b=>a.Me<b.Me)
 unfold a6g
 rw [←this]
 exact forall_congr' fun i=>⟨fun h _ hi=>h hi,fun h hi=>h (Nat.zero_le _) hi⟩
theorem c1R {l:List a6}:∀(k:Nat) (x:a6),(∀j,j≤k→b0L l j)→l[k]?=some x→(k:Int)≤x.Me
 |0,x,h,hx=>by have:=((h 0 (Nat.le_refl _)).1 x hx).1.dep;omega
 |k+1,x,h,hx=>by
  obtain⟨y,hy⟩:=a1e (l:=l) (i:=k) (by have:=(List.getElem?_eq_some_iff.1 hx).1;omega)
  have h1:=c1R k y (fun j hj=>h j (by omega)) hy
  have h2:=(h (k+1) (Nat.le_refl _)).2 (by omega) y (by simpa using hy) x hx
  omega
theorem b8X {l:List a6} {k:Nat} (h:∀j,j<k→b0L l j) (hk:k≤l.length):k≤6:=by
 cases k with
 |zero=>omega
 |succ k=>
  obtain⟨x,hx⟩:=a1e (l:=l) (i:=k) (by omega)
  have h1:=c1R k x (fun j hj=>h j (by omega)) hx
  have h2:=((h k (by omega)).1 x hx).1.dep
  omega
theorem a6g.len {l:List a6} (h:a6g l):l.length≤6:=b8X ((a8a l).2 h) (Nat.le_refl _)
def a0N (l:List a6):List (Option e8):=l.map fun x=>some ⟨x⟩
theorem b2q (l:List a6) (hl:l.length≤9223372036854775807):S7 l=some (if a6g l then(a0N l,0)else([],97)):=by
 have step:∀k x,l[k]?=some x→(∀j,j<k→b0L l j)→F7 l ([],(k:Int),a0N (l.take k))=some (if b0L l k then .inl ([],((k+1:Nat):Int),a0N (l.take (k+1)))else .inr (.inr ([],97))):=by
  intro k x hx hall
  have hk:=(List.getElem?_eq_some_iff.1 hx).1
  have h6:=b8X hall (by omega)
  have hlt:((k:Int)<(l.length:Int)):=by omega
  have hw:W ((k:Int)+1)=((k+1:Nat):Int):=W_s (by omega)
  have hlen:(a0N (l.take k)).length=k:=by simp [a0N];omega
  have hpost:a0N (l.take (k+1))=a0N (l.take k)++ [some ⟨x⟩]:=by rw [a5Y hx];simp [a0N]
  unfold F7
  simp only [hlt,decide_true,if_true,K7 hx,Option.bind_some,c1l,hw]
  by_cases hv:M0 x
  · simp only [hv,if_true,b2Y,bne_self_eq_false,Bool.false_eq_true,if_false]
    rw [a7h (by rw [hlen];simp;omega)]
    by_cases h0:0<k
    · obtain⟨y,hy⟩:=a1e (l:=l) (i:=k-1) (by omega)
      have h00:(k:Int)>0:=by omega
      simp only [h00,decide_true,if_true,a6c h0 (by omega),K7 hy,Option.bind_some]
      by_cases hm:y.Me≥x.Me
      · have:¬b0L l k:=fun h=>by have:=h.2 h0 y hy x hx;omega
        simp only [hm,this,decide_true,if_true,if_false]
      · have:b0L l k:=⟨fun z hz=>by rw [hx]at hz;cases hz;exact hv,fun _ a ha b hb=>by rw [hy]at ha;rw [hx]at hb;cases ha;cases hb;omega⟩
        simp only [hm,this,decide_false,Bool.false_eq_true,if_true,if_false,hpost]
    · have h00:¬((k:Int)>0):=by omega
      have:b0L l k:=⟨fun z hz=>by rw [hx]at hz;cases hz;exact hv,fun h=>absurd h h0⟩
      simp only [h00,this,decide_false,Bool.false_eq_true,if_true,if_false,hpost]
  · have:¬b0L l k:=fun h=>hv (h.1 x hx)
    have n90:((90:Int) !=0)=true:=rfl
    simp only [hv,this,if_false,b2Y,n90,if_true]
 unfold S7
 rcases b2o (b0L l) l.length with h|⟨k,h1,h2,h3⟩
 · have hv:=(a8a l).1 h
   have hl2:=a9I (body:=F7 l) (fun k=>([],(k:Int),a0N (l.take k))) l.length hl (.inl ([],(l.length:Int),a0N l)) (fun k hk=>by
    obtain⟨x,hx⟩:=a1e hk
    rw [step k x hx (fun j hj=>h j (by omega)),if_pos (h k hk)]) (by simp [F7])
   rw [show a0N (l.take 0)= [] from rfl,show((0:Nat):Int)=0 from rfl]at hl2
   rw [hl2,if_pos hv]
   rfl
 · have hv:¬a6g l:=fun hv=>h2 ((a8a l).2 hv k h1)
   have hl2:=a9I (body:=F7 l) (fun k=>([],(k:Int),a0N (l.take k))) k (by omega) (.inr ([],97)) (fun j hj=>by
    obtain⟨x,hx⟩:=a1e (l:=l) (i:=j) (by omega)
    rw [step j x hx (fun i hi=>h3 i (by omega)),if_pos (h3 j hj)]) (by
    obtain⟨x,hx⟩:=a1e h1
    rw [step k x hx h3,if_neg h2])
   rw [show a0N (l.take 0)= [] from rfl,show((0:Nat):Int)=0 from rfl]at hl2
   rw [hl2,if_neg hv]
   rfl
theorem b9P (l:List a6) (hl:l.length≤9223372036854775807):Ans (a5Q l) (a6g l):=by
 refine(b2h (n:=(l.length:Int)) (most:=6) (P:=a6g l) fun h=>(a0G l.length hl (b0L l) (fun i hi=> ?_) (by simp [a1Z])).iff (a8a l)).iff ⟨fun h=>h.2,fun h=>⟨by have:=h.len;omega,h⟩⟩
 refine b0Q hi fun x hx=> ?_
 have hlt:((i:Int)<(l.length:Int)):=by omega
 have e:=b9g x
 unfold Err at e
 unfold a1Z
 simp only [hlt,decide_true,if_true,K7 hx,Option.bind_some,e]
 refine Rnd.ite (by by_cases hv:M0 x<;>simp [hv]) fun hv=> ?_
 by_cases h0:0<i
 · obtain⟨y,hy⟩:=a1e (l:=l) (i:=i-1) (by omega)
   have h00:(i:Int)>0:=by omega
   simp only [h00,decide_true,if_true,a6c h0 (by omega),K7 hy,Option.bind_some]
   exact(Rnd.ite (P:=y.Me<x.Me) (by simp) fun _=> .go trivial).iff (by rw [hy];simp [h0])
 · have h00:¬((i:Int)>0):=by omega
   simp only [h00,decide_false,Bool.false_eq_true,if_false]
   exact .go fun h=>absurd h h0
noncomputable def a4y (t m:Int) (x:a6):List Int:=if b6o x t m then [x.Me]else []
theorem a6C (t m:Int) (x:a6):(a4y t m x).length≤1:=by unfold a4y;split<;>simp
noncomputable def a6O (l:List a6) (t m:Int):List Int×Int:=if a6g l then(if 1≤t∧t≤99 then(if 0≤m∧m≤144001439 then(l.flatMap (a4y t m),0)else([],95))else([],1))else([],97)
theorem b2g {pre post:List a6} {x:a6}:idx (a0N (pre++x::post)) (pre.length:Int)=some (some ⟨x⟩):=by
 unfold a0N idx;simp
theorem a5U (l:List a6):(a0N l).length=l.length:=by simp [a0N]
theorem b9j (l:List a6) (hl:l.length≤9223372036854775807) (t m:Int):a0W l t m=some (a6O l t m):=by
 unfold a0W a6O
 rw [b2q l hl,(a8w t).eq,(a7d m).eq]
 by_cases h:a6g l
 · have h6:=h.len
   simp only [h,if_true,Option.bind_some,bne_self_eq_false,Bool.false_eq_true,if_false]
   by_cases h1:1≤t∧t≤99
   · by_cases h2:0≤m∧m≤144001439
     · have hlp:=b0Y (body:=N9 t m (a0N l)) l (by omega) (fun k a=>(a,(k:Int))) (a4y t m) [] (by simp) (fun y=>by have:=a6C t m y;omega) (fun pre y post a hp ha=>by
        have hw:W ((pre.length:Int)+1)=((pre.length+1:Nat):Int):=W_s (by rw [hp]at h6;simp at h6;omega)
        have hy:=h.1 y (by rw [hp];simp)
        unfold N9 a4y
        simp only [a5U,hp,b3c,decide_true,if_true,b2g,Option.bind_some,hw,(c4h hy h1 m).eq]
        by_cases g:b6o y t m<;>simp [g,gd]<;>omega) (fun a=>by simp [N9,a5U])
       simp only [show((0:Nat):Int)=0 from rfl,List.nil_append]at hlp
       simp only [h1,h2,and_self,decide_true,Bool.not_true,Bool.false_eq_true,if_false,if_true,hlp,Option.bind_some]
     · simp [h1,h2]
   · simp [h1]
 · simp [h]
theorem b7o (l:List a6) (hl:l.length≤9223372036854775807) (t m:Int):a3d l t m=some (a6O l t m):=by
 unfold a3d a6O
 rw [(b9P l hl).eq,(a7e t).eq,(a1C m).eq]
 by_cases h:a6g l
 · have h6:=h.len
   simp only [h,if_true,Option.bind_some,decide_true,Bool.not_true,Bool.false_eq_true,if_false]
   by_cases h1:1≤t∧t≤99
   · by_cases h2:0≤m∧m≤144001439
     · have hlp:=b0Y (body:=V1 l t m) l (by omega) (fun k a=>(a,(k:Int))) (a4y t m) [] (by simp) (fun y=>by have:=a6C t m y;omega) (fun pre y post a hp ha=>by
        have hw:W ((pre.length:Int)+1)=((pre.length+1:Nat):Int):=W_s (by rw [hp]at h6;simp at h6;omega)
        have hy:=h.1 y (by rw [hp];simp)
        unfold V1 a4y
        simp only [hp,b3c,decide_true,if_true,b6y,Option.bind_some,hw,(c1V hy h1 m).eq]
        by_cases g:b6o y t m<;>simp [g,gd]<;>omega) (fun a=>by simp [V1])
       simp only [show((0:Nat):Int)=0 from rfl,List.nil_append]at hlp
       simp only [h1,h2,and_self,decide_true,Bool.not_true,Bool.false_eq_true,if_false,if_true,hlp,Option.bind_some]
     · simp [h1,h2]
   · simp [h1]
 · simp [h]
def a0L (night:Int) (x:a6):List Int:=match a3o x.Now night with|some y=> [y.Value]|none=> []
theorem a3b (night:Int) (x:a6):(a0L night x).length≤1:=by unfold a0L;split<;>simp
noncomputable def a2M (l:List a6) (night:Int):List Int×Int:=if a6g l then(if 0≤night∧night≤100000 then((l.flatMap (a0L night)).foldl a1G [],0)else([],6))else([],97)
theorem b5F (l:List a6) (hl:l.length≤9223372036854775807) (night:Int):W8 l night=some (a2M l night):=by
 unfold W8 a2M
 rw [b2q l hl,(a6d night).eq]
 by_cases h:a6g l
 · have h6:=h.len
   simp only [h,if_true,Option.bind_some,bne_self_eq_false,Bool.false_eq_true,if_false]
   by_cases h1:0≤night∧night≤100000
   · have hlp:=b0Y (body:=K2 night (a0N l)) l (by omega) (fun k a=>(a,(k:Int))) (a0L night) [] (by simp) (fun y=>by have:=a3b night y;omega) (fun pre y post a hp ha=>by
      have hw:W ((pre.length:Int)+1)=((pre.length+1:Nat):Int):=W_s (by rw [hp]at h6;simp at h6;omega)
      have hy:=h.1 y (by rw [hp];simp)
      unfold K2 a0L
      simp only [a5U,hp,b3c,decide_true,if_true,b2g,Option.bind_some,hw,b8n hy]
      cases a3o y.Now night with
      |none=>simp
      |some z=>simp [gd];omega) (fun a=>by simp [K2,a5U])
     have hfl:=a2p (a0L night) 1 (a3b night) l
     simp only [show((0:Nat):Int)=0 from rfl,List.nil_append]at hlp
     simp only [h1,and_self,decide_true,Bool.not_true,Bool.false_eq_true,if_false,if_true,hlp,Option.bind_some]
     unfold E9 O9
     rw [a7h (by omega)]
     simp only [Option.bind_some,b7V]
   · simp [h1]
 · simp [h]
theorem b4f (l:List a6) (hl:l.length≤9223372036854775807) (night:Int):a1x l night=some (a2M l night):=by
 unfold a1x a2M
 rw [(b9P l hl).eq,(a2w night).eq]
 by_cases h:a6g l
 · have h6:=h.len
   simp only [h,if_true,Option.bind_some,decide_true,Bool.not_true,Bool.false_eq_true,if_false]
   by_cases h1:0≤night∧night≤100000
   · have hlp:=b8u (body:=P6 l night) l (by omega) (fun k a=>(a,(k:Int))) (a0L night) (a3b night) (fun pre y post a hp ha hs=>by
      have hw:W ((pre.length:Int)+1)=((pre.length+1:Nat):Int):=W_s (by rw [hp]at h6;simp at h6;omega)
      have hy:=h.1 y (by rw [hp];simp)
      unfold P6 a0L
      simp only [hp,b3c,decide_true,if_true,b6y,Option.bind_some,hw,b6h hy]
      cases hz:a3o y.Now night with
      |none=>simp
      |some z=>
       have:=b4B hy hz
       have hn:(z.Value !=0)=true:=by rw [bne_iff_ne];omega
       simp only [hn,if_true,c2m ha hs,Option.bind_some,List.foldl_cons,List.foldl_nil]) (fun a=>by simp [P6])
     simp only [show((0:Nat):Int)=0 from rfl]at hlp
     simp only [h1,and_self,decide_true,Bool.not_true,Bool.false_eq_true,if_false,if_true,hlp,Option.bind_some]
   · simp [h1]
 · simp [h]
theorem b6f (l:List a6) (t m:Int):(a6O l t m).1.length≤1000:=by
 unfold a6O
 by_cases h:a6g l
 · have:=h.len
   have:=a2p (a4y t m) 1 (a6C t m) l
   rw [if_pos h]
   split
   · split
     · show(l.flatMap (a4y t m)).length≤1000;omega
     · simp
   · simp
 · rw [if_neg h];simp
theorem b3n (l:List a6) (night:Int):(a2M l night).1.length≤1000:=by
 unfold a2M
 by_cases h:a6g l
 · have:=h.len
   have:=a2p (a0L night) 1 (a3b night) l
   have:=b3V (l.flatMap (a0L night)) []
   rw [if_pos h]
   split
   · show((l.flatMap (a0L night)).foldl a1G []).length≤1000
     simp only [List.length_nil]at*;omega
   · simp
 · rw [if_neg h];simp
end Go.Proofs.YtcedmbakcchkiaaGreatDoor
namespace Go.Proofs.YtcedmbakcchkiaaGreatDoor
open Go Go.Sx
set_option maxRecDepth 100000
def SB0:b5:=⟨0, [], [], [], [], []⟩
def SB1:b5:=⟨1, [], [⟨4,7,77,0,14,false⟩], [], [], []⟩
def SB2:b5:=⟨1, [], [⟨4,7,77,0,46,true⟩], [], [], []⟩
def SL:a6:=⟨2,⟨0, [], [], [], [⟨1,8,0,100,200⟩], []⟩,SB0⟩
theorem sn1:a8n=some (⟨1,SB1,SB0⟩,true):=by decide+kernel
theorem sn2:Y7 ⟨1,SB1,SB0⟩ ⟨2,5,1,4,7,0,0,0,0,0,0⟩=some (⟨1,SB2,SB0⟩,0):=by decide+kernel
theorem sn3:a2q ⟨1,SB2,SB0⟩=some (⟨1,SB2,SB2⟩,0):=by decide+kernel
theorem sn4:a2E ⟨1,SB2,SB2⟩ 2=some ([⟨3,1,2,4,7,0,77,0,0,0,0⟩],0):=by decide+kernel
theorem sn5:a0K 2=some (⟨2,SB0,SB0⟩,0):=by decide+kernel
theorem sn6:O7 ⟨2,SB0,SB0⟩ 8 0 100 200=some (SL,0):=by decide+kernel
theorem sn7:R5 SL 8 150=some (false,0):=by decide+kernel
theorem sn8:R5 SL 8 200=some (true,0):=by decide+kernel
theorem sn9:O7 SL 8 1 150 250=some (⟨0,SB0,SB0⟩,93):=by decide+kernel
theorem sna:E9 [150,200]=some [150,200]:=by
 have:a4g [150,200]= [150,200]:=List.mergeSort_of_pairwise (by simp)
 unfold E9
 rw [this];rfl
theorem snb:K8 SL=some (some ⟨SL⟩,0):=by decide+kernel
theorem snc:l5 (a1t 8 150 ⟨SL⟩) (0, [150])=some (1, [150,200]):=by decide+kernel
theorem snd:(Option.bind (l5 (a1l 8 150 250 ⟨SL⟩ [150,200]) 0) fun e=>match e with| .inl _=>some ((0:Int),(3:Int))| .inr r=>some r)=some (200,0):=by decide+kernel
theorem sne:s5 8=some true:=by decide+kernel
theorem snf:d6 150=some true:=by decide+kernel
theorem sng:d6 250=some true:=by decide+kernel
theorem snh:Y6 SL 8 150 250=some (200,0):=by
 unfold Y6
 rw [snb]
 have h2:((SL.Me !=SL.Me)=true)=False:=by simp
 simp only [Option.bind_some,b2Y,sne,snf,sng,snc,sna,show((0:Int) !=0)=false from rfl,Bool.false_eq_true,if_false,Bool.not_true,c9,show((8:Int).tmod 6 !=SL.Me)=false from rfl,show decide ((150:Int)>250)=false from rfl]
 exact snd
theorem sni:a0T SB1=some (⟨#[114,111,117,110,100,32,49,10,98,105,100,32,52,32,55,32,55,55,32,48,32,49,52,32,48,10]⟩,0):=by decide+kernel
theorem snj:Z5 [⟨3,1,2,4,7,0,77,0,0,0,0⟩] [⟨3,1,2,4,7,0,77,0,0,0,0⟩]=some true:=by decide+kernel
theorem c1F:a4z=some true:=by
 unfold a4z
 rw [sn1,Option.bind_some]
 dsimp only
 rw [sn2,Option.bind_some]
 dsimp only
 rw [sn3,Option.bind_some]
 dsimp only
 rw [sn4,Option.bind_some]
 dsimp only
 rw [if_neg (by decide),if_neg (by decide),if_neg (by decide),if_neg (by decide),if_neg (by decide),if_neg (by decide)]
 rw [show idx SB1.Bids 0=some ⟨4,7,77,0,14,false⟩ from rfl,Option.bind_some,if_pos (by decide)]
 rw [show idx SB2.Bids 0=some ⟨4,7,77,0,46,true⟩ from rfl,Option.bind_some]
 rw [snj,Option.bind_some,sn5,Option.bind_some]
 dsimp only
 rw [sn6,Option.bind_some]
 dsimp only
 rw [sn7,Option.bind_some]
 dsimp only
 rw [sn8,Option.bind_some]
 dsimp only
 rw [sn9,Option.bind_some]
 dsimp only
 rw [snh,Option.bind_some]
 dsimp only
 rw [sni,Option.bind_some]
 dsimp only
 rw [if_pos (by decide),if_pos (by decide),if_pos (by decide),if_pos (by decide),if_pos (by decide),if_pos (by decide),if_pos (by decide),if_pos (by decide),if_pos (by decide),if_pos (by decide),if_pos (by decide),if_pos (by decide)]
 rw [beq_self_eq_true]
end Go.Proofs.YtcedmbakcchkiaaGreatDoor
namespace Go.Proofs.YtcedmbakcchkiaaGreatDoor
open Go Go.Sx
open Classical
theorem b3l (l:List a6) (at_:Int×Int) (night:Int) (h:(l.length*264≤reachBytes∧l.length≤maxLen∧∀y:a6,y∈l→a6.G y)) (_:(InK .i64 at_.1∧InK .i64 at_.2)) (_:InK .i64 night):a1M l at_ night=some true:=by
 have hl:l.length≤9223372036854775807:=by have:=h.2.1;unfold maxLen at this;omega
 have s1:=a6m (a6O l at_.1 at_.2).1 (by have:=b6f l at_.1 at_.2;omega)
 have s2:=a6m (a2M l night).1 (by have:=b3n l night;omega)
 unfold a1M
 rw [b9j l hl,b7o l hl,b5F l hl,b4f l hl]
 simp only [Option.bind_some,s1,s2,beq_self_eq_true,if_true,c1F]
end Go.Proofs.YtcedmbakcchkiaaGreatDoor
