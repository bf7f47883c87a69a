/- What may be read at the types of the statement's parameters; plain facts. -/
import Derived.Test.YtcedmbakcchkiaaGreatDoorL2
set_option linter.unusedVariables false
set_option linter.unusedSimpArgs false
namespace Go.Proofs.YtcedmbakcchkiaaGreatDoor
open Go Go.RowKit Go.Sx
def a1A.G (x:a1A):Prop:=InK .i64 x.Kind∧InK .i64 x.Depot∧InK .i64 x.Night∧InK .i64 x.Value∧InK .i64 x.Thing∧InK .i64 x.To∧InK .i64 x.From∧InK .i64 x.Long∧InK .i64 x.Pick
theorem c5H:M6 Tryz.prog 63 a1A.c a1A.G:=
 (M6.struct Tryz.underlying63 (a0e.cons (s:=1) (M6.int Tryz.underlying3) (a0e.cons (s:=1) (M6.int Tryz.underlying3) (a0e.cons (s:=1) (M6.int Tryz.underlying3) (a0e.cons (s:=1) (M6.int Tryz.underlying3) (a0e.cons (s:=1) (M6.int Tryz.underlying3) (a0e.cons (s:=1) (M6.int Tryz.underlying3) (a0e.cons (s:=1) (M6.int Tryz.underlying3) (a0e.cons (s:=1) (M6.int Tryz.underlying3) (a0e.last (s:=1) (M6.int Tryz.underlying3) rfl (by kernel_rfl) rfl) rfl (by kernel_rfl)) rfl (by kernel_rfl)) rfl (by kernel_rfl)) rfl (by kernel_rfl)) rfl (by kernel_rfl)) rfl (by kernel_rfl)) rfl (by kernel_rfl)) rfl (by kernel_rfl)) (by kernel_rfl)).iso (fun x=>(⟨x.1,x.2.1,x.2.2.1,x.2.2.2.1,x.2.2.2.2.1,x.2.2.2.2.2.1,x.2.2.2.2.2.2.1,x.2.2.2.2.2.2.2.1,x.2.2.2.2.2.2.2.2⟩:a1A)) (fun _=>rfl) (fun _ h=>h)
theorem c4N:M6 Tryz.prog 70 (fun l:(List a1A)=> [.lst 9 l.length (l.flatMap a1A.c)]) (fun l=>(l.length*72≤reachBytes∧l.length≤maxLen∧∀y:a1A,y∈l→a1A.G y)):=
 M6.slice Tryz.underlying70 c5H (by kernel_rfl) (by kernel_rfl) (fun _=>rfl) (fun _=>rfl) (by decide)
end Go.Proofs.YtcedmbakcchkiaaGreatDoor
namespace Go.Proofs.YtcedmbakcchkiaaGreatDoor
open Go Go.Sx
theorem a2v {z:Int} (h: -9223372036854775808≤z∧z≤9223372036854775807):W z=z:=b7Q h
theorem W_s {k:Nat} (h:k<9223372036854775807):W ((k:Int)+1)=((k+1:Nat):Int):=c4m h
def b1c {R:Type} (q:Nat→Option R):Nat→Nat→Sum Nat R
 |k,0=> .inl k
 |k,m+1=>match q k with|none=>b1c q (k+1) m|some r=> .inr r
theorem a1S {R:Type} {body:Int→Option (Sum Int (Sum Int R))} (n:Nat) (hn:n≤9223372036854775807) (q:Nat→Option R) (k:Nat) (hk:k≤n)
 (h:∀i,k≤i→i<n→body (i:Int)=some (match q i with|none=> .inl ((i+1:Nat):Int)|some r=> .inr (.inr r)))
 (he:body (n:Int)=some (.inr (.inl (n:Int)))):
 A5 body (k:Int)=some (match b1c q k (n-k)with| .inl j=> .inl (j:Int)| .inr r=> .inr r):=by
 have key:∀(m k N:Nat),k+m=n→m<N→(∀i,k≤i→i<n→body (i:Int)=some (match q i with|none=> .inl ((i+1:Nat):Int)|some r=> .inr (.inr r)))→
  a1M body N (k:Int)=some (match b1c q k m with| .inl j=> .inl (j:Int)| .inr r=> .inr r):=by
  intro m
  induction m with
  |zero=>
   intro k N hkm hN _
   cases N with
   |zero=>omega
   |succ N=>
    have:k=n:=by omega
    subst this
    simp only [a1M,he,b1c]
  |succ m ih=>
   intro k N hkm hN hb
   cases N with
   |zero=>omega
   |succ N=>
    simp only [a1M,hb k (Nat.le_refl _) (by omega),b1c]
    cases hq:q k with
    |none=>exact ih (k+1) N (by omega) (by omega) (fun i h1 h2=>hb i (by omega) h2)
    |some r=>rfl
 exact key (n-k) k a4v (by omega) (by unfold a4v;omega) h
theorem a2J {R:Type} {q:Nat→Option R}:∀(m k:Nat),(∀i,k≤i→i<k+m→q i=none)→b1c q k m= .inl (k+m)
 |0,k,_=>rfl
 |m+1,k,h=>by
  simp only [b1c,h k (Nat.le_refl _) (by omega)]
  rw [a2J m (k+1) (fun i h1 h2=>h i (by omega) (by omega))]
  congr 1;omega
theorem a6V {R:Type} {q:Nat→Option R}:∀(m k i:Nat),k≤i→i<k+m→q i≠none→∃j r,k≤j∧j<k+m∧q j=some r∧b1c q k m= .inr r
 |0,k,i,h1,h2,_=>by omega
 |m+1,k,i,h1,h2,h3=>by
  cases hq:q k with
  |some r=>exact⟨k,r,Nat.le_refl _,by omega,hq,by simp only [b1c,hq]⟩
  |none=>
   have:k≠i:=fun e=>h3 (e▸hq)
   obtain⟨j,r,a,b,c,d⟩:=a6V m (k+1) i (by omega) (by omega) h3
   exact⟨j,r,by omega,by omega,c,by simp only [b1c,hq,d]⟩
theorem c0L {body:Int→Option (Sum Int (Sum Int Bool))} (n:Nat) (hn:n≤9223372036854775807) (q:Nat→Prop) [DecidablePred q] (k:Nat) (hk:k≤n)
 (h:∀i,k≤i→i<n→body (i:Int)=some (if q i then .inl ((i+1:Nat):Int)else .inr (.inr false)))
 (he:body (n:Int)=some (.inr (.inl (n:Int)))) (ans:Bool) (hb:ans=true↔∀i,k≤i→i<n→q i):
 (A5 body (k:Int)).bind (fun e=>match e with| .inl _=>some true| .inr r=>some r)=some ans:=by
 rw [a1S n hn (fun i=>if q i then none else some false) k hk (fun i h1 h2=>by rw [h i h1 h2];by_cases hq:q i<;>simp [hq]) he]
 by_cases hall:∀i,k≤i→i<n→q i
 · rw [a2J _ _ (fun i h1 h2=>by simp [hall i h1 (by omega)])]
   simp only [Option.bind_some,hb.2 hall]
 · have:∃i,k≤i∧i<n∧¬q i:=by
    refine Classical.byContradiction fun hn2=>hall fun i h1 h2=>Classical.byContradiction fun h3=>hn2 ⟨i,h1,h2,h3⟩
   obtain⟨i,h1,h2,h3⟩:=this
   obtain⟨j,r,a,b,c,d⟩:=a6V (q:=fun i=>if q i then none else some false) (n-k) k i h1 (by omega) (by simp [h3])
   have hr:r=false:=by
    by_cases hqj:q j
    · simp [hqj]at c
    · simpa [hqj]using c.symm
   rw [d,hr]
   have:ans=false:=by cases ans with|true=>exact absurd (hb.1 rfl) hall|false=>rfl
   simp only [Option.bind_some,this]
theorem b9y {body:Int→Option (Sum Int (Sum Int Bool))} (n:Nat) (hn:n≤9223372036854775807) (q:Nat→Prop) (k:Nat) (hk:k≤n)
 (h:∀i,k≤i→i<n→(q i∧body (i:Int)=some (.inl ((i+1:Nat):Int)))∨(¬q i∧body (i:Int)=some (.inr (.inr false))))
 (he:body (n:Int)=some (.inr (.inl (n:Int)))) (ans:Bool) (hb:ans=true↔∀i,k≤i→i<n→q i):
 (A5 body (k:Int)).bind (fun e=>match e with| .inl _=>some true| .inr r=>some r)=some ans:=by
 letI:DecidablePred q:=fun _=>Classical.propDecidable _
 exact c0L n hn q k hk (fun i h1 h2=>by rcases h i h1 h2 with⟨a,b⟩|⟨a,b⟩<;>simp only [b,a,if_true,if_false]) he ans hb
theorem b4H {α:Type} (l:List α) (hl:l.length≤9223372036854775807) (P:α→Option Bool) (p:α→Bool) (hP:∀x,x∈l→P x=some (p x)):
 (Option.bind (Option.bind (A5 (fun(v:Int)=>if(decide (v<(l.length:Int)))=true then Option.bind (idx l v) fun e=>Option.bind (P e) fun x=>if x=true then some (.inr (.inr v))else some (.inl (W (v+1)))else some (.inr (.inl v))) 0)
  fun(e:Sum Int Int)=>match e with| .inl _=>some (-1)| .inr r=>some r) fun x=>some (decide (x≥0)))=some (l.any p):=by
 have hs:=a1S (body:=fun(v:Int)=>if(decide (v<(l.length:Int)))=true then Option.bind (idx l v) fun e=>Option.bind (P e) fun x=>if x=true then some (.inr (.inr v))else some (.inl (W (v+1)))else some (.inr (.inl v)))
  l.length hl (fun i=>match l[i]? with|some x=>if p x then some (i:Int)else none|none=>none) 0 (Nat.zero_le _) (fun i _ h2=>by
   have hx:idx l (i:Int)=some l[i]:=by simp [idx,h2]
   have hlt:((i:Int)<(l.length:Int)):=by omega
   simp only [hlt,decide_true,if_true,hx,Option.bind_some,hP _ (List.getElem_mem h2),List.getElem?_eq_getElem h2]
   by_cases hp:p l[i]=true
   · simp [hp]
   · simp [hp];exact W_s (by omega)) (by simp)
 rw [show((0:Int))=((0:Nat):Int) from rfl,hs]
 by_cases hany:l.any p=true
 · rw [hany]
   obtain⟨x,hx,hpx⟩:=List.any_eq_true.1 hany
   obtain⟨i,hi,rfl⟩:=List.getElem_of_mem hx
   obtain⟨j,r,a,b,c,d⟩:=a6V (q:=fun i=>match l[i]? with|some x=>if p x then some (i:Int)else none|none=>none) (l.length-0) 0 i (Nat.zero_le _) (by omega) (by simp [List.getElem?_eq_getElem hi,hpx])
   rw [d]
   have hj:j<l.length:=by omega
   simp only [List.getElem?_eq_getElem hj]at c
   split at c
   · simp only [Option.some.injEq]at c
     subst c
     simp
   · cases c
 · rw [a2J _ _ (fun i _ h2=>by
    have hi:i<l.length:=by omega
    simp only [List.getElem?_eq_getElem hi]
    rw [if_neg]
    intro hp
    exact hany (List.any_eq_true.2 ⟨l[i],List.getElem_mem hi,hp⟩))]
   simp [Bool.not_eq_true _▸hany]
end Go.Proofs.YtcedmbakcchkiaaGreatDoor
namespace Go.Proofs.YtcedmbakcchkiaaGreatDoor
open Go Go.Sx
open Classical
def Ans (m:Option Bool) (P:Prop):Prop:=∃b,m=some b∧(b=true↔P)
theorem Ans.eq {m:Option Bool} {P:Prop} (h:Ans m P):m=some (decide P):=by
 obtain⟨b,rfl,hb⟩:=h
 congr 1
 by_cases hp:P
 · rw [hb.2 hp];simp [hp]
 · have:b=false:=by cases b with|false=>rfl|true=>exact absurd (hb.1 rfl) hp
   rw [this];simp [hp]
theorem Ans.of {P:Prop} [Decidable P]:Ans (some (decide P)) P:=⟨_,rfl,by simp⟩
theorem Ans.ofb {b:Bool} {P:Prop} (h:b=true↔P):Ans (some b) P:=⟨b,rfl,h⟩
theorem Ans.yes {P:Prop} (h:P):Ans (some true) P:=⟨_,rfl,by simp [h]⟩
theorem Ans.no {P:Prop} (h:¬P):Ans (some false) P:=⟨_,rfl,by simp [h]⟩
theorem Ans.iff {m:Option Bool} {P Q:Prop} (h:Ans m P) (e:P↔Q):Ans m Q:=by
 obtain⟨b,hm,hb⟩:=h
 exact⟨b,hm,hb.trans e⟩
theorem Ans.id {m:Option Bool} {P:Prop} (h:Ans m P):Ans (Option.bind m fun x=>some x) P:=by
 obtain⟨b,rfl,hb⟩:=h
 exact⟨b,rfl,hb⟩
theorem Ans.not {m:Option Bool} {P:Prop} (h:Ans m P):Ans (Option.bind m fun x=>some (!x)) (¬P):=by
 obtain⟨b,rfl,hb⟩:=h
 exact⟨!b,rfl,by rw [←hb];simp⟩
theorem Ans.and {m n:Option Bool} {P Q:Prop} (h:Ans m P) (k:P→Ans n Q):Ans (Option.bind m fun x=>if x=true then n else some false) (P∧Q):=by
 obtain⟨b,rfl,hb⟩:=h
 by_cases hp:P
 · obtain⟨c,rfl,hc⟩:=k hp
   exact⟨c,by simp [hb.2 hp],by simp [hp,hc]⟩
 · have:b=false:=by cases b with|false=>rfl|true=>exact absurd (hb.1 rfl) hp
   exact⟨false,by simp [this],by simp [hp]⟩
theorem Ans.nand {m n:Option Bool} {P Q:Prop} (h:Ans m P) (k:P→Ans n Q):Ans (Option.bind m fun x=>if(!x)=true then some false else n) (P∧Q):=by
 obtain⟨b,rfl,hb⟩:=h
 by_cases hp:P
 · obtain⟨c,rfl,hc⟩:=k hp
   exact⟨c,by simp [hb.2 hp],by simp [hp,hc]⟩
 · have:b=false:=by cases b with|false=>rfl|true=>exact absurd (hb.1 rfl) hp
   exact⟨false,by simp [this],by simp [hp]⟩
theorem Ans.ite {n:Option Bool} {b:Bool} {P Q:Prop} (h:b=true↔P) (k:P→Ans n Q):Ans (if b=true then n else some false) (P∧Q):=Ans.and (m:=some b) (Ans.ofb h) k
def jn (i:Int) (b:Bool):Option (Sum Int (Sum Int Bool)):=if b=true then some (.inl (W (i+1)))else some (.inr (.inr false))
def Rnd (i:Int) (m:Option (Sum Int (Sum Int Bool))) (P:Prop):Prop:=∃b,m=jn i b∧(b=true↔P)
theorem Rnd.go {i:Int} {P:Prop} (h:P):Rnd i (some (.inl (W (i+1)))) P:=⟨true,rfl,by simp [h]⟩
theorem Rnd.end {i:Int} {P:Prop} (h:¬P):Rnd i (some (.inr (.inr false))) P:=⟨false,rfl,by simp [h]⟩
theorem Rnd.iff {i:Int} {m:Option (Sum Int (Sum Int Bool))} {P Q:Prop} (h:Rnd i m P) (e:P↔Q):Rnd i m Q:=by
 obtain⟨b,hm,hb⟩:=h
 exact⟨b,hm,hb.trans e⟩
theorem Rnd.nand {i:Int} {m:Option Bool} {n:Option (Sum Int (Sum Int Bool))} {P Q:Prop} (h:Ans m P) (k:P→Rnd i n Q):Rnd i (Option.bind m fun x=>if(!x)=true then some (.inr (.inr false))else n) (P∧Q):=by
 obtain⟨b,rfl,hb⟩:=h
 by_cases hp:P
 · obtain⟨c,rfl,hc⟩:=k hp
   exact⟨c,by simp [hb.2 hp],by simp [hp,hc]⟩
 · have:b=false:=by cases b with|false=>rfl|true=>exact absurd (hb.1 rfl) hp
   exact⟨false,by simp [this];rfl,by simp [hp]⟩
theorem Rnd.and {i:Int} {m:Option Bool} {n:Option (Sum Int (Sum Int Bool))} {P Q:Prop} (h:Ans m P) (k:¬P→Rnd i n Q):Rnd i (Option.bind m fun x=>if x=true then some (.inr (.inr false))else n) (¬P∧Q):=by
 obtain⟨b,rfl,hb⟩:=h
 by_cases hp:P
 · exact⟨false,by simp [hb.2 hp];rfl,by simp [hp]⟩
 · obtain⟨c,rfl,hc⟩:=k hp
   have:b=false:=by cases b with|false=>rfl|true=>exact absurd (hb.1 rfl) hp
   exact⟨c,by simp [this],by simp [hp,hc]⟩
theorem Rnd.ite {i:Int} {b:Bool} {n:Option (Sum Int (Sum Int Bool))} {P Q:Prop} (h:b=true↔¬P) (k:P→Rnd i n Q):Rnd i (if b=true then some (.inr (.inr false))else n) (P∧Q):=by
 by_cases hp:P
 · obtain⟨c,rfl,hc⟩:=k hp
   have:b=false:=by cases b with|false=>rfl|true=>exact absurd hp (h.1 rfl)
   exact⟨c,by simp [this],by simp [hp,hc]⟩
 · exact⟨false,by simp [h.2 hp];rfl,by simp [hp]⟩
theorem Rnd.get {i:Int} {α:Type} {l:List α} {j:Nat} (hj:j<l.length) {n:α→Option (Sum Int (Sum Int Bool))} {P:Prop} (h:Rnd i (n l[j]) P):Rnd i (Option.bind (idx l (j:Int)) n) P:=by
 have:Sx.idx l (j:Int)=some l[j]:=by simp [Sx.idx,hj]
 rw [this];exact h
theorem b5p {body:Int→Option (Sum Int (Sum Int Bool))} (n:Nat) (hn:n≤9223372036854775807) (q:Nat→Prop) (k:Nat) (hk:k≤n) (h:∀i:Nat,k≤i→i<n→Rnd (i:Int) (body (i:Int)) (q i))
 (he:body (n:Int)=some (.inr (.inl (n:Int)))):
 Ans ((A5 body (k:Int)).bind fun e=>match e with| .inl _=>some true| .inr r=>some r) (∀i,k≤i→i<n→q i):=by
 refine⟨decide (∀i,k≤i→i<n→q i), ?_,by simp⟩
 refine b9y n hn q k hk (fun i h1 h2=> ?_) he _ (by simp)
 obtain⟨b,hb,hq⟩:=h i h1 h2
 have hw:W ((i:Int)+1)=((i+1:Nat):Int):=W_s (by omega)
 cases b with
 |true=>exact .inl ⟨hq.1 rfl,by rw [hb];simp [jn,hw]⟩
 |false=>exact .inr ⟨fun h=>by simpa using hq.2 h,by rw [hb];rfl⟩
def Lp (m:Option (Sum Int Bool)) (P:Prop):Prop:=(P∧∃j,m=some (.inl j))∨(¬P∧m=some (.inr false))
theorem Lp.iff {m:Option (Sum Int Bool)} {P Q:Prop} (h:Lp m P) (e:P↔Q):Lp m Q:=by
 rcases h with⟨h,h'⟩|⟨h,h'⟩
 · exact .inl ⟨e.1 h,h'⟩
 · exact .inr ⟨fun q=>h (e.2 q),h'⟩
theorem Ans.loop {m:Option (Sum Int Bool)} {n:Option Bool} {P Q:Prop} (h:Lp m P) (k:P→Ans n Q):Ans (m.bind fun e=>match e with| .inl _=>n| .inr r=>some r) (P∧Q):=by
 rcases h with⟨h,j,rfl⟩|⟨h,rfl⟩
 · obtain⟨b,hb,hq⟩:=k h
   exact⟨b,hb,by simp [h,hq]⟩
 · exact⟨false,rfl,by simp [h]⟩
theorem Ans.lp {m:Option (Sum Int Bool)} {P:Prop} (h:Lp m P):Ans (m.bind fun e=>match e with| .inl _=>some true| .inr r=>some r) P:=(Ans.loop (Q:=True) h fun _=> .yes trivial).iff (by simp)
theorem b8y {body:Int→Option (Sum Int (Sum Int Bool))} (n:Nat) (hn:n≤9223372036854775807) (q:Nat→Prop) (h:∀i:Nat,i<n→Rnd (i:Int) (body (i:Int)) (q i))
 (he:body (n:Int)=some (.inr (.inl (n:Int)))):Lp (A5 body 0) (∀i,i<n→q i):=by
 by_cases hall:∀i,i<n→q i
 · have hs:=a1S (body:=body) n hn (fun _=>(none:Option Bool)) 0 (Nat.zero_le _) (fun i _ h2=>by
    obtain⟨b,hb,hq⟩:=h i h2
    rw [hb,hq.2 (hall i h2)];simp only [jn,if_true];rw [W_s (by omega)]) he
   rw [a2J _ _ (fun _ _ _=>rfl)]at hs
   exact .inl ⟨hall,_,hs⟩
 · refine .inr ⟨hall, ?_⟩
   have h2:=b5p n hn q 0 (Nat.zero_le _) (fun i _ h2=>h i h2) he
   have h3:=h2.eq
   rw [decide_eq_false (fun h=>hall fun i hi=>h i (Nat.zero_le _) hi)]at h3
   rw [show((0:Int))=((0:Nat):Int) from rfl]
   cases hl:A5 body ((0:Nat):Int)with
   |none=>rw [hl]at h3;cases h3
   |some e=>
    rw [hl]at h3
    cases e with
    |inl x=>simp at h3
    |inr r=>simp at h3;rw [h3]
theorem Rnd.loop {j:Int} {m:Option (Sum Int Bool)} {P:Prop} (h:Lp m P):Rnd j (m.bind fun e=>match e with| .inl _=>some (.inl (W (j+1)))| .inr r=>some (.inr (.inr r))) P:=by
 rcases h with⟨h,_,rfl⟩|⟨h,rfl⟩
 · exact .go h
 · exact .end h
theorem V8 {α:Type} (l:List α) (hl:l.length≤9223372036854775807) (P:α→Option Bool) (Q:α→Prop) (hP:∀x,x∈l→Ans (P x) (Q x)):
 Ans (Option.bind (Option.bind (A5 (fun(v:Int)=>if(decide (v<(l.length:Int)))=true then Option.bind (idx l v) fun e=>Option.bind (P e) fun x=>if x=true then some (.inr (.inr v))else some (.inl (W (v+1)))else some (.inr (.inl v))) 0)
  fun(e:Sum Int Int)=>match e with| .inl _=>some (-1)| .inr r=>some r) fun x=>some (decide (x≥0))) (∃x,x∈l∧Q x):=
 ⟨_,b4H l hl P (fun x=>decide (Q x)) (fun x hx=>(hP x hx).eq),by simp⟩
theorem b1L {α:Type} {l:List α} {most:Int} {C:Option Bool} {ok:α→Prop} (hC:l.length≤9223372036854775807→Ans C (∃x,x∈l∧¬ok x)) (hm:most≤9223372036854775807):
 Ans (if(decide ((l.length:Int)≤most))=true then Option.bind C fun x=>some (!x)else some false) ((l.length:Int)≤most∧∀x,x∈l→ok x):=
 Ans.ite (by simp) fun h=>(hC (by omega)).not.iff (by simp)
def I1 {α:Type} (f:α→α→Prop) (l:List α):Prop:=∀i a b,l[i]?=some a→l[i+1]?=some b→f a b
theorem b0F {α:Type} (l:List α) (hl:l.length≤9223372036854775807) (cmp:α→α→Option Int) (c:α→α→Int) (f:α→α→Prop) (hc:∀a b,cmp a b=some (c a b)) (hf:∀a b,c a b<0↔f a b):
 Ans (Option.bind (A5 (fun(i:Int)=>if(decide (i<(l.length:Int)))=true then Option.bind (idx l (W (i-1))) fun a=>Option.bind (idx l i) fun b=>Option.bind (cmp a b) fun x=>
  if(decide (x≥0))=true then some (.inr (.inr false))else some (.inl (W (i+1)))else some (.inr (.inl i))) 1) fun(e:Sum Int Bool)=>match e with| .inl _=>some true| .inr r=>some r) (I1 f l):=by
 by_cases h0:l.length=0
 · refine⟨true, ?_,by simp;intro i a b h1 _;rw [List.getElem?_eq_none (by omega)]at h1;cases h1⟩
   have:=a1S (R:=Bool) (body:=fun(i:Int)=>if(decide (i<(l.length:Int)))=true then Option.bind (idx l (W (i-1))) fun a=>Option.bind (idx l i) fun b=>Option.bind (cmp a b) fun x=>
    if(decide (x≥0))=true then some (.inr (.inr false))else some (.inl (W (i+1)))else some (.inr (.inl i))) 1 (by omega) (fun _=>none) 1 (Nat.le_refl _) (fun i h1 h2=>by omega) (by simp [h0])
   exact(congrArg (fun o=>Option.bind o _) this).trans rfl
 · refine(b5p (body:=fun(i:Int)=>if(decide (i<(l.length:Int)))=true then Option.bind (idx l (W (i-1))) fun a=>Option.bind (idx l i) fun b=>Option.bind (cmp a b) fun x=>
    if(decide (x≥0))=true then some (.inr (.inr false))else some (.inl (W (i+1)))else some (.inr (.inl i))) l.length hl (fun i=>∀a b,l[i-1]?=some a→l[i]?=some b→f a b) 1 (by omega) (fun i h1 h2=> ?_) (by simp)).iff ?_
   · have e1:W ((i:Int)-1)=((i-1:Nat):Int):=by rw [a2v (by omega)];omega
     have e2:idx l ((i-1:Nat):Int)=some (l[i-1]'(by omega)):=by simp [idx,show i-1<l.length by omega]
     have e3:idx l ((i:Nat):Int)=some (l[i]'h2):=by simp [idx,h2]
     have hlt:((i:Int)<(l.length:Int)):=by omega
     simp only [hlt,decide_true,if_true,e1,e2,e3,Option.bind_some,hc]
     rw [List.getElem?_eq_getElem (show i-1<l.length by omega),List.getElem?_eq_getElem h2]
     refine(Rnd.ite (P:=c (l[i-1]'(by omega)) (l[i]'h2)<0) (Q:=True) (by simp) fun _=> .go trivial).iff ?_
     rw [and_true,hf]
     exact⟨fun h a b ha hb=>by cases ha;cases hb;exact h,fun h=>h _ _ rfl rfl⟩
   · constructor
     · intro h i a b ha hb'
       have:i+1<l.length:=by
        rcases Nat.lt_or_ge (i+1) l.length with h|h
        · exact h
        · rw [List.getElem?_eq_none h]at hb';cases hb'
       exact h (i+1) (by omega) this a b (by simpa using ha) hb'
     · intro h i h1 h2 a b ha hb'
       exact h (i-1) a b ha (by rw [Nat.sub_add_cancel h1];exact hb')
theorem c3a {α:Type} (l:List α) (ok:α→Prop) (f:α→α→Prop):(∀i,0≤i→i<l.length→(∀x,l[i]?=some x→ok x)∧(0<i→∀a,l[i-1]?=some a→∀b,l[i]?=some b→f a b))↔(∀x,x∈l→ok x)∧I1 f l:=by
 constructor
 · intro h
   refine⟨fun x hx=> ?_,fun i a b ha hb=> ?_⟩
   · obtain⟨i,hi,rfl⟩:=List.getElem_of_mem hx
     exact(h i (Nat.zero_le _) hi).1 _ (List.getElem?_eq_getElem hi)
   · have:i+1<l.length:=by
      rcases Nat.lt_or_ge (i+1) l.length with h|h
      · exact h
      · rw [List.getElem?_eq_none h]at hb;cases hb
     exact(h (i+1) (Nat.zero_le _) this).2 (by omega) a (by simpa using ha) b hb
 · intro⟨h1,h2⟩ i _ hi
   refine⟨fun x hx=>h1 x (List.mem_of_getElem? hx),fun h0 a ha b hb=>h2 (i-1) a b ha (by rw [Nat.sub_add_cancel h0];exact hb)⟩
theorem U8 (n lo hi:Int):Ans (l9 n lo hi) (lo≤n∧n≤hi):=Ans.ite (by simp) fun _=>Ans.ofb (by simp)
end Go.Proofs.YtcedmbakcchkiaaGreatDoor
namespace Go.Proofs.YtcedmbakcchkiaaGreatDoor
open Go Go.Sx
open Classical
theorem a1Y (n:Int):Ans (A9 n) (0≤n∧n≤5):=(U8 _ _ _).id
theorem a3x (n:Int):Ans (z6 n) (0≤n∧n≤100000):=(U8 _ _ _).id
theorem a4T (n:Int):Ans (m9 n) (1≤n∧n≤1000000):=(U8 _ _ _).id
theorem a7L (n:Int):Ans (B8 n) (6≤n∧n≤59999):=(U8 _ _ _).id
theorem a4N (n:Int):Ans (B2 n) (1≤n∧n≤99):=(U8 _ _ _).id
theorem a1B (n:Int):Ans (j5 n) (0≤n∧n≤144001439):=(U8 _ _ _).id
theorem b7V (n:Int):Ans (W8 n) (0≤n∧n≤63):=(U8 _ _ _).id
def qr (n:Int):Bool:=(a3u n).getD false
set_option maxRecDepth 10000 in theorem quorum_f : ∀ n : Fin 64, L3 (n.val : Int) = some (qr (n.val : Int)) ∧ a3u (n.val : Int) = some (qr (n.val : Int)) := by decide +kernel
theorem a9d {n:Int} (h:0≤n∧n≤63):L3 n=some (qr n)∧a3u n=some (qr n):=by
 have:=quorum_f ⟨n.toNat,by omega⟩
 simpa [Int.toNat_of_nonneg h.1]using this
theorem a8Z {n:Int} (h:0≤n):n.tmod 6=n % 6:=Int.tmod_eq_emod_of_nonneg h
def a1a (s:d0):Prop:=(0≤s.Night∧s.Night≤100000)∧(6≤s.Promised∧s.Promised≤59999)∧((s.Ballot=0∧s.Value=0)∨((6≤s.Ballot∧s.Ballot≤s.Promised)∧(1≤s.Value∧s.Value≤1000000)))
def a7v (me r:Int) (b:i0):Prop:=(0≤b.Night∧b.Night≤100000)∧(6≤b.Ballot∧b.Ballot≤6*r+me)∧b.Ballot % 6=me∧(1≤b.Value∧b.Value≤1000000)∧(0≤b.Best∧b.Best≤b.Ballot-1)∧(0≤b.Mask∧b.Mask≤63)∧b.Asked=qr b.Mask
def b0S (h:c9):Prop:=(6≤h.Ballot∧h.Ballot≤59999)∧(0≤h.Night∧h.Night≤100000)∧(1≤h.Value∧h.Value≤1000000)∧h.Mask≠0∧(0≤h.Mask∧h.Mask≤63)
def a4g (me:Int) (l:c0):Prop:=(1≤l.Thing∧l.Thing≤99)∧l.Thing % 6=me∧(0≤l.To∧l.To≤5)∧l.To≠me∧(0≤l.From∧l.From≤144001439)∧(0≤l.Until∧l.Until≤144001439)∧l.From≤l.Until
def a6D (me:Int) (l:d7):Prop:=(0≤l.Owner∧l.Owner≤5)∧l.Owner≠me∧(1≤l.No∧l.No≤40)∧(1≤l.Thing∧l.Thing≤99)∧l.Thing % 6=l.Owner∧(0≤l.From∧l.From≤144001439)∧(0≤l.Until∧l.Until≤144001439)∧l.From≤l.Until
def a4Y (a b:c0):Prop:=max a.From b.From<min a.Until b.Until
def a3g (a b:d0):Prop:=a.Night<b.Night
def a7i (a b:i0):Prop:=a.Night<b.Night
def a8i (a b:c9):Prop:=a.Ballot<b.Ballot∨(a.Ballot=b.Ballot∧a.Night<b.Night)
def a0C (a b:d7):Prop:=a.Owner<b.Owner∨(a.Owner=b.Owner∧a.No<b.No)
def a8f {α:Type} (f:α→α→Prop) (l:List α):Prop:=∀(i:Nat) x,l[i]?=some x→∀y,y∈l.take i→¬f y x
structure j7 (me:Int) (s:c8):Prop where
 dep:0≤me∧me≤5
 round:0≤s.Round∧s.Round≤9999
 nslots:(s.Slots.length:Int)≤12
 slots:∀x,x∈s.Slots→a1a x
 nbids:(s.Bids.length:Int)≤12
 bids:∀x,x∈s.Bids→a7v me s.Round x
 nheard:(s.Heard.length:Int)≤60
 heard:∀x,x∈s.Heard→b0S x
 nleases:(s.Leases.length:Int)≤40
 leases:∀x,x∈s.Leases→a4g me x
 nloans:(s.Loans.length:Int)≤60
 loans:∀x,x∈s.Loans→a6D me x
 rslots:I1 a3g s.Slots
 rbids:I1 a7i s.Bids
 rheard:I1 a8i s.Heard
 rloans:I1 a0C s.Loans
 ballots:a8f (fun a b=>a.Ballot=b.Ballot) s.Bids
 nos:∀(i:Nat) x,s.Leases[i]?=some x→x.No=(i:Int)+1
 meets:a8f (fun a b=>a.Thing=b.Thing∧a4Y a b) s.Leases
theorem c0k (s:d0):Ans (a1p s) (a1a s):=by
 have e1:=(a3x s.Night).eq
 have e2:=(a7L s.Promised).eq
 have e3:=(a4T s.Value).eq
 have e4:=(U8 s.Ballot 6 s.Promised).eq
 unfold a1p
 simp only [e1,e2,e3,e4,Option.bind_some]
 refine⟨decide (a1a s), ?_,by simp⟩
 unfold a1a
 by_cases h1:s.Ballot=0<;>by_cases h2:s.Value=0<;>by_cases h3:(0≤s.Night∧s.Night≤100000)<;>by_cases h4:(6≤s.Promised∧s.Promised≤59999)<;>by_cases h5:(6≤s.Ballot∧s.Ballot≤s.Promised)<;>simp [h1,h2,h3,h4,h5]<;>omega
theorem b1H (f u:Int):Ans (T0 f u) ((0≤f∧f≤144001439)∧(0≤u∧u≤144001439)∧f≤u):=
 Ans.and (a1B f) fun _=>Ans.and (a1B u) fun _=> .of
theorem c4U {me:Int} {s:c8} (hm:0≤me∧me≤5) (hr:0≤s.Round∧s.Round≤9999) (b:i0):Ans (Z7 b s me) (a7v me s.Round b):=by
 have w:W (W (6*s.Round)+me)=6*s.Round+me:=by rw [a2v (z:=6*s.Round) (by omega),a2v (by omega)]
 unfold Z7
 rw [w]
 refine Ans.and (a3x _) fun h1=>Ans.and (U8 _ _ _) fun h2=> ?_
 rw [a2v (z:=b.Ballot-1) (by omega)]
 show Ans (if(b.Ballot.tmod 6==me)=true then _ else some false) _
 refine Ans.ite (by rw [a8Z (by omega)];simp) fun h3=>Ans.and (a4T _) fun h4=>Ans.and (U8 _ _ _) fun h5=>Ans.and (b7V _) fun h6=> ?_
 rw [(a9d h6).1]
 exact Ans.ofb (by simp)
theorem c2s (h:c9):Ans (a1v h) (b0S h):=
 Ans.and (a7L _) fun _=>Ans.and (a3x _) fun _=>Ans.and (a4T _) fun _=>Ans.ite (by simp) fun _=>(b7V _).id
theorem c3g (me:Int) (l:c0):Ans (Z5 l me) (a4g me l):=by
 unfold Z5
 refine Ans.and (a4N _) fun h1=> ?_
 show Ans (if(l.Thing.tmod 6==me)=true then _ else some false) _
 exact Ans.ite (by rw [a8Z (by omega)];simp) fun h3=>Ans.and (a1Y _) fun _=>Ans.ite (by simp) fun _=>(b1H _ _).id
theorem c4d (me:Int) (l:d7):Ans (Z3 l me) (a6D me l):=by
 unfold Z3
 refine Ans.and (a1Y _) fun _=>Ans.ite (by simp) fun _=>Ans.and (U8 _ _ _) fun _=>Ans.and (a4N _) fun h1=> ?_
 show Ans (if(l.Thing.tmod 6==l.Owner)=true then _ else some false) _
 exact Ans.ite (by rw [a8Z (by omega)];simp) fun h3=>(b1H _ _).id
theorem c2u (l:List d0):Ans (J9 l 12) ((l.length:Int)≤12∧∀x,x∈l→a1a x):=
 b1L (fun hl=>V8 l hl I8 _ fun x _=>(c0k x).not) (by omega)
theorem c4r {me:Int} {s:c8} (hm:0≤me∧me≤5) (hr:0≤s.Round∧s.Round≤9999) (l:List i0):Ans (I7 l 12 s me) ((l.length:Int)≤12∧∀x,x∈l→a7v me s.Round x):=
 b1L (fun hl=>V8 l hl (fun x=>G4 x s me) _ fun x _=>(c4U hm hr x).not) (by omega)
theorem c0q (l:List c9):Ans (G3 l 60) ((l.length:Int)≤60∧∀x,x∈l→b0S x):=
 b1L (fun hl=>V8 l hl E7 _ fun x _=>(c2s x).not) (by omega)
theorem c1W (me:Int) (l:List c0):Ans (G8 l 40 me) ((l.length:Int)≤40∧∀x,x∈l→a4g me x):=
 b1L (fun hl=>V8 l hl (fun x=>E6 x me) _ fun x _=>(c3g me x).not) (by omega)
theorem c2H (me:Int) (l:List d7):Ans (H6 l 60 me) ((l.length:Int)≤60∧∀x,x∈l→a6D me x):=
 b1L (fun hl=>V8 l hl (fun x=>F3 x me) _ fun x _=>(c4d me x).not) (by omega)
def a9c (x y:Int):Int:=if x<y then-1 else if x>y then 1 else 0
theorem b4E (x y:Int):I2 x y=some (a9c x y):=by
 unfold a9c
 simp only [I2,a1o,Option.bind_some,bne_self_eq_false,if_false]
 by_cases h1:x<y<;>by_cases h2:x>y<;>simp [h1,h2]
theorem a2t {x y:Int}:a9c x y<0↔x<y:=by
 unfold a9c;split
 · simp;assumption
 · split<;>simp<;>omega
theorem a2m {x y:Int}:a9c x y=0↔x=y:=by
 unfold a9c;split
 · simp;omega
 · split<;>simp<;>omega
def b2M (a b c d:Int):Int:=if a9c a b=0 then a9c c d else a9c a b
theorem a7b {a b c d:Int}:b2M a b c d<0↔a<b∨(a=b∧c<d):=by
 unfold b2M
 split
 · rename_i h;rw [a2m]at h;rw [a2t];omega
 · rename_i h;rw [a2m]at h;rw [a2t];omega
theorem b7Z {a b c d:Int}:b2M a b c d=0↔a=b∧c=d:=by
 unfold b2M
 split
 · rename_i h;rw [a2m]at h;rw [a2m];omega
 · rename_i h;have h':=h;rw [a2m]at h;rw [a2m];omega
theorem c3I (a b:Int):a2i [a,b]=some (if a=0 then b else a):=by
 have hs:=a1S (R:=Int) (body:=a0j [a,b]) 2 (by omega) (fun i=>if i=0 then(if a=0 then none else some a)else(if b=0 then none else some b)) 0 (Nat.zero_le _) (fun i _ h2=>by
  have:i=0∨i=1:=by omega
  unfold a0j
  rcases this with rfl|rfl
  · by_cases h:a=0<;>simp [idx,h];exact W_s (by omega)
  · by_cases h:b=0<;>simp [idx,h];exact W_s (by omega)) (by simp [a0j])
 unfold a2i
 rw [show((0:Int))=((0:Nat):Int) from rfl,hs]
 by_cases h:a=0<;>by_cases h':b=0<;>simp [b1c,h,h']
theorem a5U (a b:d0):H4 a b=some (a9c a.Night b.Night):=by simp only [H4,b4E,Option.bind_some]
theorem a6u (a b:i0):J2 a b=some (a9c a.Night b.Night):=by simp only [J2,b4E,Option.bind_some]
theorem a5J (a b:c9):H5 a b=some (b2M a.Ballot b.Ballot a.Night b.Night):=by simp only [H5,b4E,Option.bind_some,c3I,b2M]
theorem a5N (a b:d7):H7 a b=some (b2M a.Owner b.Owner a.No b.No):=by simp only [H7,b4E,Option.bind_some,c3I,b2M]
theorem c1B (l:List d0) (hl:l.length≤9223372036854775807):Ans (D7 l) (I1 a3g l):=b0F l hl _ _ _ a5U fun _ _=>a2t
theorem c3u (l:List i0) (hl:l.length≤9223372036854775807):Ans (F2 l) (I1 a7i l):=b0F l hl _ _ _ a6u fun _ _=>a2t
theorem c0V (l:List c9) (hl:l.length≤9223372036854775807):Ans (D1 l) (I1 a8i l):=b0F l hl _ _ _ a5J fun _ _=>a7b
theorem c0n (l:List d7) (hl:l.length≤9223372036854775807):Ans (E0 l) (I1 a0C l):=b0F l hl _ _ _ a5N fun _ _=>a7b
theorem b6Y (a b:Int):(if b>a then b else a)=max a b:=by split<;>omega
theorem b6W (a b:Int):(if b<a then b else a)=min a b:=by split<;>omega
theorem c1g (a b:c0):Ans (a1e a b) (a4Y a b):=by
 unfold a1e a4Y
 rw [b6Y,b6W];exact .of
theorem c5U {α:Type} (l:List α) (k:Nat):sub l 0 k=l.take k:=by simp [sub]
theorem b9H (s:c8) (hl:s.Bids.length≤9223372036854775807):Lp (A5 (Q3 s) 0) (a8f (fun a b=>a.Ballot=b.Ballot) s.Bids):=by
 refine(b8y s.Bids.length hl (fun i=>∀x,s.Bids[i]?=some x→∀y,y∈s.Bids.take i→¬y.Ballot=x.Ballot) (fun i h2=> ?_) (by simp [Q3])).iff ?_
 · have hlt:((i:Int)<(s.Bids.length:Int)):=by omega
   have hg:0≤(i:Int)∧(i:Int)≤(s.Bids.length:Int):=by omega
   unfold Q3
   simp only [hlt,decide_true,if_true]
   refine Rnd.get h2 ?_
   simp only [gd,hg,and_self,if_true,Option.bind_some,c5U,Int.toNat_natCast]
   refine(Rnd.and (V8 _ (by simp;omega) (fun x=>a1u x s.Bids[i]) (fun y=>y.Ballot=s.Bids[i].Ballot) fun x _=>Ans.ofb (by simp)) fun _=> .go trivial).iff ?_
   rw [List.getElem?_eq_getElem h2]
   simp
 · exact⟨fun h i x hx=>h i ((List.getElem?_eq_some_iff.1 hx).1) x hx,fun h i _=>h i⟩
theorem c3C (s:c8) (hl:s.Leases.length≤9223372036854775806):Lp (A5 (Q2 s) 0) ((∀(i:Nat) x,s.Leases[i]?=some x→x.No=(i:Int)+1)∧a8f (fun a b=>a.Thing=b.Thing∧a4Y a b) s.Leases):=by
 refine(b8y s.Leases.length (by omega) (fun i=>∀x,s.Leases[i]?=some x→x.No=(i:Int)+1∧∀y,y∈s.Leases.take i→¬(y.Thing=x.Thing∧a4Y y x)) (fun i h2=> ?_) (by simp [Q2])).iff ?_
 · have hlt:((i:Int)<(s.Leases.length:Int)):=by omega
   have hg:0≤(i:Int)∧(i:Int)≤(s.Leases.length:Int):=by omega
   unfold Q2
   simp only [hlt,decide_true,if_true]
   refine Rnd.get h2 ?_
   refine(Rnd.ite (P:=s.Leases[i].No=(i:Int)+1) (Q:=∀y,y∈s.Leases.take i→¬(y.Thing=s.Leases[i].Thing∧a4Y y s.Leases[i])) (by rw [a2v (by omega)];simp) fun _=> ?_).iff (Q:=∀x,s.Leases[i]?=some x→x.No=(i:Int)+1∧∀y,y∈s.Leases.take i→¬(y.Thing=x.Thing∧a4Y y x)) ?_
   · simp only [gd,hg,and_self,if_true,Option.bind_some,c5U,Int.toNat_natCast]
     refine(Rnd.and (V8 _ (by simp;omega) (fun x=>a1D x s.Leases[i]) (fun y=>y.Thing=s.Leases[i].Thing∧a4Y y s.Leases[i]) fun x _=>Ans.ite (by simp) fun _=>(c1g _ _).id) fun _=> .go trivial).iff ?_
     simp
   · rw [List.getElem?_eq_getElem h2]
     simp
 · constructor
   · intro h
     exact⟨fun i x hx=>(h i ((List.getElem?_eq_some_iff.1 hx).1) x hx).1,fun i x hx=>(h i ((List.getElem?_eq_some_iff.1 hx).1) x hx).2⟩
   · exact fun h i _ x hx=>⟨h.1 i x hx,h.2 i x hx⟩
theorem b7s {me:Int} {s:c8}:j7 me s↔(0≤me∧me≤5)∧(0≤s.Round∧s.Round≤9999)∧((s.Slots.length:Int)≤12∧∀x,x∈s.Slots→a1a x)∧((s.Bids.length:Int)≤12∧∀x,x∈s.Bids→a7v me s.Round x)∧((s.Heard.length:Int)≤60∧∀x,x∈s.Heard→b0S x)∧((s.Leases.length:Int)≤40∧∀x,x∈s.Leases→a4g me x)∧((s.Loans.length:Int)≤60∧∀x,x∈s.Loans→a6D me x)∧I1 a3g s.Slots∧I1 a7i s.Bids∧I1 a8i s.Heard∧I1 a0C s.Loans∧a8f (fun a b=>a.Ballot=b.Ballot) s.Bids∧((∀(i:Nat) x,s.Leases[i]?=some x→x.No=(i:Int)+1)∧a8f (fun a b=>a.Thing=b.Thing∧a4Y a b) s.Leases):=by
 constructor
 · rintro⟨a,b,c1,c2,d1,d2,e1,e2,f1,f2,g1,g2,h1,h2,h3,h4,h5,h6,h7⟩
   exact⟨a,b,⟨c1,c2⟩,⟨d1,d2⟩,⟨e1,e2⟩,⟨f1,f2⟩,⟨g1,g2⟩,h1,h2,h3,h4,h5,h6,h7⟩
 · rintro⟨a,b,⟨c1,c2⟩,⟨d1,d2⟩,⟨e1,e2⟩,⟨f1,f2⟩,⟨g1,g2⟩,h1,h2,h3,h4,h5,h6,h7⟩
   exact⟨a,b,c1,c2,d1,d2,e1,e2,f1,f2,g1,g2,h1,h2,h3,h4,h5,h6,h7⟩
theorem b3W (me:Int) (s:c8):Ans (R2 me s) (j7 me s):=by
 refine Ans.iff ?_ b7s.symm
 unfold R2
 exact Ans.nand (a1Y _) fun hm=>Ans.nand (U8 _ _ _) fun hr=>Ans.nand (c2u _) fun h1=>Ans.nand (c4r hm hr _) fun h2=>Ans.nand (c0q _) fun h3=>Ans.nand (c1W _ _) fun h4=>Ans.nand (c2H _ _) fun h5=>
  Ans.nand (c1B _ (by omega)) fun _=>Ans.nand (c3u _ (by omega)) fun _=>Ans.nand (c0V _ (by omega)) fun _=>Ans.nand (c0n _ (by omega)) fun _=>Ans.loop (b9H s (by omega)) fun _=>Ans.lp (c3C s (by omega))
end Go.Proofs.YtcedmbakcchkiaaGreatDoor
namespace Go.Proofs.YtcedmbakcchkiaaGreatDoor
open Go Go.Sx
open Classical
theorem b2o (n:Int):J8 n 6=some (n % 6):=by
 unfold J8
 simp only [gd,ne_eq,show¬(6:Int)=0 by omega,not_false_eq_true,if_true,Option.some.injEq]
 have h3:=Int.tmod_eq_emod (a:=n) (b:=6)
 have h1: -6<n.tmod 6∧n.tmod 6<6∧(n.tmod 6=n % 6∨n.tmod 6=n % 6-6):=by
  rw [h3];split<;>simp<;>omega
 rw [a2v (by omega),a8Z (by omega)]
 omega
theorem c2q {i:Nat} (h:0<i) (h2:i<9223372036854775807):W ((i:Int)-1)=((i-1:Nat):Int):=by rw [a2v (by omega)];omega
theorem P7 {α:Type} {l:List α} {i:Nat} {x:α} (h:l[i]?=some x):idx l (i:Int)=some x:=by simp [idx,h]
theorem b1Y {α:Type} {l:List α} {i:Nat} (h:i<l.length):∃x,l[i]?=some x:=⟨_,List.getElem?_eq_getElem h⟩
def Err (m:Option Int) (P:Prop) (e:Int):Prop:=m=some (if P then 0 else e)
theorem Err.nand {m:Option Bool} {n:Option Int} {P Q:Prop} {e:Int} (h:Ans m P) (k:P→Err n Q e):Err (Option.bind m fun x=>if(!x)=true then some e else n) (P∧Q) e:=by
 obtain⟨b,rfl,hb⟩:=h
 unfold Err
 by_cases hp:P
 · have:=k hp
   unfold Err at this
   simp [hb.2 hp,hp,this]
 · have:b=false:=by cases b with|false=>rfl|true=>exact absurd (hb.1 rfl) hp
   simp [this,hp]
theorem Err.one {m:Option Bool} {P:Prop} {e:Int} (h:Ans m P):Err (Option.bind m fun x=>if(!x)=true then some e else some 0) P e:=by
 have:=Err.nand (Q:=True) (n:=some 0) (e:=e) h (fun _=>by simp [Err])
 simpa using this
theorem Err.iff {m:Option Int} {P Q:Prop} {e:Int} (h:Err m P e) (k:P↔Q):Err m Q e:=by
 unfold Err at*;rw [h];simp [k]
def A2 (x:a8):Prop:=j7 x.Me x.Now∧j7 x.Me x.Safe
theorem b4m (x:a8):Err (a0F x) (A2 x) 90:=Err.nand (b3W _ _) fun _=>Err.one (b3W _ _)
end Go.Proofs.YtcedmbakcchkiaaGreatDoor
namespace Go.Proofs.YtcedmbakcchkiaaGreatDoor
open Go Go.Sx
open Classical
def a3i (c:b9):Prop:=(0≤c.Night∧c.Night≤100000)∧(6≤c.Ballot∧c.Ballot≤59999)∧c.No=0∧c.Thing=0∧c.Start=0∧c.Until=0
def b1h (c:b9):Prop:=c.From≠c.To∧(1≤c.No∧c.No≤40)∧(1≤c.Thing∧c.Thing≤99)∧(0≤c.Until∧c.Until≤144001439)∧c.Night=0∧c.Ballot=0∧c.Best=0∧c.Value=0
def a7j (v:Int):Prop:=1≤v∧v≤1000000
structure a7k (c:b9):Prop where
 from_:0≤c.From∧c.From≤5
 to_:0≤c.To∧c.To≤5
 kind:(c.Kind=1∧a3i c∧c.Ballot % 6=c.From∧c.Best=0∧c.Value=0)∨(c.Kind=2∧a3i c∧c.Ballot % 6=c.To∧((c.Best=0∧c.Value=0)∨((6≤c.Best∧c.Best≤c.Ballot-1)∧a7j c.Value)))∨
  (c.Kind=3∧a3i c∧c.Ballot % 6=c.From∧c.Best=0∧a7j c.Value)∨(c.Kind=4∧a3i c∧c.Best=0∧a7j c.Value)∨
  (c.Kind=5∧b1h c∧c.Thing % 6=c.From∧(0≤c.Start∧c.Start≤144001439)∧c.Start≤c.Until)∨(c.Kind=6∧b1h c∧c.Thing % 6=c.To∧c.Start=0)
theorem b9V (c:b9):a7k c↔(0≤c.From∧c.From≤5)∧(0≤c.To∧c.To≤5)∧((c.Kind=1∧a3i c∧c.Ballot % 6=c.From∧c.Best=0∧c.Value=0)∨(c.Kind=2∧a3i c∧c.Ballot % 6=c.To∧((c.Best=0∧c.Value=0)∨((6≤c.Best∧c.Best≤c.Ballot-1)∧a7j c.Value)))∨
 (c.Kind=3∧a3i c∧c.Ballot % 6=c.From∧c.Best=0∧a7j c.Value)∨(c.Kind=4∧a3i c∧c.Best=0∧a7j c.Value)∨
 (c.Kind=5∧b1h c∧c.Thing % 6=c.From∧(0≤c.Start∧c.Start≤144001439)∧c.Start≤c.Until)∨(c.Kind=6∧b1h c∧c.Thing % 6=c.To∧c.Start=0)):=
 ⟨fun⟨a,b,c⟩=>⟨a,b,c⟩,fun⟨a,b,c⟩=>⟨a,b,c⟩⟩
theorem c5h (a b c:Bool):(if a=true then some b else some c)=some ((a&&b)||(!a&&c)):=by cases a<;>simp
structure Rck (c:b9) (w tb tt:Int):Prop where
 w:6≤c.Ballot∧c.Ballot≤59999→w=c.Ballot-1
 tb:0≤c.Ballot→tb=c.Ballot % 6
 tt:0≤c.Thing→tt=c.Thing % 6
theorem c3Z (c:b9):Rck c (W (c.Ballot-1)) (c.Ballot.tmod 6) (c.Thing.tmod 6):=⟨fun h=>a2v (by omega),fun h=>a8Z h,fun h=>a8Z h⟩
set_option maxHeartbeats 1000000 in theorem isCall_a (c : b9) : Ans (a0m c) (a7k c) := by
  refine Ans.iff ?_ (b9V c).symm
  have e1 := (a1Y c.From).eq
  have e2 := (a1Y c.To).eq
  have e3 := (U8 c.No 1 40).eq
  have e4 := (a4N c.Thing).eq
  have e5 := (a3x c.Night).eq
  have e6 := (a7L c.Ballot).eq
  have e7 := (a4T c.Value).eq
  have e8 := (U8 c.Best 6 (W (c.Ballot - 1))).eq
  have e9 := (b1H c.Start c.Until).eq
  have e10 := (a1B c.Until).eq
  have hr := c3Z c
  have hd : ∀ n, j4 n = some (n.tmod 6) := fun _ => rfl
  unfold a0m a4x
  simp only [e1, e2, e3, e4, e5, e6, e7, e8, e9, e10, hd]
  clear e1 e2 e3 e4 e5 e6 e7 e8 e9 e10 hd
  generalize W (c.Ballot - 1) = w at hr ⊢
  generalize c.Ballot.tmod 6 = tb at hr ⊢
  generalize c.Thing.tmod 6 = tt at hr ⊢
  obtain ⟨h1, h2, h3⟩ := hr
  obtain ⟨Kind, From, To, Night, Ballot, Best, Value, No, Thing, Start, Until⟩ := c
  simp only [a3i, b1h, a7j] at *
  have hk : Kind = 1 ∨ Kind = 2 ∨ Kind = 3 ∨ Kind = 4 ∨ Kind = 5 ∨ Kind = 6 ∨ (Kind ≠ 1 ∧ Kind ≠ 2 ∧ Kind ≠ 3 ∧ Kind ≠ 4 ∧ Kind ≠ 5 ∧ Kind ≠ 6) := by omega
  rcases hk with rfl | rfl | rfl | rfl | rfl | rfl | ⟨k1, k2, k3, k4, k5, k6⟩
  all_goals try simp only [Int.reduceBEq, Int.reduceBNe, if_true, Bool.false_eq_true, if_false, Option.bind_some, Bool.not_true, Bool.not_false, c5h]
  iterate 6
    · refine ⟨_, rfl, ?_⟩
      simp only [Bool.or_eq_true, Bool.and_eq_true, Bool.not_eq_true', decide_eq_true_eq, decide_eq_false_iff_not, beq_iff_eq, Bool.not_not, beq_eq_false_iff_ne, ne_eq, Bool.and_false, Bool.and_true, Bool.false_or, Bool.or_false, Bool.false_eq_true, bne_iff_ne, bne_eq_false_iff_eq, Bool.true_and, Bool.false_and, true_and, false_and, or_false, false_or, Int.reduceEq, and_true, and_false, or_true, true_or, not_true_eq_false, not_false_eq_true]
      first | omega | (constructor <;> intro h <;> omega) | grind
  have q1 : (Kind == 1) = false := by simp [k1]
  have q2 : (Kind == 2) = false := by simp [k2]
  have q3 : (Kind == 3) = false := by simp [k3]
  have q4 : (Kind == 4) = false := by simp [k4]
  have q5 : (Kind == 5) = false := by simp [k5]
  have q6 : (Kind == 6) = false := by simp [k6]
  simp only [q1, q2, q3, q4, q5, q6, Bool.false_eq_true, if_false, Option.bind_some, Bool.not_false, if_true]
  exact .no (by rintro ⟨_, _, h⟩; omega)
end Go.Proofs.YtcedmbakcchkiaaGreatDoor
namespace Go.Proofs.YtcedmbakcchkiaaGreatDoor
open Go Go.Sx
open Classical
structure c6l (s:c8):Prop where
 a:s.Slots.length≤9223372036854775806
 b:s.Bids.length≤9223372036854775806
 c:s.Heard.length≤9223372036854775806
 d:s.Leases.length≤9223372036854775806
 e:s.Loans.length≤9223372036854775806
theorem Ans.true {m:Option Bool} (h:Ans m True):m=some true:=by rw [h.eq];simp
def S0:c8:=⟨0, [], [], [], [], []⟩
end Go.Proofs.YtcedmbakcchkiaaGreatDoor
namespace Go.Proofs.YtcedmbakcchkiaaGreatDoor
open Go Go.Sx
open Classical
def b2P {α σ R:Type} (f:σ→α→Sum σ R):List α→σ→Sum σ R
 | [],s=> .inl s
 |x::l,s=>match f s x with| .inl s'=>b2P f l s'| .inr r=> .inr r
theorem b3g {α σ S E R:Type} {body:S→Option (Sum S E)} (l:List α) (hl:l.length≤9223372036854775807) (enc:Nat→σ→S) (f:σ→α→Sum σ R) (out:R→E) (fin:σ→E) (P:List α→σ→Prop)
 (h:∀pre x post s,l=pre++x::post→P pre s→body (enc pre.length s)=some (match f s x with| .inl s'=> .inl (enc (pre.length+1) s')| .inr r=> .inr (out r))∧∀s',f s x= .inl s'→P (pre++ [x]) s')
 (he:∀s,P l s→body (enc l.length s)=some (.inr (fin s))) (s0:σ) (h0:P [] s0):
 A5 body (enc 0 s0)=some (match b2P f l s0 with| .inl s=>fin s| .inr r=>out r):=by
 have key:∀(post pre:List α) (s:σ) (n:Nat),l=pre++post→P pre s→post.length<n→a1M body n (enc pre.length s)=some (match b2P f post s with| .inl s=>fin s| .inr r=>out r):=by
  intro post
  induction post with
  |nil=>
   intro pre s n hp hs hn
   cases n with
   |zero=>omega
   |succ n=>
    simp only [List.append_nil]at hp
    subst hp
    simp only [a1M,he s hs,b2P]
  |cons x post ih=>
   intro pre s n hp hs hn
   cases n with
   |zero=>omega
   |succ n=>
    obtain⟨h1,h2⟩:=h pre x post s hp hs
    simp only [a1M,h1,b2P]
    cases hf:f s x with
    |inl s'=>
     have:=ih (pre++ [x]) s' n (by simp [hp]) (h2 s' hf) (by simp at hn;omega)
     simpa using this
    |inr r=>rfl
 exact key l [] s0 a4v rfl h0 (by unfold a4v;omega)
theorem c0u {α β R:Type} (em:α→List β) (l:List α) (s:List β):b2P (R:=R) (fun s x=> .inl (s++em x)) l s= .inl (s++l.flatMap em):=by
 induction l generalizing s with
 |nil=>simp [b2P]
 |cons x l ih=>simp [b2P,ih]
theorem b6m {α β S:Type} {body:S→Option (Sum S S)} (l:List α) (hl:l.length≤1000) (enc:Nat→List β→S) (em:α→List β) (acc:List β) (ha:acc.length≤10000) (hem:∀x,(em x).length≤2)
 (h:∀pre x post s,l=pre++x::post→s.length≤20000→body (enc pre.length s)=some (.inl (enc (pre.length+1) (s++em x)))) (he:∀s,body (enc l.length s)=some (.inr (enc l.length s))):
 A5 body (enc 0 acc)=some (enc l.length (acc++l.flatMap em)):=by
 have:=b3g (R:=S) (body:=body) l (by omega) enc (fun s x=> .inl (s++em x)) id (fun s=>enc l.length s) (fun pre s=>s.length≤acc.length+2*pre.length∧pre.length≤l.length) (fun pre x post s hp hs=>⟨h pre x post s hp (by omega),fun s' hs'=>by
  have hx:=hem x
  have hpl:pre.length+1≤l.length:=by rw [hp];simp
  simp only [Sum.inl.injEq]at hs'
  subst hs'
  simp only [List.length_append,List.length_singleton]
  omega⟩) (fun s _=>he s) acc ⟨by simp,by simp⟩
 rw [this,c0u]
theorem a5y {α β S E:Type} {body:S→Option (List β×Sum S E)} (l:List α) (hl:l.length≤9223372036854775807) (enc:Nat→S) (em:α→List β) (fin:E)
 (h:∀pre x post,l=pre++x::post→body (enc pre.length)=some (em x, .inl (enc (pre.length+1))))
 (he:body (enc l.length)=some ([], .inr fin)):a5z body (enc 0)=some (l.flatMap em,fin):=by
 have key:∀(post pre:List α) (n:Nat),l=pre++post→post.length<n→a3h body n (enc pre.length)=some (post.flatMap em,fin):=by
  intro post
  induction post with
  |nil=>
   intro pre n hp hn
   cases n with
   |zero=>omega
   |succ n=>
    simp only [List.append_nil]at hp
    subst hp
    simp only [a3h,he,List.flatMap_nil]
  |cons x post ih=>
   intro pre n hp hn
   cases n with
   |zero=>omega
   |succ n=>
    have:=ih (pre++ [x]) n (by simp [hp]) (by simp at hn;omega)
    simp only [List.length_append,List.length_cons,List.length_nil,Nat.zero_add]at this
    simp only [a3h,h pre x post hp,this,List.flatMap_cons]
 exact key l [] a4v rfl (by unfold a4v;omega)
theorem b0H {α:Type} {pre post:List α} {x:α}:idx (pre++x::post) (pre.length:Int)=some x:=by
 unfold idx;simp
theorem a9A {α:Type} {pre post:List α} {x:α}:((pre.length:Int)<((pre++x::post).length:Int)):=by simp;omega
theorem a8a {α:Type} {p:Prop} [Decidable p] {k:Option α} (h:p):gd p k=k:=by unfold gd;rw [if_pos h]
theorem j7.short {me:Int} {s:c8} (h:j7 me s):c6l s:=by
 have:=h.nslots;have:=h.nbids;have:=h.nheard;have:=h.nleases;have:=h.nloans
 constructor<;>omega
theorem a1K {me:Int} {s:c8} (h:j7 me s):D6 s=some s:=by
 have:=h.nslots;have:=h.nbids;have:=h.nheard;have:=h.nleases;have:=h.nloans
 unfold D6 I0 J7 F6 F5 H8
 rw [a8a (by omega),a8a (by omega),a8a (by omega),a8a (by omega),a8a (by omega)]
 rfl
theorem b8k (x:a8):Q7 x=some (if A2 x then(some ⟨x⟩,0)else(none,90)):=by
 have e:=b4m x
 unfold Err at e
 unfold Q7
 rw [e]
 by_cases h:A2 x
 · rw [if_pos h,if_pos h,a1K h.1,a1K h.2];rfl
 · rw [if_neg h,if_neg h];rfl
theorem b6t (x:a8):a0f x=some (if A2 x then .inr (x.Me,x.Now.Round,x.Now.Slots,x.Now.Bids,x.Now.Heard,x.Now.Leases,x.Now.Loans,x.Safe.Round,x.Safe.Slots,x.Safe.Bids,x.Safe.Heard,x.Safe.Leases,x.Safe.Loans)else .inl 90):=by
 have e:=b4m x
 unfold Err at e
 unfold a0f
 rw [e]
 by_cases h:A2 x
 · rw [if_pos h,if_pos h,a1K h.1,a1K h.2];rfl
 · rw [if_neg h,if_neg h];rfl
def Z0:a8:=⟨0,S0,S0⟩
noncomputable def a9G (x:a8):a8×Int:=if A2 x then(⟨x.Me,x.Now,x.Now⟩,0)else(Z0,90)
noncomputable def b8A (x:a8):a8×Int:=if A2 x then(⟨x.Me,x.Safe,x.Safe⟩,0)else(Z0,90)
theorem b6s (x:a8):S1 x=some (a9G x):=by
 unfold S1 a9G
 rw [b6t]
 by_cases h:A2 x
 · rw [if_pos h,if_pos h]
   simp only [Option.bind_some]
   rw [a1K h.1];rfl
 · rw [if_neg h,if_neg h];rfl
theorem c2x (x:a8):a2V x=some (b8A x):=by
 unfold a2V b8A
 rw [b6t]
 by_cases h:A2 x
 · rw [if_pos h,if_pos h]
   simp only [Option.bind_some]
   rw [a1K h.2];rfl
 · rw [if_neg h,if_neg h];rfl
def b7m (me to_:Int) (b:i0):List b9:=if b.Asked=true then [⟨3,me,to_,b.Night,b.Ballot,0,b.Value,0,0,0,0⟩]else [⟨1,me,to_,b.Night,b.Ballot,0,0,0,0,0,0⟩]
def b1b (me to_:Int) (s:d0):List b9:=(if s.Promised % 6=to_∧s.Promised>s.Ballot then [⟨2,me,to_,s.Night,s.Promised,s.Ballot,s.Value,0,0,0,0⟩]else [])++(if s.Ballot≠0 then [⟨4,me,to_,s.Night,s.Ballot,0,s.Value,0,0,0,0⟩]else [])
def a7Q (me to_:Int) (l:c0):List b9:=if l.To=to_ then [⟨5,me,to_,0,0,0,0,l.No,l.Thing,l.From,l.Until⟩]else []
def b2b (me to_:Int) (l:d7):List b9:=if l.Owner=to_∧l.Back=true then [⟨6,me,to_,0,0,0,0,l.No,l.Thing,0,l.Until⟩]else []
def b0s (me to_:Int) (s:c8):List b9:=s.Bids.flatMap (b7m me to_)++(s.Slots.flatMap (b1b me to_)++(s.Leases.flatMap (a7Q me to_)++s.Loans.flatMap (b2b me to_)))
theorem a1k {α β:Type} (f:α→List β) (n:Nat) (h:∀x,(f x).length≤n):∀l:List α,(l.flatMap f).length≤n*l.length
 | []=>by simp
 |x::l=>by
  have:=a1k f n h l
  have:=h x
  simp only [List.flatMap_cons,List.length_append,List.length_cons,Nat.mul_add];omega
theorem c1M (me t:Int) (x:i0):(b7m me t x).length≤2:=by unfold b7m;split<;>simp
theorem b9w (me t:Int) (x:d0):(b1b me t x).length≤2:=by unfold b1b;split<;>split<;>simp
theorem b6O (me t:Int) (x:c0):(a7Q me t x).length≤2:=by unfold a7Q;split<;>simp
theorem b9Y (me t:Int) (x:d7):(b2b me t x).length≤2:=by unfold b2b;split<;>simp
theorem b1F {me:Int} {s:c8} (h:j7 me s) (to_:Int):(b0s me to_ s).length≤1000:=by
 have:=h.nslots;have:=h.nbids;have:=h.nheard;have:=h.nleases;have:=h.nloans
 have:=a1k _ 2 (c1M me to_) s.Bids
 have:=a1k _ 2 (b9w me to_) s.Slots
 have:=a1k _ 2 (b6O me to_) s.Leases
 have:=a1k _ 2 (b9Y me to_) s.Loans
 unfold b0s
 simp only [List.length_append]
 omega
theorem c3T (x:a8) (h:A2 x) (to_:Int):U7 ⟨x⟩ to_=some (b0s x.Me to_ x.Safe,()):=by
 obtain⟨_,h⟩:=h
 have hs:=h.short
 have l1:a5z (L4 ⟨x⟩ to_) ((0:Nat):Int)=some (x.Safe.Bids.flatMap (b7m x.Me to_),(x.Safe.Bids.length:Int)):=by
  refine a5y (enc:=fun k=>(k:Int)) x.Safe.Bids (by have:=hs.b;omega) (b7m x.Me to_) (x.Safe.Bids.length:Int) (fun pre y post hp=> ?_) (by simp [L4])
  have hw:W ((pre.length:Int)+1)=((pre.length+1:Nat):Int):=W_s (by have:=hs.b;rw [hp]at this;simp at this;omega)
  unfold L4 b7m
  simp only [hp,a9A,decide_true,if_true,b0H,Option.bind_some,hw,emit]
  split<;>rfl
 have l2:a5z (L2 ⟨x⟩ to_) ((0:Nat):Int)=some (x.Safe.Slots.flatMap (b1b x.Me to_),(x.Safe.Slots.length:Int)):=by
  have key:∀y,y∈x.Safe.Slots→y.Promised.tmod 6=y.Promised % 6:=fun y hy=>a8Z (by have:=(h.slots y hy).2.1;omega)
  refine a5y (enc:=fun k=>(k:Int)) x.Safe.Slots (by have:=hs.a;omega) (b1b x.Me to_) (x.Safe.Slots.length:Int) (fun pre y post hp=> ?_) (by simp [L2])
  have hw:W ((pre.length:Int)+1)=((pre.length+1:Nat):Int):=W_s (by have:=hs.a;rw [hp]at this;simp at this;omega)
  have ht:=key y (by rw [hp];simp)
  unfold L2 b1b j4
  simp only [hp,a9A,decide_true,if_true,b0H,Option.bind_some,hw,emit,ht]
  by_cases g1:y.Promised % 6=to_<;>by_cases g2:y.Promised>y.Ballot<;>simp [g1,g2]<;>by_cases g3:y.Ballot=0<;>simp [g3]
 have l3:a5z (L8 ⟨x⟩ to_) ((0:Nat):Int)=some (x.Safe.Leases.flatMap (a7Q x.Me to_),(x.Safe.Leases.length:Int)):=by
  refine a5y (enc:=fun k=>(k:Int)) x.Safe.Leases (by have:=hs.d;omega) (a7Q x.Me to_) (x.Safe.Leases.length:Int) (fun pre y post hp=> ?_) (by simp [L8])
  have hw:W ((pre.length:Int)+1)=((pre.length+1:Nat):Int):=W_s (by have:=hs.d;rw [hp]at this;simp at this;omega)
  unfold L8 a7Q
  simp only [hp,a9A,decide_true,if_true,b0H,Option.bind_some,hw,emit]
  by_cases g1:y.To=to_<;>simp [g1]
 have l4:a5z (L7 ⟨x⟩ to_) ((0:Nat):Int)=some (x.Safe.Loans.flatMap (b2b x.Me to_),(x.Safe.Loans.length:Int)):=by
  refine a5y (enc:=fun k=>(k:Int)) x.Safe.Loans (by have:=hs.e;omega) (b2b x.Me to_) (x.Safe.Loans.length:Int) (fun pre y post hp=> ?_) (by simp [L7])
  have hw:W ((pre.length:Int)+1)=((pre.length+1:Nat):Int):=W_s (by have:=hs.e;rw [hp]at this;simp at this;omega)
  unfold L7 b2b
  simp only [hp,a9A,decide_true,if_true,b0H,Option.bind_some,hw,emit]
  by_cases g1:y.Owner=to_<;>by_cases g2:y.Back=true<;>simp [g1,g2]
 unfold U7
 rw [show((0:Nat):Int)=0 from rfl]at l1 l2 l3 l4
 simp only [l1,l2,l3,l4,b2m]
 unfold b0s
 simp
theorem b6X (l:List b9) (hl:l.length≤1000):Z2 j2 l []=some (.inl l):=by
 have key:∀(l a:List b9),a.length+l.length≤1000→Z2 j2 l a=some (.inl (a++l)):=by
  intro l
  induction l with
  |nil=>intro a _;simp [Z2]
  |cons y l ih=>
   intro a h
   simp only [List.length_cons]at h
   have:j2 a y=some (.inl (a++ [y])):=by
    unfold j2
    rw [a8a (by simp;omega)]
   simp only [Z2,this]
   rw [ih _ (by simp;omega)]
   simp
 simpa using key l [] (by simpa using hl)
noncomputable def b4L (x:a8) (to_:Int):List b9×Int:=if A2 x then(if 0≤to_∧to_≤5 then(b0s x.Me to_ x.Safe,0)else([],1))else([],90)
theorem c0h (x:a8) (to_:Int):Y2 x to_=some (b4L x to_):=by
 unfold Y2 b4L
 rw [b8k,(a1Y to_).eq]
 by_cases h:A2 x
 · simp only [h,if_true,Option.bind_some,b2c,bne_self_eq_false,Bool.false_eq_true,if_false]
   by_cases h2:0≤to_∧to_≤5
   · have e:a2d ⟨x⟩ to_=some (⟨x⟩,to_):=rfl
     have e2:A6 ⟨x⟩ to_=some (b0s x.Me to_ x.Safe):=by
      unfold A6 w6
      rw [c3T x h]
      simp only [Option.bind_some]
      rw [b6X _ (b1F h.2 to_)]
      rfl
     simp only [h2,and_self,decide_true,Bool.not_true,Bool.false_eq_true,if_false,if_true,e,Option.bind_some,e2]
   · simp only [h2,decide_false,Bool.not_false,if_true,if_false]
 · simp [h,b2c]
end Go.Proofs.YtcedmbakcchkiaaGreatDoor
namespace Go.Proofs.YtcedmbakcchkiaaGreatDoor
open Go Go.Sx
open Classical
theorem c4c {z:Int} (h:0≤z∧z≤18446744073709551615):IntKind.u64.wrap z=z:=by
 simp only [IntKind.wrap,IntKind.signed,IntKind.bits]
 simp
 omega
theorem c6s (i j:Nat) (h:i+j≤9223372036854775807):W ((IntKind.u64.wrap (W ((i:Int)+(j:Int)))).fdiv (2^(min (1:Int).toNat IntKind.u64.bits)))=(((i+j) / 2:Nat):Int):=by
 have e:(2:Int)^(min (1:Int).toNat IntKind.u64.bits)=2:=by decide
 rw [e,a2v (z:=(i:Int)+j) (by omega),c4c (by omega),Int.fdiv_eq_ediv_of_nonneg _ (by omega)]
 have e2:((i:Int)+j) / 2=(((i+j) / 2:Nat):Int):=by simp
 rw [e2,a2v (by omega)]
structure Cut {α:Type} (c:α→Int) (l:List α) (i:Nat):Prop where
 le:i≤l.length
 lo:∀k (h:k<l.length),k<i→c l[k]<0
 hi:∀k (h:k<l.length),i≤k→¬c l[k]<0
def bsB {α:Type} (l:List α) (cm:α→Option Int):(Int×Int)→Option (Sum (Int×Int) (Int×Int)):=fun(i,j)=>
 if(decide (i<j))=true then
  Option.bind (idx l (W ((IntKind.u64.wrap (W (i+j))).fdiv (2^(min (1:Int).toNat IntKind.u64.bits))))) fun e=>
  Option.bind (cm e) fun x=>
  if(decide (x<0))=true then
   some (.inl ((W ((W ((IntKind.u64.wrap (W (i+j))).fdiv (2^(min (1:Int).toNat IntKind.u64.bits))))+1)),j))
  else
   some (.inl (i,(W ((IntKind.u64.wrap (W (i+j))).fdiv (2^(min (1:Int).toNat IntKind.u64.bits))))))
 else
  some (.inr (i,j))
def bsM {α:Type} (l:List α) (cm:α→Option Int):Option (Int×Bool):=
 Option.bind (A5 (bsB l cm) (0,(l.length:Int))) fun(i,_)=>
 if(decide (i<(l.length:Int)))=true then
  Option.bind (idx l i) fun e=>
  Option.bind (cm e) fun x=>
  some (i,(x==0))
 else
  some (i,false)
theorem a5p {α:Type} (l:List α) (c:α→Int) (hl:l.length≤1000) (hm:∀i j (hi:i<l.length) (hj:j<l.length),i≤j→c l[j]<0→c l[i]<0) (cm:α→Option Int) (hc:∀x,x∈l→cm x=some (c x)):
 ∃i,Cut c l i∧bsM l cm=some ((i:Int),decide (∃x,l[i]?=some x∧c x=0)):=by
 obtain⟨e,he,i,rfl,hi⟩:=a6O (body:=bsB l cm) (fun st:Int×Int=>∃i j:Nat,st=((i:Int),(j:Int))∧i≤j∧j≤l.length∧(∀k (hk:k<l.length),k<i→c l[k]<0)∧(∀k (hk:k<l.length),j≤k→¬c l[k]<0))
  (fun st=>(st.2-st.1).toNat) (fun st=>∃i:Nat,st=((i:Int),(i:Int))∧Cut c l i) (by
  rintro⟨_,_⟩ ⟨i,j,he,hij,hj,ha,hb⟩
  cases he
  unfold bsB
  by_cases hlt:i<j
  · right
    have c1:(i:Int)<(j:Int):=by omega
    have hmid:(i+j) / 2<l.length:=by omega
    have hx:idx l (((i+j) / 2:Nat):Int)=some l[(i+j) / 2]:=P7 (List.getElem?_eq_getElem hmid)
    simp only [c1,decide_true,if_true,c6s i j (by omega),hx,Option.bind_some,hc _ (List.getElem_mem hmid)]
    by_cases hcc:c l[(i+j) / 2]<0
    · refine⟨((((i+j) / 2+1:Nat):Int),(j:Int)), ?_,⟨(i+j) / 2+1,j,rfl,by omega,hj,fun k hk hki=> ?_,hb⟩,by simp only;omega⟩
      · simp only [hcc,decide_true,if_true]
        rw [a2v (z:=(((i+j) / 2:Nat):Int)+1) (by omega)];rfl
      · exact hm k ((i+j) / 2) hk hmid (by omega) hcc
    · refine⟨((i:Int),(((i+j) / 2:Nat):Int)), ?_,⟨i,(i+j) / 2,rfl,by omega,by omega,ha,fun k hk hki h=>hcc (hm _ _ hmid hk hki h)⟩,by simp only;omega⟩
      simp only [hcc,decide_false,Bool.false_eq_true,if_false]
  · left
    have c1:¬(i:Int)<(j:Int):=by omega
    obtain rfl:i=j:=by omega
    exact⟨_,by simp only [c1,decide_false,Bool.false_eq_true,if_false],i,rfl,hj,ha,hb⟩) (0,(l.length:Int)) ⟨0,l.length,rfl,by omega,by omega,by omega,by omega⟩ (by simp only [a4v];omega)
 refine⟨i,hi, ?_⟩
 unfold bsM
 rw [he]
 have hle:=hi.le
 by_cases h:i<l.length
 · have c1:(i:Int)<(l.length:Int):=by omega
   have hx:idx l (i:Int)=some l[i]:=by simp [idx,h]
   simp only [Option.bind_some,c1,decide_true,if_true,hx,hc _ (List.getElem_mem h),List.getElem?_eq_getElem h,Option.some.injEq,exists_eq_left']
   congr 2
 · have c1:¬(i:Int)<(l.length:Int):=by omega
   simp only [Option.bind_some,c1,decide_false,Bool.false_eq_true,if_false,List.getElem?_eq_none (show l.length≤i by omega)]
   simp
noncomputable def upd {α:Type} (c:α→Int) (new:α) (f:α→α):List α→List α
 | []=> [f new]
 |x::l=>if c x<0 then x::upd c new f l else if c x=0 then f x::l else f new::x::l
theorem b4B {α:Type} {c:α→Int} {new:α} {f:α→α}:∀ {l:List α} {i:Nat},Cut c l i→upd c new f l=l.take i++(match l.drop i with| []=> [f new]|x::r=>if c x=0 then f x::r else f new::x::r)
 | [],i,h=>by simp [upd]
 |x::l,0,h=>by
  have:=h.hi 0 (by simp) (Nat.le_refl _)
  simp only [List.getElem_cons_zero]at this
  simp [upd,this]
 |x::l,i+1,h=>by
  have h0:=h.lo 0 (by simp) (by omega)
  simp only [List.getElem_cons_zero]at h0
  have ih:=b4B (c:=c) (new:=new) (f:=f) (l:=l) (i:=i) ⟨by have:=h.le;simpa using this,fun k hk hki=>h.lo (k+1) (by simpa using hk) (by omega),fun k hk hki=>h.hi (k+1) (by simpa using hk) (by omega)⟩
  simp only [upd,h0,if_true,ih,List.take_succ_cons,List.drop_succ_cons,List.cons_append]
theorem b7X {α:Type} {l:List α} {i:Nat} {x:α} (h:l[i]?=some x):l.drop i=x::l.drop (i+1):=by
 obtain⟨hi,rfl⟩:=List.getElem?_eq_some_iff.1 h
 exact List.drop_eq_getElem_cons hi
theorem b3k {α:Type} {c:α→Int} {l:List α} {i:Nat} (h:Cut c l i) {x:α} (hx:l[i]?=some x) (h0:c x=0) (new:α) (f:α→α):l.set i (f x)=upd c new f l∧(upd c new f l).length=l.length:=by
 have e:l.set i (f x)=upd c new f l:=by
  rw [b4B h,b7X hx]
  simp only [h0,if_true]
  have hi:=(List.getElem?_eq_some_iff.1 hx).1
  rw [List.set_eq_take_append_cons_drop,if_pos hi]
 exact⟨e,by rw [←e];simp⟩
theorem b0U {α:Type} {c:α→Int} {l:List α} {i:Nat} (h:Cut c l i) (hn:¬∃x,l[i]?=some x∧c x=0) (new:α) (f:α→α):(l.take i++new::l.drop i)[i]?=some new∧(l.take i++new::l.drop i).set i (f new)=upd c new f l∧(upd c new f l).length=l.length+1:=by
 have hle:=h.le
 have hlen:(l.take i).length=i:=by simp;omega
 have e:(l.take i++new::l.drop i).set i (f new)=upd c new f l:=by
  rw [b4B h,List.set_append_right _ _ (by omega),hlen,Nat.sub_self,List.set_cons_zero]
  cases hd:l.drop i with
  |nil=>rfl
  |cons y r=>
   have hy:l[i]?=some y:=by rw [←List.head?_drop,hd];rfl
   have:¬c y=0:=fun h0=>hn ⟨y,hy,h0⟩
   simp only [this,if_false]
 refine⟨by rw [List.getElem?_append_right (by omega),hlen];simp,e, ?_⟩
 rw [←e]
 simp
 omega
theorem b0G {α:Type} (s:List α) (i:Nat) (v:α) (b:Nat) (hl:s.length≤1000) (hb:b≤1000) (hi:i≤s.length):
 (gd (0≤(i:Int)∧(i:Int).toNat≤s.length)<|if(([v].length:Int)==0)=true then some s else if((i:Int)==(s.length:Int))=true then gd ((s.length+ [v].length)*b≤140737488355328∧s.length+ [v].length≤9223372036854775807)<|some (s++ [v])else
  gd (0≤(i:Int)∧(i:Int).toNat<s.length∧0< [v].length∧(s.length+ [v].length)*b≤140737488355328∧s.length+ [v].length≤9223372036854775807) (some (s.take (i:Int).toNat++ [v]++s.drop (i:Int).toNat)))=some (s.take i++v::s.drop i):=by
 have hm:(s.length+ [v].length)*b≤140737488355328:=by
  have:(s.length+ [v].length)*b≤1001*1000:=Nat.mul_le_mul (by simp;omega) hb
  omega
 have h2:s.length+ [v].length≤9223372036854775807:=by simp;omega
 rw [a8a (by omega)]
 have e1:(([v].length:Int)==0)=false:=rfl
 simp only [e1,Bool.false_eq_true,if_false]
 by_cases h:i=s.length
 · subst h
   simp only [beq_self_eq_true,if_true]
   rw [a8a ⟨hm,h2⟩]
   simp
 · have e2:((i:Int)==(s.length:Int))=false:=by rw [beq_eq_false_iff_ne];omega
   simp only [e2,Bool.false_eq_true,if_false]
   rw [a8a ⟨by omega,by omega,by simp,hm,h2⟩]
   simp
theorem b0Q {α:Type} {l:List α} {f:α→α→Prop} {c:α→Int} (h:I1 f l) (hc:∀a b,f a b→c b<0→c a<0):∀i j (hi:i<l.length) (hj:j<l.length),i≤j→c l[j]<0→c l[i]<0:=by
 intro i j hi hj hij
 induction j with
 |zero=>
  obtain rfl:i=0:=by omega
  exact id
 |succ j ih=>
  intro h1
  by_cases e:i=j+1
  · subst e;exact h1
  · exact ih (by omega) (by omega) (hc _ _ (h j _ _ (List.getElem?_eq_getElem _) (List.getElem?_eq_getElem hj)) h1)
def a1Q (n:Int) (s:d0):Int:=a9c s.Night n
def b4l (n:Int) (b:i0):Int:=a9c b.Night n
def a0Y (b n:Int) (h:c9):Int:=b2M h.Ballot b h.Night n
def X5 (o n:Int) (l:d7):Int:=b2M l.Owner o l.No n
theorem b6Q {me:Int} {s:c8} (h:j7 me s) (t:d0):∃i,Cut (a1Q t.Night) s.Slots i∧A7 s.Slots t=some ((i:Int),decide (∃x,s.Slots[i]?=some x∧a1Q t.Night x=0)):=by
 obtain⟨i,hi,e⟩:=a5p s.Slots (a1Q t.Night) (by have:=h.nslots;omega) (b0Q h.rslots fun a b hab hb=>by unfold a1Q at*;rw [a2t]at*;unfold a3g at hab;omega) (fun x=>H4 x t) (fun x _=>a5U x t)
 refine⟨i,hi, ?_⟩
 unfold A7
 rw [show o0 s.Slots t=_ from e]
 rfl
theorem b9t {me:Int} {s:c8} (h:j7 me s) (t:i0):∃i,Cut (b4l t.Night) s.Bids i∧B0 s.Bids t=some ((i:Int),decide (∃x,s.Bids[i]?=some x∧b4l t.Night x=0)):=by
 obtain⟨i,hi,e⟩:=a5p s.Bids (b4l t.Night) (by have:=h.nbids;omega) (b0Q h.rbids fun a b hab hb=>by unfold b4l at*;rw [a2t]at*;unfold a7i at hab;omega) (fun x=>J2 x t) (fun x _=>a6u x t)
 refine⟨i,hi, ?_⟩
 unfold B0
 rw [show o9 s.Bids t=_ from e]
 rfl
theorem b5V {me:Int} {s:c8} (h:j7 me s) (t:c9):∃i,Cut (a0Y t.Ballot t.Night) s.Heard i∧A4 s.Heard t=some ((i:Int),decide (∃x,s.Heard[i]?=some x∧a0Y t.Ballot t.Night x=0)):=by
 obtain⟨i,hi,e⟩:=a5p s.Heard (a0Y t.Ballot t.Night) (by have:=h.nheard;omega) (b0Q h.rheard fun a b hab hb=>by unfold a0Y at*;rw [a7b]at*;unfold a8i at hab;omega) (fun x=>H5 x t) (fun x _=>a5J x t)
 refine⟨i,hi, ?_⟩
 unfold A4
 rw [show m8 s.Heard t=_ from e]
 rfl
theorem b1D {me:Int} {s:c8} (h:j7 me s) (t:d7):∃i,Cut (X5 t.Owner t.No) s.Loans i∧r7 s.Loans t=some ((i:Int),decide (∃x,s.Loans[i]?=some x∧X5 t.Owner t.No x=0)):=by
 obtain⟨i,hi,e⟩:=a5p s.Loans (X5 t.Owner t.No) (by have:=h.nloans;omega) (b0Q h.rloans fun a b hab hb=>by unfold X5 at*;rw [a7b]at*;unfold a0C at hab;omega) (fun x=>H7 x t) (fun x _=>a5N x t)
 refine⟨i,hi, ?_⟩
 unfold r7
 rw [show n9 s.Loans t=_ from e]
 rfl
end Go.Proofs.YtcedmbakcchkiaaGreatDoor
namespace Go.Proofs.YtcedmbakcchkiaaGreatDoor
open Go Go.Sx
open Classical
theorem b4K {S E:Type} {body:S→Option (Sum S E)} (st:Nat→S) (n:Nat) (hn:n≤9223372036854775807) (fin:E) (h:∀k,k<n→body (st k)=some (.inl (st (k+1)))) (he:body (st n)=some (.inr fin)):A5 body (st 0)=some fin:=by
 have key:∀(m k N:Nat),k+m=n→m<N→a1M body N (st k)=some fin:=by
  intro m
  induction m with
  |zero=>
   intro k N hk hN
   cases N with
   |zero=>omega
   |succ N=>
    obtain rfl:k=n:=by omega
    simp only [a1M,he]
  |succ m ih=>
   intro k N hk hN
   cases N with
   |zero=>omega
   |succ N=>
    simp only [a1M,h k (by omega)]
    exact ih (k+1) N (by omega) (by omega)
 exact key n 0 a4v (by omega) (by unfold a4v;omega)
theorem b3t {α:Type} {l:List α} {k:Nat} {x:α} (h:l[k]?=some x):l.take (k+1)=l.take k++ [x]:=by
 rw [List.take_add_one,h];rfl
theorem c4t {α:Type} {c:α→Int} {l:List α} {i:Nat} {f:α→α→Prop} (h:Cut c l i) (hr:I1 f l) (hf:∀a b,f a b→¬c a<0→0<c b):∀k y,i<k→l[k]?=some y→0<c y:=by
 intro k y hk hy
 obtain⟨hl,rfl⟩:=List.getElem?_eq_some_iff.1 hy
 obtain⟨m,rfl⟩:∃m,k=m+1:=⟨k-1,by omega⟩
 exact hf _ _ (hr m _ _ (List.getElem?_eq_getElem (by omega)) (List.getElem?_eq_getElem hl)) (h.hi m (by omega) (by omega))
theorem c4a {α:Type} {c:α→Int} {l:List α} {i k:Nat} {y:α} (h:Cut c l i) (hk:k<i) (hy:l[k]?=some y):c y<0:=by
 obtain⟨hl,rfl⟩:=List.getElem?_eq_some_iff.1 hy
 exact h.lo k hl hk
end Go.Proofs.YtcedmbakcchkiaaGreatDoor
namespace Go.Proofs.YtcedmbakcchkiaaGreatDoor
open Go Go.Sx
open Classical
def a0D (m d:Int):Int:=(N6 m d).getD 0
def a4E (m d:Int):Bool:=(V1 m d).getD false
def b5T (d:Int):Int:=(a5d d).getD 0
set_option maxRecDepth 100000 in theorem mask_f : ∀ (m : Fin 64) (d : Fin 6), N6 (m.val : Int) (d.val : Int) = some (a0D m.val d.val) ∧ (0 ≤ a0D m.val d.val ∧ a0D m.val d.val ≤ 63 ∧ a0D m.val d.val ≠ 0) ∧ V1 (m.val : Int) (d.val : Int) = some (a4E m.val d.val) ∧ a5d (d.val : Int) = some (b5T d.val) ∧
    ((W ((BitVec.ofInt IntKind.i64.bits (m.val : Int) &&& BitVec.ofInt IntKind.i64.bits (b5T d.val)).toNat : Int)) != 0) = a4E m.val d.val ∧ (W ((BitVec.ofInt IntKind.i64.bits (m.val : Int) ||| BitVec.ofInt IntKind.i64.bits (b5T d.val)).toNat : Int)) = a0D m.val d.val ∧ b5T d.val = a0D 0 d.val := by decide +kernel
theorem a8O {m d:Int} (hm:0≤m∧m≤63) (hd:0≤d∧d≤5):N6 m d=some (a0D m d)∧(0≤a0D m d∧a0D m d≤63∧a0D m d≠0)∧V1 m d=some (a4E m d)∧a5d d=some (b5T d)∧
 ((W ((BitVec.ofInt IntKind.i64.bits m&&&BitVec.ofInt IntKind.i64.bits (b5T d)).toNat:Int)) !=0)=a4E m d∧(W ((BitVec.ofInt IntKind.i64.bits m|||BitVec.ofInt IntKind.i64.bits (b5T d)).toNat:Int))=a0D m d∧b5T d=a0D 0 d:=by
 have:=mask_f ⟨m.toNat,by omega⟩ ⟨d.toNat,by omega⟩
 simp only [Int.toNat_of_nonneg hm.1,Int.toNat_of_nonneg hd.1]at this
 exact this
def a4i (c:b9) (s:d0):d0:=if c.Ballot>s.Promised then⟨s.Night,c.Ballot,s.Ballot,s.Value⟩else s
def b0p (c:b9) (s:d0):d0:=if c.Ballot≥s.Promised then⟨s.Night,c.Ballot,c.Ballot,c.Value⟩else s
def a0X (c:b9) (h:c9):c9:=if h.Value=c.Value then⟨h.Night,h.Ballot,h.Value,a0D h.Mask c.From⟩else h
def a3b (c:b9) (b:i0):i0:=if b.Night=c.Night∧b.Ballot=c.Ballot∧b.Asked=false∧a4E b.Mask c.From=false then⟨b.Night,b.Ballot,if c.Best>b.Best then c.Value else b.Value,if c.Best>b.Best then c.Best else b.Best,a0D b.Mask c.From,qr (a0D b.Mask c.From)⟩else b
def a1H (c:b9) (l:c0):c0:=if l.No=c.No∧l.Thing=c.Thing∧l.To=c.From then⟨l.No,l.Thing,l.To,l.From,min l.Until (max c.Until l.From)⟩else l
def M5 (c:b9):d0:=⟨c.Night,0,0,0⟩
def N3 (c:b9):c9:=⟨c.Night,c.Ballot,c.Value,0⟩
def S2 (c:b9):d7:=⟨c.From,c.No,c.Thing,c.Start,c.Until,false⟩
inductive c2d {α:Type} (m:Option (Sum (List α×Int) Unit)) (c:α→Int) (new:α) (l:List α) (most:Nat):Prop
 |fits (i:Nat) (L:List α) (e:α) (hm:m=some (.inl (L,(i:Int)))) (he:L[i]?=some e) (hs:∀f,L.set i (f e)=upd c new f l) (hl:∀f,(upd c new f l).length≤most)
 |full (hm:m=some (.inr ())) (hl:∀f,¬(upd c new f l).length≤most)
theorem b0I {α:Type} {c:α→Int} {l:List α} {new:α} {most:Nat} {i:Nat} {pl:Option (Int×Bool)} {ins:Int→Option (List α)} (hc:Cut c l i) (hl:l.length≤most) (hp:pl=some ((i:Int),decide (∃x,l[i]?=some x∧c x=0))) (hi:ins (i:Int)=some (l.take i++new::l.drop i)):
 c2d (Option.bind pl fun(x1,x2)=>if x2=true then some (.inl (l,x1))else if((l.length:Int)==(most:Int))=true then some (.inr ())else Option.bind (ins x1) fun x=>some (.inl (x,x1))) c new l most:=by
 subst hp
 by_cases h:∃x,l[i]?=some x∧c x=0
 · obtain⟨x,hx,h0⟩:=h
   refine .fits i l x ?_ hx (fun f=>(b3k hc hx h0 new f).1) (fun f=>by rw [(b3k hc hx h0 new f).2];exact hl)
   simp only [Option.bind_some]
   rw [if_pos (decide_eq_true ⟨x,hx,h0⟩)]
 · by_cases hf:l.length=most
   · refine .full ?_ (fun f=>by rw [(b0U hc h new f).2.2];omega)
     simp only [Option.bind_some]
     rw [if_neg (by simpa using h),if_pos (by rw [hf];simp)]
   · refine .fits i _ new ?_ (b0U hc h new id).1 (fun f=>(b0U hc h new f).2.1) (fun f=>by rw [(b0U hc h new f).2.2];omega)
     simp only [Option.bind_some]
     rw [if_neg (by simpa using h),if_neg (by rw [beq_iff_eq];omega),hi]
     rfl
theorem b3H {me:Int} {s:c8} (h:j7 me s) (c:b9):c2d (a1j c s.Slots) (a1Q c.Night) (M5 c) s.Slots 12:=by
 obtain⟨i,hi,e⟩:=b6Q h (M5 c)
 have hn:s.Slots.length≤12:=by have:=h.nslots;omega
 exact b0I (ins:=fun i=>M2 s.Slots i [M5 c]) hi hn e (b0G s.Slots i (M5 c) 32 (by have:=h.nslots;omega) (by omega) hi.le)
theorem b7A {me:Int} {s:c8} (h:j7 me s) (c:b9):c2d (a0U c s.Heard) (a0Y c.Ballot c.Night) (N3 c) s.Heard 60:=by
 obtain⟨i,hi,e⟩:=b5V h (N3 c)
 have hn:s.Heard.length≤60:=by have:=h.nheard;omega
 exact b0I (ins:=fun i=>K8 s.Heard i [N3 c]) hi hn e (b0G s.Heard i (N3 c) 32 (by have:=h.nheard;omega) (by omega) hi.le)
theorem b8P {me:Int} {s:c8} (h:j7 me s) (c:b9):c2d (a1h c s.Loans) (X5 c.From c.No) (S2 c) s.Loans 60:=by
 obtain⟨i,hi,e⟩:=b1D h (S2 c)
 have hn:s.Loans.length≤60:=by have:=h.nloans;omega
 exact b0I (ins:=fun i=>M1 s.Loans i [S2 c]) hi hn e (b0G s.Loans i (S2 c) 48 (by have:=h.nloans;omega) (by omega) hi.le)
theorem a5j {α:Type} {L:List α} {i:Nat} {e:α} (x:α) (h:L[i]?=some e):(L.set i x)[i]?=some x:=by
 have:=(List.getElem?_eq_some_iff.1 h).1
 simp [this]
def fits {α:Type} (l l0:List α) (most:Nat):List α×Bool:=if l.length≤most then(l,true)else(l0,false)
theorem b7G {me:Int} {s:c8} (h:j7 me s) (c:b9):V6 c s.Slots=some (fits (upd (a1Q c.Night) (M5 c) (a4i c) s.Slots) s.Slots 12):=by
 unfold V6 S4 fits
 rcases b3H h c with⟨i,L,e,hm,he,hs,hl⟩|⟨hm,hl⟩
 · rw [if_pos (hl _),←hs]
   simp only [hm,Option.bind_some,P7 he,a4i]
   by_cases hb:c.Ballot>e.Promised
   · simp [hb]
   · have:=hs id
     have h2:L.set i e=L:=by
      obtain⟨hi,rfl⟩:=List.getElem?_eq_some_iff.1 he
      exact List.set_getElem_self hi
     simp [hb,h2]
 · rw [if_neg (hl _)]
   simp only [hm,Option.bind_some]
theorem a4d {α:Type} {L:List α} {i:Nat} {e:α} (he:L[i]?=some e):L.set i e=L:=by
 obtain⟨hi,rfl⟩:=List.getElem?_eq_some_iff.1 he
 exact List.set_getElem_self hi
theorem c0a {me:Int} {s:c8} (h:j7 me s) (c:b9):X8 c s.Slots=some (fits (upd (a1Q c.Night) (M5 c) (b0p c) s.Slots) s.Slots 12):=by
 unfold X8 S4 fits
 rcases b3H h c with⟨i,L,e,hm,he,hs,hl⟩|⟨hm,hl⟩
 · rw [if_pos (hl _),←hs]
   simp only [hm,Option.bind_some,P7 he,b0p]
   by_cases hb:c.Ballot≥e.Promised
   · simp only [hb,decide_true,if_true,Int.toNat_natCast,P7 (a5j _ he),Option.bind_some]
     have e1:=a5j (L:=L) (⟨e.Night,c.Ballot,e.Ballot,e.Value⟩:d0) he
     have e2:=a5j (L:=L) (⟨e.Night,c.Ballot,c.Ballot,e.Value⟩:d0) he
     simp only [P7 e1,Option.bind_some,List.set_set,P7 e2]
   · simp [hb,a4d he]
 · rw [if_neg (hl _)]
   simp only [hm,Option.bind_some]
theorem b5L {me:Int} {s:c8} (h:j7 me s) {c:b9} (hc:0≤c.From∧c.From≤5):S9 c s.Heard=some (fits (upd (a0Y c.Ballot c.Night) (N3 c) (a0X c) s.Heard) s.Heard 60):=by
 unfold S9 fits
 rcases b7A h c with⟨i,L,e,hm,he,hs,hl⟩|⟨hm,hl⟩
 · rw [if_pos (hl _)]
   have hmask:0≤e.Mask∧e.Mask≤63:=by
    have hL:L=upd (a0Y c.Ballot c.Night) (N3 c) id s.Heard:=by rw [←hs id];exact(a4d he).symm
    have hmem:e∈L:=List.mem_of_getElem? he
    rw [hL]at hmem
    have key:∀l:List c9,(∀x,x∈l→0≤x.Mask∧x.Mask≤63)→e∈upd (a0Y c.Ballot c.Night) (N3 c) id l→0≤e.Mask∧e.Mask≤63:=by
     intro l
     induction l with
     |nil=>
      intro _ he
      simp only [upd,List.mem_singleton,id]at he
      subst he;simp [N3]
     |cons x l ih=>
      intro hx he
      unfold upd at he
      split at he
      · rcases List.mem_cons.1 he with rfl|he
        · exact hx _ List.mem_cons_self
        · exact ih (fun y hy=>hx y (List.mem_cons_of_mem _ hy)) he
      · split at he
        · exact hx _ he
        · rcases List.mem_cons.1 he with rfl|he
          · simp [N3]
          · exact hx _ he
    exact key _ (fun x hx=>(h.heard x hx).2.2.2.2) hmem
   have hw:=(a8O hmask hc).1
   rw [←hs]
   simp only [hm,Option.bind_some,P7 he,a0X]
   by_cases hb:e.Value=c.Value
   · simp [hb,hw]
   · simp [hb,a4d he]
 · rw [if_neg (hl _)]
   simp only [hm,Option.bind_some]
theorem c1c {me:Int} {s:c8} (h:j7 me s) (c:b9):a0a c s.Loans=some (fits (upd (X5 c.From c.No) (S2 c) id s.Loans) s.Loans 60):=by
 unfold a0a fits
 rcases b8P h c with⟨i,L,e,hm,he,hs,hl⟩|⟨hm,hl⟩
 · rw [if_pos (hl _),←hs]
   simp only [hm,Option.bind_some,id,a4d he]
 · rw [if_neg (hl _)]
   simp only [hm,Option.bind_some]
theorem c0P {α:Type} {body:(Int×List α)→Option (Sum (Int×List α) (Int×List α))} (l:List α) (hl:l.length≤1000) (f:α→α)
 (h:∀(k:Nat) (v:List α) (x:α),v.length=l.length→l[k]?=some x→v[k]?=some x→body ((k:Int),v)=some (.inl (((k+1:Nat):Int),v.set k (f x))))
 (he:∀v:List α,v.length=l.length→body ((l.length:Int),v)=some (.inr ((l.length:Int),v))):A5 body (0,l)=some ((l.length:Int),l.map f):=by
 have:=b4K (body:=body) (fun k=>((k:Int),(l.take k).map f++l.drop k)) l.length (by omega) ((l.length:Int),l.map f) (fun k hk=>by
  obtain⟨x,hx⟩:=b1Y hk
  have hlen:((l.take k).map f).length=k:=by simp;omega
  have hv:((l.take k).map f++l.drop k)[k]?=some x:=by
   rw [List.getElem?_append_right (by omega),hlen,Nat.sub_self,List.getElem?_drop]
   exact hx
  rw [h k _ x (by simp;omega) hx hv]
  congr 3
  rw [List.set_append_right _ _ (by omega),hlen,Nat.sub_self,b7X hx,List.set_cons_zero,b3t hx]
  simp) (by
  rw [he _ (by simp)]
  simp)
 simpa using this
theorem c2X {me:Int} {s:c8} (h:j7 me s) (c:b9):a0t c s.Leases=some (s.Leases.map (a1H c)):=by
 have hl:=h.nleases
 unfold a0t
 rw [c0P s.Leases (by omega) (a1H c) (fun k v x hv hx hvx=>by
  have hk:=(List.getElem?_eq_some_iff.1 hx).1
  have hlt:((k:Int)<(s.Leases.length:Int)):=by omega
  have hw:W ((k:Int)+1)=((k+1:Nat):Int):=W_s (by omega)
  unfold O5 a1H
  simp only [hlt,decide_true,if_true,P7 hvx,Option.bind_some,hw,b6Y,b6W,Int.toNat_natCast]
  by_cases g1:x.No=c.No<;>by_cases g2:x.Thing=c.Thing<;>by_cases g3:x.To=c.From<;>simp [g1,g2,g3,a4d hvx]) (fun v hv=>by simp [O5])]
 rfl
end Go.Proofs.YtcedmbakcchkiaaGreatDoor
namespace Go.Proofs.YtcedmbakcchkiaaGreatDoor
open Go Go.Sx
open Classical
theorem b9n {α:Type} (l:List α) (hl:l.length≤9223372036854775807) (P:α→Option Bool) (Q:α→Prop) (hP:∀x,x∈l→Ans (P x) (Q x)) {m:Option Int}
 (hm:m=Option.bind (A5 (fun(v:Int)=>if(decide (v<(l.length:Int)))=true then Option.bind (idx l v) fun e=>Option.bind (P e) fun x=>if x=true then some (.inr (.inr v))else some (.inl (W (v+1)))else some (.inr (.inl v))) 0)
  fun(e:Sum Int Int)=>match e with| .inl _=>some (-1)| .inr r=>some r):(∃(j:Nat) (x:α),l[j]?=some x∧Q x∧m=some (j:Int))∨((∀x,x∈l→¬Q x)∧m=some (-1)):=by
 have hs:=a1S (body:=fun(v:Int)=>if(decide (v<(l.length:Int)))=true then Option.bind (idx l v) fun e=>Option.bind (P e) fun x=>if x=true then some (.inr (.inr v))else some (.inl (W (v+1)))else some (.inr (.inl v)))
  l.length hl (fun i=>match l[i]? with|some x=>if Q x then some (i:Int)else none|none=>none) 0 (Nat.zero_le _) (fun i _ h2=>by
   have hlt:((i:Int)<(l.length:Int)):=by omega
   simp only [hlt,decide_true,if_true,P7 (List.getElem?_eq_getElem h2),Option.bind_some,(hP _ (List.getElem_mem h2)).eq,List.getElem?_eq_getElem h2]
   by_cases hp:Q l[i]
   · simp [hp]
   · simp [hp];exact W_s (by omega)) (by simp)
 rw [show((0:Nat):Int)=0 from rfl]at hs
 rw [hm,hs]
 by_cases hany:∃x,x∈l∧Q x
 · obtain⟨x,hx,hpx⟩:=hany
   obtain⟨i,hi,rfl⟩:=List.getElem_of_mem hx
   obtain⟨j,r,a,b,c,d⟩:=a6V (q:=fun i=>match l[i]? with|some x=>if Q x then some (i:Int)else none|none=>none) (l.length-0) 0 i (Nat.zero_le _) (by omega) (by simp [List.getElem?_eq_getElem hi,hpx])
   have hj:j<l.length:=by omega
   simp only [List.getElem?_eq_getElem hj]at c
   split at c
   · rename_i hq
     simp only [Option.some.injEq]at c
     subst c
     exact .inl ⟨j,l[j],List.getElem?_eq_getElem hj,hq,by rw [d];rfl⟩
   · cases c
 · right
   refine⟨fun x hx hq=>hany ⟨x,hx,hq⟩, ?_⟩
   rw [a2J _ _ (fun i _ h2=>by
    have hi:i<l.length:=by omega
    simp only [List.getElem?_eq_getElem hi]
    rw [if_neg (fun hq=>hany ⟨_,List.getElem_mem hi,hq⟩)])]
   rfl
theorem b8e {α:Type} {l:List α} {f:α→α} {j:Nat} {x:α} (hx:l[j]?=some x) (h:∀k y,k≠j→l[k]?=some y→f y=y):l.map f=l.set j (f x):=by
 refine List.ext_getElem? fun k=> ?_
 have hj:=(List.getElem?_eq_some_iff.1 hx).1
 rw [List.getElem?_map,List.getElem?_set]
 by_cases hk:j=k
 · subst hk;rw [if_pos rfl,if_pos hj,hx];rfl
 · rw [if_neg hk]
   cases hy:l[k]? with
   |none=>rfl
   |some y=>simp [h k y (fun e=>hk e.symm) hy]
theorem map_id {α:Type} {l:List α} {f:α→α} (h:∀x,x∈l→f x=x):l.map f=l:=by
 conv=>rhs;rw [←List.map_id l]
 exact List.map_congr_left fun x hx=>by rw [h x hx];rfl
theorem b6A {l:List i0} (h:a8f (fun a b=>a.Ballot=b.Ballot) l) {i j:Nat} {x y:i0} (hi:l[i]?=some x) (hj:l[j]?=some y) (e:x.Ballot=y.Ballot):i=j:=by
 rcases Nat.lt_trichotomy i j with hlt|he|hgt
 · exact absurd e (h j y hj x (List.mem_take_iff_getElem.2 ⟨i,by have:=(List.getElem?_eq_some_iff.1 hi).1;omega,(List.getElem?_eq_some_iff.1 hi).2⟩))
 · exact he
 · exact absurd e.symm (h i x hi y (List.mem_take_iff_getElem.2 ⟨j,by have:=(List.getElem?_eq_some_iff.1 hj).1;omega,(List.getElem?_eq_some_iff.1 hj).2⟩))
theorem b7C {me:Int} {s:c8} (h:j7 me s) {c:b9} (hc:0≤c.From∧c.From≤5):V3 c s.Bids=some (s.Bids.map (a3b c)):=by
 have hl:=h.nbids
 unfold V3
 rcases b9n s.Bids (by omega) (fun b=>X4 b c) (fun b=>b.Night=c.Night∧b.Ballot=c.Ballot) (fun b _=>Ans.ite (by simp) fun _=>Ans.ofb (by simp)) (m:=A1 s.Bids c) rfl with⟨j,x,hx,⟨q1,q2⟩,hm⟩|⟨hn,hm⟩
 · have hv:=h.bids x (List.mem_of_getElem? hx)
   have hmask:=hv.2.2.2.2.2.1
   obtain⟨mw,mb,mh,_⟩:=a8O hmask hc
   have mq:=(a9d (n:=a0D x.Mask c.From) ⟨mb.1,mb.2.1⟩).1
   have hset:s.Bids.map (a3b c)=s.Bids.set j (a3b c x):=b8e hx fun k y hk hy=>by
    unfold a3b
    rw [if_neg]
    rintro⟨_,e,_⟩
    exact hk (b6A h.ballots hy hx (by rw [e,q2]))
   have hj0:¬((j:Int)<0):=by omega
   rw [hset]
   simp only [hm,Option.bind_some,hj0,decide_false,Bool.false_eq_true,if_false,P7 hx,mh,mw,mq,Int.toNat_natCast,a3b,q1,q2,true_and]
   by_cases ha:x.Asked=true
   · simp [ha,a4d hx]
   · by_cases hh:a4E x.Mask c.From=true
     · simp [ha,hh,a4d hx]
     · have e1:=a5j (L:=s.Bids) (⟨c.Night,c.Ballot,x.Value,x.Best,a0D x.Mask c.From,x.Asked⟩:i0) hx
       have e2:=a5j (L:=s.Bids) (⟨c.Night,c.Ballot,x.Value,x.Best,a0D x.Mask c.From,qr (a0D x.Mask c.From)⟩:i0) hx
       have e3:=a5j (L:=s.Bids) (⟨c.Night,c.Ballot,x.Value,c.Best,a0D x.Mask c.From,qr (a0D x.Mask c.From)⟩:i0) hx
       have ha':x.Asked=false:=by simpa using ha
       have hh':a4E x.Mask c.From=false:=by simpa using hh
       simp only [ha',hh',Bool.false_eq_true,if_false,and_self,if_true]at e1 e2 e3⊢
       simp only [P7 e1,Option.bind_some,List.set_set,P7 e2]
       by_cases hb:c.Best>x.Best
       · simp only [hb,decide_true,if_true,P7 e3,Option.bind_some]
       · simp only [hb,decide_false,Bool.false_eq_true,if_false]
 · rw [map_id (fun x hx=>by
    unfold a3b
    rw [if_neg]
    rintro⟨a,b,_⟩
    exact hn x hx ⟨a,b⟩)]
   simp [hm]
end Go.Proofs.YtcedmbakcchkiaaGreatDoor
namespace Go.Proofs.YtcedmbakcchkiaaGreatDoor
open Go Go.Sx
open Classical
theorem a7W (b n:Int) (y:c9):(a0Y b n y<0↔y.Ballot<b∨(y.Ballot=b∧y.Night<n))∧(a0Y b n y=0↔y.Ballot=b∧y.Night=n):=⟨a7b,b7Z⟩
theorem a0T (o n:Int) (y:d7):(X5 o n y<0↔y.Owner<o∨(y.Owner=o∧y.No<n))∧(X5 o n y=0↔y.Owner=o∧y.No=n):=⟨a7b,b7Z⟩
theorem c3P {x:Int} (h1:¬x<0) (h2:¬x=0):0<x:=by omega
end Go.Proofs.YtcedmbakcchkiaaGreatDoor
namespace Go.Proofs.YtcedmbakcchkiaaGreatDoor
open Go Go.Sx
open Classical
noncomputable def a8C (s:c8) (c:b9):Option c8:=
 if c.Kind=1 then(if(upd (a1Q c.Night) (M5 c) (a4i c) s.Slots).length≤12 then some ⟨s.Round,upd (a1Q c.Night) (M5 c) (a4i c) s.Slots,s.Bids,s.Heard,s.Leases,s.Loans⟩else none)
 else if c.Kind=2 then some ⟨s.Round,s.Slots,s.Bids.map (a3b c),s.Heard,s.Leases,s.Loans⟩
 else if c.Kind=3 then(if(upd (a1Q c.Night) (M5 c) (b0p c) s.Slots).length≤12 then some ⟨s.Round,upd (a1Q c.Night) (M5 c) (b0p c) s.Slots,s.Bids,s.Heard,s.Leases,s.Loans⟩else none)
 else if c.Kind=4 then(if(upd (a0Y c.Ballot c.Night) (N3 c) (a0X c) s.Heard).length≤60 then some ⟨s.Round,s.Slots,s.Bids,upd (a0Y c.Ballot c.Night) (N3 c) (a0X c) s.Heard,s.Leases,s.Loans⟩else none)
 else if c.Kind=5 then(if(upd (X5 c.From c.No) (S2 c) id s.Loans).length≤60 then some ⟨s.Round,s.Slots,s.Bids,s.Heard,s.Leases,upd (X5 c.From c.No) (S2 c) id s.Loans⟩else none)
 else some ⟨s.Round,s.Slots,s.Bids,s.Heard,s.Leases.map (a1H c),s.Loans⟩
noncomputable def b5R (x:a8) (c:b9):a8×Int:=
 if A2 x then(if a7k c∧c.To=x.Me then(match a8C x.Now c with|some s=>(⟨x.Me,s,x.Safe⟩,0)|none=>(Z0,2))else(Z0,91))else(Z0,90)
theorem a9b (x:a8):R0 x=some (if A2 x then .inr (x.Now.Slots,x.Now.Bids,x.Now.Heard,x.Now.Leases,x.Now.Loans,x.Safe.Slots,x.Safe.Bids,x.Safe.Heard,x.Safe.Leases,x.Safe.Loans,x.Me,x.Now.Round,x.Safe.Round)else .inl 90):=by
 have e:=b4m x
 unfold Err at e
 unfold R0
 rw [e]
 by_cases h:A2 x
 · rw [if_pos h,if_pos h,a1K h.1,a1K h.2];rfl
 · rw [if_neg h,if_neg h];rfl
theorem a7k.kinds {c:b9} (h:a7k c):c.Kind=1∨c.Kind=2∨c.Kind=3∨c.Kind=4∨c.Kind=5∨c.Kind=6:=by
 rcases h.kind with h|h|h|h|h|h<;>simp [h.1]
theorem c2M (x:a8) (c:b9):Q9 x c=some (b5R x c):=by
 unfold Q9 b5R
 rw [a9b]
 by_cases h:A2 x
 · rw [if_pos h,if_pos h]
   simp only [Option.bind_some,(isCall_a c).eq]
   by_cases hc:a7k c
   · by_cases hto:c.To=x.Me
     · have e1:=b7G h.1 c
       have e2:=b7C h.1 hc.from_
       have e3:=c0a h.1 c
       have e4:=b5L h.1 hc.from_
       have e5:=c1c h.1 c
       have e6:=c2X h.1 c
       unfold fits at e1 e3 e4 e5
       simp only [hc,hto,and_self,if_true,decide_true,Bool.not_true,Bool.false_eq_true,if_false,bne_self_eq_false]
       rcases hc.kinds with k|k|k|k|k|k
       all_goals simp only [k,Int.reduceBEq,Bool.false_eq_true,if_false,if_true,e1,e2,e3,e4,e5,e6,Option.bind_some,a8C,Int.reduceEq]
       · split<;>rfl
       · split<;>rfl
       · split<;>rfl
       · split<;>rfl
     · simp [hc,hto,Z0,S0]
   · simp [hc,Z0,S0]
 · rw [if_neg h,if_neg h];rfl
end Go.Proofs.YtcedmbakcchkiaaGreatDoor
namespace Go.Proofs.YtcedmbakcchkiaaGreatDoor
open Go Go.Sx
open Classical
def R9 (me r night value:Int):i0:=⟨night,6*(r+1)+me,value,0,0,false⟩
noncomputable def a6x (s:c8) (me night value:Int):List i0:=upd (b4l night) (R9 me s.Round night value) (fun _=>R9 me s.Round night value) s.Bids
noncomputable def a2l (x:a8) (night value:Int):a8×Int:=
 if A2 x then(if 0≤night∧night≤100000 then(if 1≤value∧value≤1000000 then(if x.Now.Round=9999∨¬(a6x x.Now x.Me night value).length≤12 then(Z0,2)else
  (⟨x.Me,⟨x.Now.Round+1,x.Now.Slots,a6x x.Now x.Me night value,x.Now.Heard,x.Now.Leases,x.Now.Loans⟩,x.Safe⟩,0))else(Z0,1))else(Z0,6))else(Z0,90)
theorem c1u {me:Int} {s:c8} (h:j7 me s) (hr:s.Round≠9999) (night value:Int):c2d (X7 night value s.Bids me s.Round) (b4l night) (R9 me s.Round night value) s.Bids 12:=by
 have hd:=h.dep;have hro:=h.round
 have w:W (W (6*W (s.Round+1))+me)=6*(s.Round+1)+me:=by rw [a2v (z:=s.Round+1) (by omega),a2v (z:=6*(s.Round+1)) (by omega),a2v (by omega)]
 obtain⟨i,hi,e⟩:=b9t h (R9 me s.Round night value)
 have hn:s.Bids.length≤12:=by have:=h.nbids;omega
 unfold X7
 rw [w]
 exact b0I (ins:=fun i=>N1 s.Bids i [R9 me s.Round night value]) hi hn e (b0G s.Bids i (R9 me s.Round night value) 48 (by omega) (by omega) hi.le)
theorem b1P (x:a8) (night value:Int):R1 x night value=some (a2l x night value):=by
 unfold R1 a2l
 rw [a9b]
 by_cases h:A2 x
 · rw [if_pos h,if_pos h]
   simp only [Option.bind_some,(a3x night).eq,(a4T value).eq]
   by_cases h1:0≤night∧night≤100000
   · by_cases h2:1≤value∧value≤1000000
     · by_cases h3:x.Now.Round=9999
       · simp [h1,h2,h3,Z0,S0]
       · have hd:=h.1.dep;have hro:=h.1.round
         have w:W (W (6*(x.Now.Round+1))+x.Me)=6*(x.Now.Round+1)+x.Me:=by rw [a2v (z:=6*(x.Now.Round+1)) (by omega),a2v (by omega)]
         have w1:W (x.Now.Round+1)=x.Now.Round+1:=a2v (by omega)
         have n3:(x.Now.Round==9999)=false:=by rw [beq_eq_false_iff_ne];exact h3
         simp only [h1,h2,and_self,decide_true,Bool.not_true,Bool.false_eq_true,if_false,if_true,n3,h3,false_or,w,w1]
         rcases c1u h.1 h3 night value with⟨i,L,e,hm,he,hs,hl⟩|⟨hm,hl⟩
         · have hs':=hs (fun _=>R9 x.Me x.Now.Round night value)
           simp only [hm,Option.bind_some,P7 he,Int.toNat_natCast]
           have hl':(a6x x.Now x.Me night value).length≤12:=hl _
           rw [if_neg (fun hn=>hn hl')]
           unfold a6x
           rw [←hs']
           rfl
         · have hl':¬(a6x x.Now x.Me night value).length≤12:=hl _
           simp only [hm,Option.bind_some]
           rw [if_pos hl'];rfl
     · simp [h1,h2,Z0,S0]
   · simp [h1,Z0,S0]
 · rw [if_neg h,if_neg h];rfl
def b3z (l:List c0) (y:c0):Prop:=∃o,o∈l∧o.Thing=y.Thing∧a4Y o y
noncomputable def b0d (x:a8) (thing to_ from_ until_:Int):a8×Int:=
 if A2 x then(if 1≤thing∧thing≤99 then(if 0≤to_∧to_≤5 then(if 0≤from_∧from_≤144001439 then(if 0≤until_∧until_≤144001439 then
  (if thing % 6=x.Me then(if to_=x.Me then(Z0,1)else if from_>until_ then(Z0,95)else
   if b3z x.Now.Leases ⟨(x.Now.Leases.length:Int)+1,thing,to_,from_,until_⟩then(Z0,93)else if x.Now.Leases.length=40 then(Z0,2)else
   (⟨x.Me,⟨x.Now.Round,x.Now.Slots,x.Now.Bids,x.Now.Heard,x.Now.Leases++ [⟨(x.Now.Leases.length:Int)+1,thing,to_,from_,until_⟩],x.Now.Loans⟩,x.Safe⟩,0))else(Z0,92))else(Z0,95))else(Z0,95))else(Z0,1))else(Z0,1))else(Z0,90)
theorem c3X (p:a8) (h:A2 p) (y:c0):Ans (a0d ⟨p⟩ y) (b3z p.Now.Leases y):=by
 have:=h.1.nleases
 exact(V8 p.Now.Leases (by omega) (fun o=>a0H o y) (fun o=>o.Thing=y.Thing∧a4Y o y) fun o _=>Ans.ite (by simp) fun _=>(c1g _ _).id).id
theorem c2F (x:a8) (thing to_ from_ until_:Int):M3 x thing to_ from_ until_=some (b0d x thing to_ from_ until_):=by
 unfold M3 b0d
 rw [a9b]
 by_cases h:A2 x
 · rw [if_pos h,if_pos h]
   have hn:=h.1.nleases
   have hw:W ((x.Now.Leases.length:Int)+1)=(x.Now.Leases.length:Int)+1:=a2v (by omega)
   have hp:(⟨⟨x.Me,⟨x.Now.Round,x.Now.Slots,x.Now.Bids,x.Now.Heard,x.Now.Leases,x.Now.Loans⟩,⟨x.Safe.Round,x.Safe.Slots,x.Safe.Bids,x.Safe.Heard,x.Safe.Leases,x.Safe.Loans⟩⟩⟩:l8)=⟨x⟩:=rfl
   have hd:j4 thing=some (thing.tmod 6):=rfl
   simp only [Option.bind_some,(a4N thing).eq,(a1Y to_).eq,(a1B from_).eq,(a1B until_).eq,hw,hp,(c3X x h _).eq,hd]
   by_cases h1:1≤thing∧thing≤99
   · have ht:thing.tmod 6=thing % 6:=a8Z (by omega)
     by_cases h2:0≤to_∧to_≤5
     · by_cases h3:0≤from_∧from_≤144001439
       · by_cases h4:0≤until_∧until_≤144001439
         · simp only [h1,h2,h3,h4,and_self,decide_true,Bool.not_true,Bool.false_eq_true,if_false,if_true,ht]
           by_cases h5:thing % 6=x.Me
           · by_cases h6:to_=x.Me
             · simp [h5,h6,Z0,S0]
             · by_cases h7:from_>until_
               · simp [h5,h6,h7,Z0,S0]
               · by_cases h8:b3z x.Now.Leases ⟨(x.Now.Leases.length:Int)+1,thing,to_,from_,until_⟩
                 · simp [h5,h6,h7,h8,Z0,S0]
                 · rw [a8a (by simp;omega)]
                   simp only [h5,h6,h7,h8,bne_self_eq_false,Bool.false_eq_true,if_false,if_true,decide_false,beq_eq_false_iff_ne.2 h6]
                   by_cases h9:x.Now.Leases.length=40
                   · rw [if_pos h9,if_pos (by rw [h9];rfl)];rfl
                   · rw [if_neg h9,if_neg (by rw [beq_iff_eq];omega)]
           · simp [h5,Z0,S0]
         · simp [h1,h2,h3,h4,Z0,S0]
       · simp [h1,h2,h3,Z0,S0]
     · simp [h1,h2,Z0,S0]
   · simp [h1,Z0,S0]
 · rw [if_neg h,if_neg h];rfl
def a3M (o n m:Int) (y:d7):d7:=if y.Owner=o∧y.No=n∧y.Back=false then⟨y.Owner,y.No,y.Thing,y.From,min y.Until (max m y.From),true⟩else y
noncomputable def a8j (x:a8) (o n m:Int):a8×Int:=
 if A2 x then(if 0≤o∧o≤5 then(if 0≤m∧m≤144001439 then(if∃y,y∈x.Now.Loans∧y.Owner=o∧y.No=n∧y.Back=false then
  (⟨x.Me,⟨x.Now.Round,x.Now.Slots,x.Now.Bids,x.Now.Heard,x.Now.Leases,x.Now.Loans.map (a3M o n m)⟩,x.Safe⟩,0)else(Z0,94))else(Z0,95))else(Z0,1))else(Z0,90)
theorem b0Z {me:Int} {s:c8} (h:j7 me s) {o n:Int} {i:Nat} (hi:Cut (X5 o n) s.Loans i):∀(k:Nat) (y:d7),s.Loans[k]?=some y→y.Owner=o→y.No=n→k=i:=by
 intro k y hy ho hno
 have h0:X5 o n y=0:=(a0T o n y).2.2 ⟨ho,hno⟩
 rcases Nat.lt_trichotomy k i with g|g|g
 · have:=c4a hi g hy;omega
 · exact g
 · have:=c4t hi h.rloans (f:=a0C) (fun a b hab ha=>by
    refine c3P ?_ ?_
    · rw [(a0T _ _ _).1]at*;unfold a0C at hab;omega
    · rw [(a0T _ _ _).1]at ha;rw [(a0T _ _ _).2];unfold a0C at hab;omega) k y g hy
   omega
theorem b9X (x:a8) (o n m:Int):a1t x o n m=some (a8j x o n m):=by
 unfold a1t a8j
 rw [a9b]
 by_cases h:A2 x
 · rw [if_pos h,if_pos h]
   simp only [Option.bind_some,(a1Y o).eq,(a1B m).eq]
   by_cases h1:0≤o∧o≤5
   · by_cases h2:0≤m∧m≤144001439
     · obtain⟨i,hi,e⟩:=b1D h.1 (⟨o,n,0,0,0,false⟩:d7)
       simp only [h1,h2,and_self,decide_true,Bool.not_true,Bool.false_eq_true,if_false,if_true,e,Option.bind_some]
       have hi:Cut (X5 o n) x.Now.Loans i:=hi
       by_cases hx:∃y,x.Now.Loans[i]?=some y∧X5 o n y=0
       · obtain⟨y,hy,h0⟩:=hx
         have hex:decide (∃y,x.Now.Loans[i]?=some y∧X5 o n y=0)=true:=decide_eq_true ⟨y,hy,h0⟩
         obtain⟨q1,q2⟩:=(a0T o n y).2.1 h0
         rw [show(!decide (∃y,x.Now.Loans[i]?=some y∧X5 o n y=0))=false by rw [hex];rfl]
         simp only [Bool.false_eq_true,if_false,P7 hy,Option.bind_some]
         by_cases hb:y.Back=true
         · have hno:¬∃y,y∈x.Now.Loans∧y.Owner=o∧y.No=n∧y.Back=false:=by
            rintro⟨z,hz,z1,z2,z3⟩
            obtain⟨k,hk,rfl⟩:=List.getElem_of_mem hz
            have hki:=b0Z h.1 hi k _ (List.getElem?_eq_getElem hk) z1 z2
            rw [←hki,List.getElem?_eq_getElem hk]at hy
            rw [Option.some.inj hy,hb]at z3
            cases z3
           rw [if_pos hb,if_neg hno]
           rfl
         · have hb':y.Back=false:=by simpa using hb
           have hyes:∃y,y∈x.Now.Loans∧y.Owner=o∧y.No=n∧y.Back=false:=⟨y,List.mem_of_getElem? hy,q1,q2,hb'⟩
           rw [if_neg hb,if_pos hyes]
           have hm:x.Now.Loans.map (a3M o n m)=x.Now.Loans.set i (a3M o n m y):=b8e hy fun k z hk hz=>by
            unfold a3M
            rw [if_neg]
            rintro⟨z1,z2,_⟩
            exact hk (b0Z h.1 hi k z hz z1 z2)
           have e1:=a5j (L:=x.Now.Loans) (⟨y.Owner,y.No,y.Thing,y.From,min y.Until (max m y.From),y.Back⟩:d7) hy
           rw [hm]
           simp only [b6Y,b6W,Int.toNat_natCast,P7 e1,Option.bind_some,List.set_set]
           unfold a3M
           rw [if_pos ⟨q1,q2,hb'⟩]
       · have hex:decide (∃y,x.Now.Loans[i]?=some y∧X5 o n y=0)=false:=decide_eq_false hx
         rw [show(!decide (∃y,x.Now.Loans[i]?=some y∧X5 o n y=0))=true by rw [hex];rfl]
         have hno:¬∃y,y∈x.Now.Loans∧y.Owner=o∧y.No=n∧y.Back=false:=by
          rintro⟨z,hz,z1,z2,z3⟩
          obtain⟨k,hk,rfl⟩:=List.getElem_of_mem hz
          have hki:=b0Z h.1 hi k _ (List.getElem?_eq_getElem hk) z1 z2
          exact hx ⟨_,by rw [←hki];exact List.getElem?_eq_getElem hk,(a0T o n _).2.2 ⟨z1,z2⟩⟩
         simp only [if_true]
         rw [if_neg hno]
         rfl
     · simp [h1,h2,Z0,S0]
   · simp [h1,Z0,S0]
 · rw [if_neg h,if_neg h];rfl
end Go.Proofs.YtcedmbakcchkiaaGreatDoor
namespace Go.Proofs.YtcedmbakcchkiaaGreatDoor
open Go Go.Sx
open Classical
theorem b9s {α R:Type} {body:Int→Option (Sum Int (Sum Int R))} (l:List α) (hl:l.length≤1000) (q:α→Bool) (r:α→R) (h:∀(i:Nat) x,l[i]?=some x→body (i:Int)=some (if q x=true then .inr (.inr (r x))else .inl ((i+1:Nat):Int)))
 (he:body (l.length:Int)=some (.inr (.inl (l.length:Int)))):A5 body 0=some (match l.find? q with|some x=> .inr (r x)|none=> .inl (l.length:Int)):=by
 have:=b3g (R:=R) (body:=body) l (by omega) (fun k (_:Unit)=>(k:Int)) (fun _ x=>if q x=true then .inr (r x)else .inl ()) .inr (fun _=> .inl (l.length:Int)) (fun _ _=>True) (fun pre x post s hp _=>by
  refine⟨?_,fun _ _=>trivial⟩
  rw [h pre.length x (by rw [hp];simp)]
  by_cases hq:q x=true<;>simp [hq]) (fun _ _=>he) () trivial
 rw [show((0:Nat):Int)=0 from rfl]at this
 rw [this]
 have key:∀l:List α,b2P (fun(_:Unit) x=>if q x=true then Sum.inr (r x)else Sum.inl ()) l ()=match l.find? q with|some x=> .inr (r x)|none=> .inl ():=by
  intro l
  induction l with
  |nil=>rfl
  |cons x l ih=>
   unfold b2P
   by_cases hq:q x=true
   · simp [hq]
   · simp [hq,ih]
 rw [key]
 cases l.find? q<;>rfl
def a8d (night:Int) (h:c9):Bool:=decide (h.Night=night)&&qr h.Mask
def a6W (s:c8) (night:Int):Option c9:=s.Heard.find? (a8d night)
theorem b9T {x:a8} (h:A2 x) (night:Int):U5 ⟨x⟩ night=some (match a6W x.Now night with|some y=>(y.Value,true)|none=>(0,false)):=by
 have hn:=h.1.nheard
 unfold U5
 rw [b9s x.Now.Heard (by omega) (a8d night) (fun y=>(y.Value,true)) (fun i y hy=>by
  have hi:=(List.getElem?_eq_some_iff.1 hy).1
  have hlt:((i:Int)<(x.Now.Heard.length:Int)):=by omega
  have hq:=(a9d (h.1.heard y (List.mem_of_getElem? hy)).2.2.2.2).1
  unfold P4 a8d
  simp only [hlt,decide_true,if_true,P7 hy,Option.bind_some,hq,W_s (show i<9223372036854775807 by omega)]
  by_cases g1:y.Night=night<;>by_cases g2:qr y.Mask=true<;>simp [g1,g2]) (by simp [P4])]
 unfold a6W
 cases x.Now.Heard.find? (a8d night)<;>rfl
def c1S (thing from_ until_ t m:Int):Prop:=thing=t∧from_≤m∧m<until_
def a9E (x:a8) (t m:Int):Prop:=if t % 6=x.Me then¬∃l,l∈x.Now.Leases∧c1S l.Thing l.From l.Until t m else∃l,l∈x.Now.Loans∧c1S l.Thing l.From l.Until t m
theorem c5n {x:a8} (h:A2 x) {t:Int} (ht:1≤t∧t≤99) (m:Int):Ans (U4 ⟨x⟩ t m) (a9E x t m):=by
 have n1:=h.1.nleases;have n2:=h.1.nloans
 have hd:j4 t=some (t % 6):=by show some (t.tmod 6)=_;rw [a8Z (by omega)]
 unfold U4 a9E
 simp only [hd,Option.bind_some]
 by_cases g:t % 6=x.Me
 · rw [if_pos g,if_pos (by rw [beq_iff_eq];exact g)]
   exact(V8 x.Now.Leases (by omega) (fun l=>a0V l t m) (fun l=>c1S l.Thing l.From l.Until t m) fun l _=>Ans.ite (by simp) fun _=>Ans.ite (by simp) fun _=> .of).not
 · rw [if_neg g,if_neg (by rw [beq_iff_eq];exact g)]
   exact(V8 x.Now.Loans (by omega) (fun l=>a0W l t m) (fun l=>c1S l.Thing l.From l.Until t m) fun l _=>Ans.ite (by simp) fun _=>Ans.ite (by simp) fun _=> .of).id
noncomputable def a5e (l:List Int) (n:Int):List Int:=upd (fun y=>a9c y n) n id l
theorem b0X (n:Int):∀(l:List Int) (x:Int),x∈a5e l n↔x∈l∨x=n
 | [],x=>by simp [a5e,upd]
 |y::l,x=>by
  have ih:=b0X n l x
  unfold a5e at ih⊢
  unfold upd
  split
  · rw [List.mem_cons,ih,List.mem_cons];simp only [or_assoc]
  · split
    · rename_i h0
      have:=a2m.1 h0
      simp only [id,List.mem_cons]
      constructor
      · rintro(h|h)
        · exact .inl (.inl h)
        · exact .inl (.inr h)
      · rintro((h|h)|h)
        · exact .inl h
        · exact .inr h
        · left;omega
    · simp only [id,List.mem_cons]
      constructor
      · rintro(h|h|h)
        · exact .inr h
        · exact .inl (.inl h)
        · exact .inl (.inr h)
      · rintro((h|h)|h)
        · exact .inr (.inl h)
        · exact .inr (.inr h)
        · exact .inl h
theorem b8c (n:Int):∀(l:List Int),l.Pairwise (fun a b=>a<b)→(a5e l n).Pairwise (fun a b=>a<b)
 | [],_=>by simp [a5e,upd]
 |y::l,h=>by
  have ih:=b8c n l (List.pairwise_cons.1 h).2
  have h1:=(List.pairwise_cons.1 h).1
  unfold a5e upd
  split
  · rename_i h0
    have h0:=a2t.1 h0
    refine List.pairwise_cons.2 ⟨fun z hz=> ?_,ih⟩
    rcases(b0X n l z).1 hz with hz|hz
    · exact h1 z hz
    · omega
  · rename_i h0
    rw [a2t]at h0
    split
    · exact h
    · rename_i h2
      rw [a2m]at h2
      refine List.pairwise_cons.2 ⟨fun z hz=> ?_,h⟩
      simp only [id]
      rcases List.mem_cons.1 hz with rfl|hz
      · omega
      · have:=h1 z hz;omega
theorem b3b:∀(l a:List Int),a.Pairwise (fun x y=>x<y)→(l.foldl a5e a).Pairwise (fun x y=>x<y)∧∀x,x∈l.foldl a5e a↔x∈a∨x∈l
 | [],a,h=>⟨h,fun x=>by simp⟩
 |n::l,a,h=>by
  obtain⟨h1,h2⟩:=b3b l (a5e a n) (b8c n a h)
  refine⟨h1,fun x=> ?_⟩
  rw [List.foldl_cons,h2 x,b0X,List.mem_cons]
  simp only [or_assoc]
theorem b9j (l:List Int):a5b (a5c l)=l.foldl a5e []:=by
 obtain⟨h1,h2⟩:=b3b l [] List.Pairwise.nil
 refine b8g (c2n (b4n l)) h1 fun x=> ?_
 rw [b8Y,b9P,h2 x]
 simp
end Go.Proofs.YtcedmbakcchkiaaGreatDoor
namespace Go.Proofs.YtcedmbakcchkiaaGreatDoor
open Go Go.Sx
open Classical
def c0S (T:Int→Prop) (ok:Int→Prop) (r:Int×Int):Prop:=((∀f,T f→¬ok f)∧r=(0,3))∨∃f,T f∧ok f∧(∀g,T g→ok g→f≤g)∧r=(f,0)
theorem c0S.one {T:Int→Prop} {ok:Int→Prop} {r s:Int×Int} (h1:c0S T ok r) (h2:c0S T ok s):r=s:=by
 rcases h1 with⟨a,rfl⟩|⟨f,a,b,c,rfl⟩
 · rcases h2 with⟨a',rfl⟩|⟨f',a',b',c',rfl⟩
   · rfl
   · exact absurd b' (a f' a')
 · rcases h2 with⟨a',rfl⟩|⟨f',a',b',c',rfl⟩
   · exact absurd b (a' f a)
   · have h1:=c f' a' b'
     have h2:=c' f a b
     have:f=f':=by omega
     rw [this]
end Go.Proofs.YtcedmbakcchkiaaGreatDoor
namespace Go.Proofs.YtcedmbakcchkiaaGreatDoor
open Go Go.Sx
open Classical
def b1s (l:List a8):Prop:=(∀x,x∈l→A2 x)∧I1 (fun a b=>a.Me<b.Me) l
theorem b3w (ok:Nat→Prop):∀n,(∀k,k<n→ok k)∨∃k,k<n∧¬ok k∧∀j,j<k→ok j
 |0=> .inl fun k h=>by omega
 |n+1=>by
  rcases b3w ok n with h|⟨k,h1,h2,h3⟩
  · by_cases hn:ok n
    · exact .inl fun k hk=>by
       by_cases e:k=n
       · rw [e];exact hn
       · exact h k (by omega)
    · exact .inr ⟨n,by omega,hn,h⟩
  · exact .inr ⟨k,by omega,h2,h3⟩
def b2V (l:List a8) (k:Nat):Prop:=(∀x,l[k]?=some x→A2 x)∧(0<k→∀a,l[k-1]?=some a→∀b,l[k]?=some b→a.Me<b.Me)
theorem b1E (l:List a8):(∀k,k<l.length→b2V l k)↔b1s l:=by
 have:=c3a l A2 (fun a b=>a.Me<b.Me)
 unfold b1s
 rw [←this]
 exact forall_congr' fun i=>⟨fun h _ hi=>h hi,fun h hi=>h (Nat.zero_le _) hi⟩
theorem c3E {l:List a8}:∀(k:Nat) (x:a8),(∀j,j≤k→b2V l j)→l[k]?=some x→(k:Int)≤x.Me
 |0,x,h,hx=>by have:=((h 0 (Nat.le_refl _)).1 x hx).1.dep;omega
 |k+1,x,h,hx=>by
  obtain⟨y,hy⟩:=b1Y (l:=l) (i:=k) (by have:=(List.getElem?_eq_some_iff.1 hx).1;omega)
  have h1:=c3E k y (fun j hj=>h j (by omega)) hy
  have h2:=(h (k+1) (Nat.le_refl _)).2 (by omega) y (by simpa using hy) x hx
  omega
theorem c0e {l:List a8} {k:Nat} (h:∀j,j<k→b2V l j) (hk:k≤l.length):k≤6:=by
 cases k with
 |zero=>omega
 |succ k=>
  obtain⟨x,hx⟩:=b1Y (l:=l) (i:=k) (by omega)
  have h1:=c3E k x (fun j hj=>h j (by omega)) hx
  have h2:=((h k (by omega)).1 x hx).1.dep
  omega
theorem b1s.len {l:List a8} (h:b1s l):l.length≤6:=c0e ((b1E l).2 h) (Nat.le_refl _)
def a2q (l:List a8):List (Option l8):=l.map fun x=>some ⟨x⟩
theorem b3u (l:List a8) (hl:l.length≤9223372036854775807):a0p l=some (if b1s l then(a2q l,0)else([],97)):=by
 have step:∀k x,l[k]?=some x→(∀j,j<k→b2V l j)→L0 l ([],(k:Int),a2q (l.take k))=some (if b2V l k then .inl ([],((k+1:Nat):Int),a2q (l.take (k+1)))else .inr (.inr ([],97))):=by
  intro k x hx hall
  have hk:=(List.getElem?_eq_some_iff.1 hx).1
  have h6:=c0e hall (by omega)
  have hlt:((k:Int)<(l.length:Int)):=by omega
  have hw:W ((k:Int)+1)=((k+1:Nat):Int):=W_s (by omega)
  have hlen:(a2q (l.take k)).length=k:=by simp [a2q];omega
  have hpost:a2q (l.take (k+1))=a2q (l.take k)++ [some ⟨x⟩]:=by rw [b3t hx];simp [a2q]
  unfold L0
  simp only [hlt,decide_true,if_true,P7 hx,Option.bind_some,b8k,hw]
  by_cases hv:A2 x
  · simp only [hv,if_true,b2c,bne_self_eq_false,Bool.false_eq_true,if_false]
    rw [a8a (by rw [hlen];simp;omega)]
    by_cases h0:0<k
    · obtain⟨y,hy⟩:=b1Y (l:=l) (i:=k-1) (by omega)
      have h00:(k:Int)>0:=by omega
      simp only [h00,decide_true,if_true,c2q h0 (by omega),P7 hy,Option.bind_some]
      by_cases hm:y.Me≥x.Me
      · have:¬b2V l k:=fun h=>by have:=h.2 h0 y hy x hx;omega
        simp only [hm,this,decide_true,if_true,if_false]
      · have:b2V l k:=⟨fun z hz=>by rw [hx]at hz;cases hz;exact hv,fun _ a ha b hb=>by rw [hy]at ha;rw [hx]at hb;cases ha;cases hb;omega⟩
        simp only [hm,this,decide_false,Bool.false_eq_true,if_true,if_false,hpost]
    · have h00:¬((k:Int)>0):=by omega
      have:b2V l k:=⟨fun z hz=>by rw [hx]at hz;cases hz;exact hv,fun h=>absurd h h0⟩
      simp only [h00,this,decide_false,Bool.false_eq_true,if_true,if_false,hpost]
  · have:¬b2V l k:=fun h=>hv (h.1 x hx)
    have n90:((90:Int) !=0)=true:=rfl
    simp only [hv,this,if_false,b2c,n90,if_true]
 unfold a0p
 rcases b3w (b2V l) l.length with h|⟨k,h1,h2,h3⟩
 · have hv:=(b1E l).1 h
   have hl2:=b4K (body:=L0 l) (fun k=>([],(k:Int),a2q (l.take k))) l.length hl (.inl ([],(l.length:Int),a2q l)) (fun k hk=>by
    obtain⟨x,hx⟩:=b1Y hk
    rw [step k x hx (fun j hj=>h j (by omega)),if_pos (h k hk)]) (by simp [L0])
   rw [show a2q (l.take 0)= [] from rfl,show((0:Nat):Int)=0 from rfl]at hl2
   rw [hl2,if_pos hv]
   rfl
 · have hv:¬b1s l:=fun hv=>h2 ((b1E l).2 hv k h1)
   have hl2:=b4K (body:=L0 l) (fun k=>([],(k:Int),a2q (l.take k))) k (by omega) (.inr ([],97)) (fun j hj=>by
    obtain⟨x,hx⟩:=b1Y (l:=l) (i:=j) (by omega)
    rw [step j x hx (fun i hi=>h3 i (by omega)),if_pos (h3 j hj)]) (by
    obtain⟨x,hx⟩:=b1Y h1
    rw [step k x hx h3,if_neg h2])
   rw [show a2q (l.take 0)= [] from rfl,show((0:Nat):Int)=0 from rfl]at hl2
   rw [hl2,if_neg hv]
   rfl
noncomputable def a5m (t m:Int) (x:a8):List Int:=if a9E x t m then [x.Me]else []
theorem b2f (t m:Int) (x:a8):(a5m t m x).length≤1:=by unfold a5m;split<;>simp
noncomputable def b7N (l:List a8) (t m:Int):List Int×Int:=if b1s l then(if 1≤t∧t≤99 then(if 0≤m∧m≤144001439 then(l.flatMap (a5m t m),0)else([],95))else([],1))else([],97)
theorem b3e {pre post:List a8} {x:a8}:idx (a2q (pre++x::post)) (pre.length:Int)=some (some ⟨x⟩):=by
 unfold a2q idx;simp
theorem a7a (l:List a8):(a2q l).length=l.length:=by simp [a2q]
theorem c0X (l:List a8) (hl:l.length≤9223372036854775807) (t m:Int):a0J l t m=some (b7N l t m):=by
 unfold a0J b7N
 rw [b3u l hl,(a4N t).eq,(a1B m).eq]
 by_cases h:b1s l
 · have h6:=h.len
   simp only [h,if_true,Option.bind_some,bne_self_eq_false,Bool.false_eq_true,if_false]
   by_cases h1:1≤t∧t≤99
   · by_cases h2:0≤m∧m≤144001439
     · have hlp:=b6m (body:=U9 t m (a2q l)) l (by omega) (fun k a=>(a,(k:Int))) (a5m t m) [] (by simp) (fun y=>by have:=b2f t m y;omega) (fun pre y post a hp ha=>by
        have hw:W ((pre.length:Int)+1)=((pre.length+1:Nat):Int):=W_s (by rw [hp]at h6;simp at h6;omega)
        have hy:=h.1 y (by rw [hp];simp)
        unfold U9 a5m
        simp only [a7a,hp,a9A,decide_true,if_true,b3e,Option.bind_some,hw,(c5n hy h1 m).eq]
        by_cases g:a9E y t m<;>simp [g,gd]<;>omega) (fun a=>by simp [U9,a7a])
       simp only [show((0:Nat):Int)=0 from rfl,List.nil_append]at hlp
       simp only [h1,h2,and_self,decide_true,Bool.not_true,Bool.false_eq_true,if_false,if_true,hlp,Option.bind_some]
     · simp [h1,h2]
   · simp [h1]
 · simp [h]
def a1q (night:Int) (x:a8):List Int:=match a6W x.Now night with|some y=> [y.Value]|none=> []
theorem b0o (night:Int) (x:a8):(a1q night x).length≤1:=by unfold a1q;split<;>simp
noncomputable def b1R (l:List a8) (night:Int):List Int×Int:=if b1s l then(if 0≤night∧night≤100000 then((l.flatMap (a1q night)).foldl a5e [],0)else([],6))else([],97)
theorem b6C (l:List a8) (hl:l.length≤9223372036854775807) (night:Int):Y4 l night=some (b1R l night):=by
 unfold Y4 b1R
 rw [b3u l hl,(a3x night).eq]
 by_cases h:b1s l
 · have h6:=h.len
   simp only [h,if_true,Option.bind_some,bne_self_eq_false,Bool.false_eq_true,if_false]
   by_cases h1:0≤night∧night≤100000
   · have hlp:=b6m (body:=Q1 night (a2q l)) l (by omega) (fun k a=>(a,(k:Int))) (a1q night) [] (by simp) (fun y=>by have:=b0o night y;omega) (fun pre y post a hp ha=>by
      have hw:W ((pre.length:Int)+1)=((pre.length+1:Nat):Int):=W_s (by rw [hp]at h6;simp at h6;omega)
      have hy:=h.1 y (by rw [hp];simp)
      unfold Q1 a1q
      simp only [a7a,hp,a9A,decide_true,if_true,b3e,Option.bind_some,hw,b9T hy]
      cases a6W y.Now night with
      |none=>simp
      |some z=>simp [gd];omega) (fun a=>by simp [Q1,a7a])
     have hfl:=a1k (a1q night) 1 (b0o night) l
     simp only [show((0:Nat):Int)=0 from rfl,List.nil_append]at hlp
     simp only [h1,and_self,decide_true,Bool.not_true,Bool.false_eq_true,if_false,if_true,hlp,Option.bind_some]
     unfold K6 V5
     rw [a8a (by omega)]
     simp only [Option.bind_some,b9j]
   · simp [h1]
 · simp [h]
end Go.Proofs.YtcedmbakcchkiaaGreatDoor
namespace Go.Proofs.YtcedmbakcchkiaaGreatDoor
open Go Go.Sx
open Classical
theorem a3I {m:Int} (n:Int) (hm:0<m∧m≤144001439):J8 n m=some (n % m):=by
 unfold J8
 simp only [gd,ne_eq,show¬m=0 by omega,not_false_eq_true,if_true,Option.some.injEq]
 have h3:=Int.tmod_eq_emod (a:=n) (b:=m)
 have h4:=Int.emod_nonneg n (show m≠0 by omega)
 have h5:=Int.emod_lt_of_pos n hm.1
 have h6:n.tmod m=n % m∨n.tmod m=n % m-m:=by
  rw [h3];split
  · exact .inl (by omega)
  · exact .inr (by omega)
 rcases h6 with h6|h6
 · rw [h6,a2v (by omega),Int.tmod_eq_emod_of_nonneg (by omega),Int.add_emod_right,Int.emod_eq_of_lt h4 h5]
 · rw [h6,a2v (by omega),show n % m-m+m=n % m by omega,Int.tmod_eq_emod_of_nonneg h4,Int.emod_eq_of_lt h4 h5]
structure Dl (D T to_ f u:Int):Prop where
 hD:0≤D∧D≤5
 hT:1≤T∧T≤99
 hTD:T % 6=D
 hto:0≤to_∧to_≤5
 hf:0≤f∧f≤390
 hu:f≤u∧u≤f+110
theorem c2U (a:a1A):∃T to_ f u,a2g a=some ⟨T,to_,f,u⟩∧Dl (a.Depot % 6) T to_ f u:=by
 unfold a2g
 rw [b2o,b2o,a3I _ (by omega),a3I _ (by omega),a3I _ (by omega)]
 simp only [Option.bind_some]
 rw [a2v (z:=1+a.Thing % 3) (by omega),a2v (z:=6*(1+a.Thing % 3)) (by omega),a2v (z:=a.Depot % 6+6*(1+a.Thing % 3)) (by omega),a2v (z:=a.From % 40*10) (by omega),a2v (z:=a.Long % 12*10) (by omega),a2v (z:=a.From % 40*10+a.Long % 12*10) (by omega)]
 exact⟨_,_,_,_,rfl,by omega,by omega,by omega,by omega,by omega,by omega⟩
theorem a6R {α:Type} {f:α→α→Prop} {l:List α} (h:l.length≤1):I1 f l:=fun i a b _ hb=>by
 have:=(List.getElem?_eq_some_iff.1 hb).1;omega
theorem b3p {α:Type} {f:α→α→Prop} {l:List α} (h:l.length≤1):a8f f l:=fun i x hx y hy=>by
 have:=(List.getElem?_eq_some_iff.1 hx).1
 obtain rfl:i=0:=by omega
 simp at hy
theorem vst {me:Int} {L:List c0} {M:List d7} (hd:0≤me∧me≤5) (l1:L.length≤1) (m1:M.length≤1) (hL:∀l,l∈L→a4g me l∧l.No=1) (hM:∀l,l∈M→a6D me l):j7 me ⟨0, [], [], [],L,M⟩ where
 dep:=hd
 round:=⟨Int.le_refl _,by show(0:Int)≤9999;omega⟩
 nslots:=by simp
 slots:=fun x hx=>by cases hx
 nbids:=by simp
 bids:=fun x hx=>by cases hx
 nheard:=by simp
 heard:=fun x hx=>by cases hx
 nleases:=by show(L.length:Int)≤40;omega
 leases:=fun x hx=>(hL x hx).1
 nloans:=by show(M.length:Int)≤60;omega
 loans:=hM
 rslots:=a6R (by simp)
 rbids:=a6R (by simp)
 rheard:=a6R (by simp)
 rloans:=a6R m1
 ballots:=b3p (by simp)
 nos:=fun i x hx=>by
  have hx:L[i]?=some x:=hx
  have:=(List.getElem?_eq_some_iff.1 hx).1
  obtain rfl:i=0:=by omega
  have:=(hL x (List.mem_of_getElem? hx)).2
  simp [this]
 meets:=b3p l1
theorem vs0 {me:Int} (hd:0≤me∧me≤5):j7 me S0:=vst hd (by simp) (by simp) (fun x hx=>by cases hx) (fun x hx=>by cases hx)
theorem b6d {me:Int} {s t:c8} (hs:j7 me s) (ht:j7 me t):a9G ⟨me,s,t⟩=(⟨me,s,s⟩,0):=by
 unfold a9G
 rw [if_pos ⟨hs,ht⟩]
theorem c1y {me:Int} {s t:c8} (hs:j7 me s) (ht:j7 me t) {to_:Int} (h:0≤to_∧to_≤5):b4L ⟨me,s,t⟩ to_=(b0s me to_ t,0):=by
 unfold b4L
 rw [if_pos ⟨hs,ht⟩,if_pos h]
end Go.Proofs.YtcedmbakcchkiaaGreatDoor
namespace Go.Proofs.YtcedmbakcchkiaaGreatDoor
open Go Go.Sx
open Classical
section
variable {α : Type} {c : α → Int} {new : α} {f : α → α}
theorem a2a:∀ {l:List α} {y:α},y∈upd c new f l→y=f new∨y∈l∨∃x,x∈l∧c x=0∧y=f x
 | [],y,h=> .inl (by simpa [upd]using h)
 |x::l,y,h=>by
  unfold upd at h
  split at h
  · rcases List.mem_cons.1 h with rfl|h
    · exact .inr (.inl List.mem_cons_self)
    · rcases a2a h with h|h|⟨z,h1,h2,h3⟩
      · exact .inl h
      · exact .inr (.inl (List.mem_cons_of_mem _ h))
      · exact .inr (.inr ⟨z,List.mem_cons_of_mem _ h1,h2,h3⟩)
  · split at h
    · rename_i h0
      rcases List.mem_cons.1 h with rfl|h
      · exact .inr (.inr ⟨x,List.mem_cons_self,h0,rfl⟩)
      · exact .inr (.inl (List.mem_cons_of_mem _ h))
    · rcases List.mem_cons.1 h with rfl|h
      · exact .inl rfl
      · exact .inr (.inl h)
theorem a4c {lt:α→α→Prop} {x:α} {l:List α}:I1 lt (x::l)↔(∀y,l[0]?=some y→lt x y)∧I1 lt l:=
 ⟨fun h=>⟨fun y hy=>h 0 x y rfl (by simpa using hy),fun i a b ha hb=>h (i+1) a b (by simpa using ha) (by simpa using hb)⟩,fun⟨h1,h2⟩ i a b ha hb=>by
  cases i with
  |zero=>
   simp at ha
   subst ha
   exact h1 b (by simpa using hb)
  |succ i=>exact h2 i a b (by simpa using ha) (by simpa using hb)⟩
theorem c1Z {l:List α} {y:α} (h:(upd c new f l)[0]?=some y):y=f new∨l[0]?=some y∨∃x,l[0]?=some x∧c x=0∧y=f x:=by
 cases l with
 |nil=>exact .inl (by simpa [upd]using h.symm)
 |cons x l=>
  unfold upd at h
  split at h
  · exact .inr (.inl (by simpa using h))
  · split at h
    · rename_i h0
      exact .inr (.inr ⟨x,rfl,h0,by simpa using h.symm⟩)
    · exact .inl (by simpa using h.symm)
theorem a4I {lt:α→α→Prop} (hlt:∀x,c x<0→lt x (f new)) (hgt:∀x,0<c x→lt (f new) x) (h1:∀x,c x=0→∀y,lt y x→lt y (f x)) (h2:∀x,c x=0→∀y,lt x y→lt (f x) y):∀ {l:List α},I1 lt l→I1 lt (upd c new f l)
 | [],_=>fun i a b _ hb=>by
  have:=(List.getElem?_eq_some_iff.1 hb).1
  simp [upd]at this
 |x::l,h=>by
  obtain⟨h3,h4⟩:=a4c.1 h
  unfold upd
  split
  · rename_i hc
    refine a4c.2 ⟨fun y hy=> ?_,a4I hlt hgt h1 h2 h4⟩
    rcases c1Z hy with rfl|hy|⟨z,hz,hz0,rfl⟩
    · exact hlt x hc
    · exact h3 y hy
    · exact h1 z hz0 x (h3 z hz)
  · split
    · rename_i hc
      exact a4c.2 ⟨fun y hy=>h2 x hc y (h3 y hy),h4⟩
    · exact a4c.2 ⟨fun y hy=>by simp at hy;subst hy;exact hgt _ (by omega),h⟩
theorem b3U {lt:α→α→Prop} (hf:∀a b,lt a b→lt (f a) (f b)) {l:List α} (h:I1 lt l):I1 lt (l.map f):=fun i a b ha hb=>by
 rw [List.getElem?_map]at ha hb
 obtain⟨a',ha',rfl⟩:=Option.map_eq_some_iff.1 ha
 obtain⟨b',hb',rfl⟩:=Option.map_eq_some_iff.1 hb
 exact hf _ _ (h i a' b' ha' hb')
theorem a2e {g:α→α→Prop} {l:List α}:a8f g l↔l.Pairwise (fun y x=>¬g y x):=by
 rw [List.pairwise_iff_getElem]
 constructor
 · intro h i j hi hj hij
   refine h j _ (List.getElem?_eq_getElem hj) _ (List.mem_of_getElem? (i:=i) ?_)
   rw [List.getElem?_take,if_pos hij,List.getElem?_eq_getElem hi]
 · intro h i x hx y hy
   obtain⟨hi,rfl⟩:=List.getElem?_eq_some_iff.1 hx
   obtain⟨k,hk,rfl⟩:=List.getElem_of_mem hy
   rw [List.getElem_take]
   exact h k i (by simp at hk;omega) hi (by simp at hk;omega)
theorem c1J {R:α→α→Prop} (hf:∀x,f x=f new):∀ {l:List α},l.Pairwise R→(∀x,x∈l→R x (f new))→(∀x,x∈l→R (f new) x)→(upd c new f l).Pairwise R
 | [],_,_,_=>by simp [upd]
 |x::l,h,h1,h2=>by
  rw [List.pairwise_cons]at h
  have ih:=c1J hf h.2 (fun y hy=>h1 y (List.mem_cons_of_mem _ hy)) (fun y hy=>h2 y (List.mem_cons_of_mem _ hy))
  unfold upd
  split
  · refine List.pairwise_cons.2 ⟨fun y hy=> ?_,ih⟩
    rcases a2a hy with rfl|hy|⟨z,_,_,rfl⟩
    · exact h1 x List.mem_cons_self
    · exact h.1 y hy
    · rw [hf];exact h1 x List.mem_cons_self
  · split
    · rw [hf]
      exact List.pairwise_cons.2 ⟨fun y hy=>h2 y (List.mem_cons_of_mem _ hy),h.2⟩
    · exact List.pairwise_cons.2 ⟨h2,List.pairwise_cons.2 h⟩
end
theorem a9e (n:Int) (x:d0):(a1Q n x<0↔x.Night<n)∧(a1Q n x=0↔x.Night=n):=⟨a2t,a2m⟩
theorem a6e (n:Int) (x:i0):(b4l n x<0↔x.Night<n)∧(b4l n x=0↔x.Night=n):=⟨a2t,a2m⟩
theorem b3E {f:d0→d0} {new:d0} (hn:∀x,(f x).Night=x.Night) {l:List d0} (h:I1 a3g l):I1 a3g (upd (a1Q new.Night) new f l):=by
 refine a4I (fun x hx=> ?_) (fun x hx=> ?_) (fun x _ y hy=> ?_) (fun x _ y hy=> ?_) h<;>unfold a3g at* <;>rw [hn]
 · exact(a9e _ _).1.1 hx
 · have h1:=a9e new.Night x
   have:¬x.Night<new.Night:=fun q=>by have:=h1.1.2 q;omega
   have:¬x.Night=new.Night:=fun q=>by have:=h1.2.2 q;omega
   omega
 · exact hy
 · exact hy
theorem a9W (c:b9) (x:d0):(a4i c x).Night=x.Night:=by unfold a4i;split<;>rfl
theorem b0W (c:b9) (x:d0):(b0p c x).Night=x.Night:=by unfold b0p;split<;>rfl
theorem c1D {c:b9} (hc:a3i c) {x:d0} (h:a1a x∨x=M5 c):a1a (a4i c x):=by
 obtain⟨h1,h2,_⟩:=hc
 unfold a4i
 rcases h with⟨a,b,d⟩|rfl
 · split
   · refine⟨a,h2, ?_⟩
     rcases d with d|d
     · exact .inl d
     · exact .inr ⟨⟨d.1.1,by simp only;omega⟩,d.2⟩
   · exact⟨a,b,d⟩
 · rw [if_pos (by simp only [M5];omega)]
   exact⟨h1,h2, .inl ⟨rfl,rfl⟩⟩
theorem c3c {c:b9} (hc:a3i c) (hv:a7j c.Value) {x:d0} (h:a1a x∨x=M5 c):a1a (b0p c x):=by
 obtain⟨h1,h2,_⟩:=hc
 unfold b0p
 rcases h with⟨a,b,d⟩|rfl
 · split
   · exact⟨a,h2, .inr ⟨⟨h2.1,Int.le_refl _⟩,hv⟩⟩
   · exact⟨a,b,d⟩
 · rw [if_pos (by simp only [M5];omega)]
   exact⟨h1,h2, .inr ⟨⟨h2.1,Int.le_refl _⟩,hv⟩⟩
theorem j7.slots' {me:Int} {s:c8} (h:j7 me s) {L:List d0} (hn:L.length≤12) (hL:∀x,x∈L→a1a x) (hr:I1 a3g L):j7 me ⟨s.Round,L,s.Bids,s.Heard,s.Leases,s.Loans⟩:=
 { h with nslots:=by show(L.length:Int)≤12;omega,slots:=hL,rslots:=hr}
theorem b3y {c:b9} {f:d0→d0} {l:List d0} (hl:∀x,x∈l→a1a x) (hf:∀x,a1a x∨x=M5 c→a1a (f x)):∀x,x∈upd (a1Q c.Night) (M5 c) f l→a1a x:=fun x hx=>by
 rcases a2a hx with rfl|hx|⟨z,hz,_,rfl⟩
 · exact hf _ (.inr rfl)
 · exact hl x hx
 · exact hf _ (.inl (hl z hz))
theorem qr0:qr 0=false:=by decide+kernel
theorem c4i {me:Int} {s:c8} (h:j7 me s) (hr:s.Round≠9999) {night value:Int} (hn:0≤night∧night≤100000) (hv:1≤value∧value≤1000000) (hf:(a6x s me night value).length≤12):j7 me ⟨s.Round+1,s.Slots,a6x s me night value,s.Heard,s.Leases,s.Loans⟩:=by
 have hd:=h.dep;have hro:=h.round
 have hnew:a7v me (s.Round+1) (R9 me s.Round night value):=⟨hn,by simp only [R9];omega,by simp only [R9];omega,hv,by simp only [R9];omega,by simp only [R9];omega,qr0.symm⟩
 have hold:∀x,x∈s.Bids→a7v me (s.Round+1) x:=fun x hx=>by
  obtain⟨a,b,r⟩:=h.bids x hx
  exact⟨a,by omega,r⟩
 exact { h with
  round:=by show 0≤s.Round+1∧s.Round+1≤9999;omega
  nbids:=by show((a6x s me night value).length:Int)≤12;omega
  bids:=fun x hx=>by
   rcases a2a hx with rfl|hx|⟨z,_,_,rfl⟩
   · exact hnew
   · exact hold x hx
   · exact hnew
  rbids:=by
   refine a4I (fun x hx=> ?_) (fun x hx=> ?_) (fun x h0 y hy=> ?_) (fun x h0 y hy=> ?_) h.rbids<;>unfold a7i at* <;>simp only [R9]
   · exact(a6e _ _).1.1 hx
   · have h1:=a6e night x
     have:¬x.Night<night:=fun q=>by have:=h1.1.2 q;omega
     have:¬x.Night=night:=fun q=>by have:=h1.2.2 q;omega
     omega
   · rw [←(a6e night x).2.1 h0];exact hy
   · rw [←(a6e night x).2.1 h0];exact hy
  ballots:=a2e.2 (c1J (fun _=>rfl) (a2e.1 h.ballots) (fun x hx=>by have:=(h.bids x hx).2.1;simp only [R9];omega) (fun x hx=>by have:=(h.bids x hx).2.1;simp only [R9];omega))}
theorem a7G (c:b9) (b:i0):(a3b c b).Night=b.Night∧(a3b c b).Ballot=b.Ballot:=by unfold a3b;split<;>exact⟨rfl,rfl⟩
theorem c0l {me r:Int} {c:b9} (hf:0≤c.From∧c.From≤5) (hb:(c.Best=0∧c.Value=0)∨((6≤c.Best∧c.Best≤c.Ballot-1)∧a7j c.Value)) {b:i0} (h:a7v me r b):a7v me r (a3b c b):=by
 obtain⟨h1,h2,h3,h4,h5,h6,h7⟩:=h
 unfold a3b
 split
 · rename_i hc
   have hm:=(a8O h6 hf).2.1
   refine⟨h1,h2,h3, ?_, ?_,⟨hm.1,hm.2.1⟩,rfl⟩
   · show 1≤(if c.Best>b.Best then c.Value else b.Value)∧(if c.Best>b.Best then c.Value else b.Value)≤1000000
     split
     · rcases hb with hb|hb
       · omega
       · exact hb.2
     · exact h4
   · show 0≤(if c.Best>b.Best then c.Best else b.Best)∧(if c.Best>b.Best then c.Best else b.Best)≤b.Ballot-1
     split<;>omega
 · exact⟨h1,h2,h3,h4,h5,h6,h7⟩
theorem j7.bids' {me:Int} {s:c8} (h:j7 me s) {f:i0→i0} (hk:∀b,(f b).Night=b.Night∧(f b).Ballot=b.Ballot) (ho:∀b,a7v me s.Round b→a7v me s.Round (f b)):j7 me ⟨s.Round,s.Slots,s.Bids.map f,s.Heard,s.Leases,s.Loans⟩:=
 { h with
  nbids:=by show((s.Bids.map f).length:Int)≤12;rw [List.length_map];exact h.nbids
  bids:=fun x hx=>by
   obtain⟨y,hy,rfl⟩:=List.mem_map.1 hx
   exact ho y (h.bids y hy)
  rbids:=b3U (fun a b hab=>by unfold a7i at*;rw [(hk a).1,(hk b).1];exact hab) h.rbids
  ballots:=a2e.2 ((List.pairwise_map).2 ((a2e.1 h.ballots).imp fun hab=>by rw [(hk _).2,(hk _).2];exact hab))}
theorem a9Y (c:b9) (x:c9):(a0X c x).Night=x.Night∧(a0X c x).Ballot=x.Ballot∧(a0X c x).Value=x.Value:=by unfold a0X;split<;>exact⟨rfl,rfl,rfl⟩
theorem j7.heard' {me:Int} {s:c8} (h:j7 me s) {c:b9} (hf:0≤c.From∧c.From≤5) (hv:a3i c) (hval:a7j c.Value) (hn:(upd (a0Y c.Ballot c.Night) (N3 c) (a0X c) s.Heard).length≤60):j7 me ⟨s.Round,s.Slots,s.Bids,upd (a0Y c.Ballot c.Night) (N3 c) (a0X c) s.Heard,s.Leases,s.Loans⟩:=
 { h with
  nheard:=by show((upd (a0Y c.Ballot c.Night) (N3 c) (a0X c) s.Heard).length:Int)≤60;omega
  heard:=fun x hx=>by
   rcases a2a hx with rfl|hx|⟨z,hz,_,rfl⟩
   · have hm:=(a8O (m:=0) (by omega) hf).2.1
     unfold a0X
     rw [if_pos (show(N3 c).Value=c.Value from rfl)]
     exact⟨hv.2.1,hv.1,hval,hm.2.2,hm.1,hm.2.1⟩
   · exact h.heard x hx
   · have ho:=h.heard z hz
     unfold a0X
     split
     · have hm:=(a8O ho.2.2.2.2 hf).2.1
       exact⟨ho.1,ho.2.1,ho.2.2.1,hm.2.2,hm.1,hm.2.1⟩
     · exact ho
  rheard:=by
   refine a4I (fun x hx=> ?_) (fun x hx=> ?_) (fun x _ y hy=> ?_) (fun x _ y hy=> ?_) h.rheard<;>unfold a8i at* <;>rw [(a9Y _ _).1,(a9Y _ _).2.1]
   · exact(a7W _ _ _).1.1 hx
   · have h1:=a7W c.Ballot c.Night x
     have:¬(x.Ballot<c.Ballot∨(x.Ballot=c.Ballot∧x.Night<c.Night)):=fun q=>by have:=h1.1.2 q;omega
     have:¬(x.Ballot=c.Ballot∧x.Night=c.Night):=fun q=>by have:=h1.2.2 q;omega
     simp only [N3]
     omega
   · exact hy
   · exact hy}
theorem a3X (c:b9) (l:c0):(a1H c l).No=l.No∧(a1H c l).Thing=l.Thing∧(a1H c l).To=l.To∧(a1H c l).From=l.From∧(a1H c l).Until≤l.Until:=by
 unfold a1H;split
 · exact⟨rfl,rfl,rfl,rfl,by simp only;omega⟩
 · exact⟨rfl,rfl,rfl,rfl,Int.le_refl _⟩
theorem c0f {me:Int} {c:b9} {l:c0} (h:a4g me l):a4g me (a1H c l):=by
 obtain⟨h1,h2,h3,h4,h5,h6,h7⟩:=h
 unfold a1H;split
 · exact⟨h1,h2,h3,h4,h5,by simp only;omega,by simp only;omega⟩
 · exact⟨h1,h2,h3,h4,h5,h6,h7⟩
theorem j7.back' {me:Int} {s:c8} (h:j7 me s) (c:b9):j7 me ⟨s.Round,s.Slots,s.Bids,s.Heard,s.Leases.map (a1H c),s.Loans⟩:=
 { h with
  nleases:=by show((s.Leases.map (a1H c)).length:Int)≤40;rw [List.length_map];exact h.nleases
  leases:=fun x hx=>by
   obtain⟨y,hy,rfl⟩:=List.mem_map.1 hx
   exact c0f (h.leases y hy)
  nos:=fun i x hx=>by
   rw [List.getElem?_map]at hx
   obtain⟨y,hy,rfl⟩:=Option.map_eq_some_iff.1 hx
   rw [(a3X c y).1];exact h.nos i y hy
  meets:=a2e.2 ((List.pairwise_map).2 ((a2e.1 h.meets).imp fun {a b} hab q=>by
   have ha:=a3X c a;have hb:=a3X c b
   unfold a4Y at*
   exact hab ⟨by rw [←ha.2.1,←hb.2.1];exact q.1,by have:=q.2;omega⟩))}
theorem j7.lend' {me:Int} {s:c8} (h:j7 me s) {y:c0} (hy:a4g me y) (hno:y.No=(s.Leases.length:Int)+1) (hn:s.Leases.length≠40) (hl:¬b3z s.Leases y):j7 me ⟨s.Round,s.Slots,s.Bids,s.Heard,s.Leases++ [y],s.Loans⟩:=
 { h with
  nleases:=by have:=h.nleases;show((s.Leases++ [y]).length:Int)≤40;simp;omega
  leases:=fun x hx=>by
   rcases List.mem_append.1 hx with hx|hx
   · exact h.leases x hx
   · rw [List.mem_singleton]at hx;subst hx;exact hy
  nos:=fun i x hx=>by
   by_cases hi:i<s.Leases.length
   · rw [List.getElem?_append_left hi]at hx;exact h.nos i x hx
   · rw [List.getElem?_append_right (by omega)]at hx
     have:=(List.getElem?_eq_some_iff.1 hx).1
     have e:i-s.Leases.length=0:=by simp at this;omega
     rw [e]at hx
     simp at hx
     subst hx
     rw [hno];omega
  meets:=a2e.2 (List.pairwise_append.2 ⟨a2e.1 h.meets,List.pairwise_singleton _ _,fun a ha b hb q=>by
   rw [List.mem_singleton]at hb
   subst hb
   exact hl ⟨a,ha,q⟩⟩)}
theorem c2C {me o n m:Int} (hm:0≤m) {y:d7} (h:a6D me y):a6D me (a3M o n m y):=by
 obtain⟨h1,h2,h3,h4,h5,h6,h7,h8⟩:=h
 unfold a3M;split
 · exact⟨h1,h2,h3,h4,h5,h6,by simp only;omega,by simp only;omega⟩
 · exact⟨h1,h2,h3,h4,h5,h6,h7,h8⟩
theorem a5a (o n m:Int) (y:d7):(a3M o n m y).Owner=y.Owner∧(a3M o n m y).No=y.No:=by unfold a3M;split<;>exact⟨rfl,rfl⟩
theorem j7.ret' {me:Int} {s:c8} (h:j7 me s) {o n m:Int} (hm:0≤m):j7 me ⟨s.Round,s.Slots,s.Bids,s.Heard,s.Leases,s.Loans.map (a3M o n m)⟩:=
 { h with
  nloans:=by show((s.Loans.map (a3M o n m)).length:Int)≤60;rw [List.length_map];exact h.nloans
  loans:=fun x hx=>by
   obtain⟨y,hy,rfl⟩:=List.mem_map.1 hx
   exact c2C hm (h.loans y hy)
  rloans:=b3U (fun a b hab=>by unfold a0C at*;rw [(a5a _ _ _ a).1,(a5a _ _ _ b).1,(a5a _ _ _ a).2,(a5a _ _ _ b).2];exact hab) h.rloans}
theorem j7.grant' {me:Int} {s:c8} (h:j7 me s) {c:b9} (hy:a6D me (S2 c)) (hn:(upd (X5 c.From c.No) (S2 c) id s.Loans).length≤60):j7 me ⟨s.Round,s.Slots,s.Bids,s.Heard,s.Leases,upd (X5 c.From c.No) (S2 c) id s.Loans⟩:=
 { h with
  nloans:=by show((upd (X5 c.From c.No) (S2 c) id s.Loans).length:Int)≤60;omega
  loans:=fun x hx=>by
   rcases a2a hx with hx|hx|⟨z,hz,_,hx⟩
   · rw [hx];exact hy
   · exact h.loans x hx
   · rw [hx];exact h.loans z hz
  rloans:=by
   refine a4I (fun x hx=> ?_) (fun x hx=> ?_) (fun x _ y hy=>hy) (fun x _ y hy=>hy) h.rloans<;>unfold a0C at* <;>simp only [id,S2]
   · exact(a0T _ _ _).1.1 hx
   · have h1:=a0T c.From c.No x
     have:¬(x.Owner<c.From∨(x.Owner=c.From∧x.No<c.No)):=fun q=>by have:=h1.1.2 q;omega
     have:¬(x.Owner=c.From∧x.No=c.No):=fun q=>by have:=h1.2.2 q;omega
     omega}
theorem c0M {me:Int} {s t:c8} (h:j7 me s) {c:b9} (hc:a7k c) (hto:c.To=me) (e:a8C s c=some t):j7 me t:=by
 obtain⟨hf,_,hk⟩:=hc
 unfold a8C at e
 split at e
 · rename_i k
   split at e
   · rename_i hn
     cases e
     rcases hk with⟨_,hv,_⟩|⟨k',_⟩|⟨k',_⟩|⟨k',_⟩|⟨k',_⟩|⟨k',_⟩<;>first|omega|skip
     exact h.slots' hn (b3y h.slots fun x hx=>c1D hv hx) (b3E (new:=M5 c) (a9W c) h.rslots)
   · cases e
 · split at e
   · rename_i k
     cases e
     rcases hk with⟨k',_⟩|⟨_,_,_,hb⟩|⟨k',_⟩|⟨k',_⟩|⟨k',_⟩|⟨k',_⟩<;>first|omega|skip
     exact h.bids' (a7G c) fun b hbk=>c0l hf hb hbk
   · split at e
     · rename_i k
       split at e
       · rename_i hn
         cases e
         rcases hk with⟨k',_⟩|⟨k',_⟩|⟨_,hv,_,_,hval⟩|⟨k',_⟩|⟨k',_⟩|⟨k',_⟩<;>first|omega|skip
         exact h.slots' hn (b3y h.slots fun x hx=>c3c hv hval hx) (b3E (new:=M5 c) (b0W c) h.rslots)
       · cases e
     · split at e
       · rename_i k
         split at e
         · rename_i hn
           cases e
           rcases hk with⟨k',_⟩|⟨k',_⟩|⟨k',_⟩|⟨_,hv,_,hval⟩|⟨k',_⟩|⟨k',_⟩<;>first|omega|skip
           exact h.heard' hf hv hval hn
         · cases e
       · split at e
         · rename_i k
           split at e
           · rename_i hn
             cases e
             rcases hk with⟨k',_⟩|⟨k',_⟩|⟨k',_⟩|⟨k',_⟩|⟨_,hl,ht,hs,hu⟩|⟨k',_⟩<;>first|omega|skip
             obtain⟨l1,l2,l3,l4,_⟩:=hl
             exact h.grant' ⟨hf,by rw [←hto];exact l1,l2,l3,ht,hs,l4,hu⟩ hn
           · cases e
         · cases e
           exact h.back' c
def c3K (x y:a8):Prop:=A2 y∧y.Me=x.Me∧y.Safe=x.Safe
theorem b2T {x:a8} {n v:Int} (h:(a2l x n v).2=0):c3K x (a2l x n v).1:=by
 unfold a2l at h⊢
 by_cases h1:A2 x
 · by_cases h2:0≤n∧n≤100000
   · by_cases h3:1≤v∧v≤1000000
     · by_cases h4:x.Now.Round=9999∨¬(a6x x.Now x.Me n v).length≤12
       · rw [if_pos h1,if_pos h2,if_pos h3,if_pos h4]at h;cases h
       · rw [if_pos h1,if_pos h2,if_pos h3,if_neg h4]
         exact⟨⟨c4i h1.1 (fun e=>h4 (.inl e)) h2 h3 (Classical.byContradiction fun e=>h4 (.inr e)),h1.2⟩,rfl,rfl⟩
     · rw [if_pos h1,if_pos h2,if_neg h3]at h;cases h
   · rw [if_pos h1,if_neg h2]at h;cases h
 · rw [if_neg h1]at h;cases h
theorem b7t {x:a8} {a b c d:Int} (h:(b0d x a b c d).2=0):c3K x (b0d x a b c d).1:=by
 unfold b0d at h⊢
 by_cases h1:A2 x
 · by_cases h2:1≤a∧a≤99
   · by_cases h3:0≤b∧b≤5
     · by_cases h4:0≤c∧c≤144001439
       · by_cases h5:0≤d∧d≤144001439
         · by_cases h6:a % 6=x.Me
           · by_cases h7:b=x.Me
             · rw [if_pos h1,if_pos h2,if_pos h3,if_pos h4,if_pos h5,if_pos h6,if_pos h7]at h;cases h
             · by_cases h8:c>d
               · rw [if_pos h1,if_pos h2,if_pos h3,if_pos h4,if_pos h5,if_pos h6,if_neg h7,if_pos h8]at h;cases h
               · by_cases h9:b3z x.Now.Leases ⟨(x.Now.Leases.length:Int)+1,a,b,c,d⟩
                 · rw [if_pos h1,if_pos h2,if_pos h3,if_pos h4,if_pos h5,if_pos h6,if_neg h7,if_neg h8,if_pos h9]at h;cases h
                 · by_cases h10:x.Now.Leases.length=40
                   · rw [if_pos h1,if_pos h2,if_pos h3,if_pos h4,if_pos h5,if_pos h6,if_neg h7,if_neg h8,if_neg h9,if_pos h10]at h;cases h
                   · rw [if_pos h1,if_pos h2,if_pos h3,if_pos h4,if_pos h5,if_pos h6,if_neg h7,if_neg h8,if_neg h9,if_neg h10]
                     exact⟨⟨h1.1.lend' ⟨h2,h6,h3,h7,h4,h5,by simp only;omega⟩ rfl h10 h9,h1.2⟩,rfl,rfl⟩
           · rw [if_pos h1,if_pos h2,if_pos h3,if_pos h4,if_pos h5,if_neg h6]at h;cases h
         · rw [if_pos h1,if_pos h2,if_pos h3,if_pos h4,if_neg h5]at h;cases h
       · rw [if_pos h1,if_pos h2,if_pos h3,if_neg h4]at h;cases h
     · rw [if_pos h1,if_pos h2,if_neg h3]at h;cases h
   · rw [if_pos h1,if_neg h2]at h;cases h
 · rw [if_neg h1]at h;cases h
end Go.Proofs.YtcedmbakcchkiaaGreatDoor
namespace Go.Proofs.YtcedmbakcchkiaaGreatDoor
open Go Go.Sx
open Classical
set_option maxRecDepth 100000 in theorem mhas_f : ∀ (m : Fin 64) (d k : Fin 6), a4E (a0D m.val d.val) k.val = (a4E m.val k.val || decide (k = d)) := by decide +kernel
theorem a9k {m d k:Int} (hm:0≤m∧m≤63) (hd:0≤d∧d≤5) (hk:0≤k∧k≤5) (h:a4E (a0D m d) k=true):a4E m k=true∨k=d:=by
 have:=mhas_f ⟨m.toNat,by omega⟩ ⟨d.toNat,by omega⟩ ⟨k.toNat,by omega⟩
 simp only [Int.toNat_of_nonneg hm.1,Int.toNat_of_nonneg hd.1,Int.toNat_of_nonneg hk.1,h,Fin.mk.injEq]at this
 rcases Bool.or_eq_true_iff.1 this.symm with h|h
 · exact .inl h
 · have:=of_decide_eq_true h;exact .inr (by omega)
theorem c3l:∀k:Fin 6,a4E 0 k.val=false:=by decide+kernel
theorem c1V {k:Int} (hk:0≤k∧k≤5):a4E 0 k=false:=by
 have:=c3l ⟨k.toNat,by omega⟩
 simpa only [Int.toNat_of_nonneg hk.1]using this
set_option maxRecDepth 100000 in theorem meet_f : ∀ (m n : Fin 64), qr m.val = true → qr n.val = true → ∃ k : Fin 6, a4E m.val k.val = true ∧ a4E n.val k.val = true := by decide +kernel
theorem b8l {m n:Int} (hm:0≤m∧m≤63) (hn:0≤n∧n≤63) (h1:qr m=true) (h2:qr n=true):∃k:Int,(0≤k∧k≤5)∧a4E m k=true∧a4E n k=true:=by
 have:=meet_f ⟨m.toNat,by omega⟩ ⟨n.toNat,by omega⟩
 simp only [Int.toNat_of_nonneg hm.1,Int.toNat_of_nonneg hn.1]at this
 obtain⟨k,h⟩:=this h1 h2
 exact⟨(k.val:Int),by omega,h⟩
def Acc (C:List b9) (n b v:Int):Prop:=∃c,c∈C∧c.Kind=3∧c.Night=n∧c.Ballot=b∧c.Value=v
def Acd (C:List b9) (k n b v:Int):Prop:=∃c,c∈C∧c.Kind=4∧c.From=k∧c.Night=n∧c.Ballot=b∧c.Value=v
def Pro (C:List b9) (k n b B:Int):Prop:=∃c,c∈C∧c.Kind=2∧c.From=k∧c.Night=n∧c.Ballot=b∧c.Best≤B
def Prm (C:List b9) (n b m B v:Int):Prop:=(∀k,0≤k∧k≤5→a4E m k=true→Pro C k n b B)∧(B≠0→Acc C n B v)
def Sub (C C':List b9):Prop:=∀c,c∈C→c∈C'
theorem Acc.mono {C C':List b9} (h:Sub C C') {n b v:Int}:Acc C n b v→Acc C' n b v:=fun⟨c,a,r⟩=>⟨c,h c a,r⟩
theorem Acd.mono {C C':List b9} (h:Sub C C') {k n b v:Int}:Acd C k n b v→Acd C' k n b v:=fun⟨c,a,r⟩=>⟨c,h c a,r⟩
theorem Pro.mono {C C':List b9} (h:Sub C C') {k n b B:Int}:Pro C k n b B→Pro C' k n b B:=fun⟨c,a,r⟩=>⟨c,h c a,r⟩
theorem Prm.mono {C C':List b9} (h:Sub C C') {n b m B v:Int}:Prm C n b m B v→Prm C' n b m B v:=fun⟨p,q⟩=>⟨fun k hk hm=>(p k hk hm).mono h,fun hB=>(q hB).mono h⟩
structure GC (C:List b9):Prop where
 ok:∀c,c∈C→a7k c
 g2:∀c,c∈C→∀a,a∈C→c.Kind=2→a.Kind=4→a.From=c.From→a.Night=c.Night→a.Ballot<c.Ballot→a.Ballot≤c.Best
 g5:∀a,a∈C→a.Kind=4→Acc C a.Night a.Ballot a.Value
 gb:∀c,c∈C→c.Kind=2→c.Best≠0→Acc C c.Night c.Best c.Value
 g6:∀c,c∈C→∀a,a∈C→c.Kind=3→a.Kind=3→a.Night=c.Night→a.Ballot=c.Ballot→a.Value=c.Value
 g8:∀c,c∈C→c.Kind=3→∃m B,(0≤m∧m≤63)∧qr m=true∧B<c.Ballot∧Prm C c.Night c.Ballot m B c.Value
def a1c (C:List b9) (n b v:Int):Prop:=∃m,(0≤m∧m≤63)∧qr m=true∧∀k,0≤k∧k≤5→a4E m k=true→Acd C k n b v
theorem a1c.mono {C C':List b9} (h:Sub C C') {n b v:Int}:a1c C n b v→a1c C' n b v:=fun⟨m,a,b,r⟩=>⟨m,a,b,fun k hk hm=>(r k hk hm).mono h⟩
theorem GC.acc_eq {C:List b9} (g:GC C) {n b v w:Int}:Acc C n b v→Acc C n b w→v=w:=by
 rintro⟨c,hc,k1,rfl,rfl,rfl⟩ ⟨a,ha,k2,h1,h2,rfl⟩
 exact(g.g6 c hc a ha k1 k2 h1 h2).symm
theorem a1c.acc {C:List b9} (g:GC C) {n b v:Int} (h:a1c C n b v):Acc C n b v:=by
 obtain⟨m,hm,hq,h⟩:=h
 obtain⟨k,hk,hmk,_⟩:=b8l hm hm hq hq
 obtain⟨a,ha,h4,_,rfl,rfl,rfl⟩:=h k hk hmk
 exact g.g5 a ha h4
theorem GC.later {C:List b9} (g:GC C) {n b v:Int} (h:a1c C n b v):∀(N:Nat) (b' v':Int),b'.toNat≤N→b≤b'→Acc C n b' v'→v'=v:=by
 intro N
 induction N with
 |zero=>
  intro b' v' hN hb ha
  obtain⟨c,hc,_⟩:=id ha
  have e:b'=b:=by
   obtain⟨c,hc,h3,_,h5,_⟩:=h.acc g
   have hv:=g.ok c hc
   rcases hv.kind with h|h|⟨_,hv,_⟩|h|h|h<;>first|(exfalso;omega)|skip
   have:=hv.2.1;omega
  subst e
  exact g.acc_eq ha (h.acc g)
 |succ N ih=>
  intro b' v' hN hb ha
  by_cases e:b'=b
  · subst e;exact g.acc_eq ha (h.acc g)
  · obtain⟨c,hc,h3,hn,hcb,hcv⟩:=id ha
    obtain⟨m,B,hm,hq,hB,hp,hacc⟩:=g.g8 c hc h3
    obtain⟨m',hm',hq',hd⟩:=id h
    obtain⟨k,hk,k1,k2⟩:=b8l hm hm' hq hq'
    obtain⟨p,hp1,hp2,hp3,hp4,hp5,hp6⟩:=hp k hk k1
    obtain⟨a,ha1,ha2,ha3,ha4,ha5,ha6⟩:=hd k hk k2
    have hle:=g.g2 p hp1 a ha1 hp2 ha2 (by omega) (by omega) (by omega)
    have hb6:6≤a.Ballot:=by
     have hv:=g.ok a ha1
     rcases hv.kind with h|h|h|⟨_,hv,_⟩|h|h<;>first|(exfalso;omega)|skip
     exact hv.2.1.1
    have hA:=hacc (by omega)
    rw [hn,hcv]at hA
    exact ih B v' (by omega) (by omega) hA
theorem GC.once {C:List b9} (g:GC C) {n b v b' v':Int} (h:a1c C n b v) (h':a1c C n b' v'):v=v':=by
 by_cases hb:b≤b'
 · exact(g.later h _ b' v' (Nat.le_refl _) hb (h'.acc g)).symm
 · exact g.later h' _ b v (Nat.le_refl _) (by omega) (h.acc g)
end Go.Proofs.YtcedmbakcchkiaaGreatDoor
namespace Go.Proofs.YtcedmbakcchkiaaGreatDoor
open Go Go.Sx
open Classical
theorem a6H {α:Type} {c:α→Int} {new:α} {f:α→α}:∀ {l:List α} {x:α},x∈l→x∈upd c new f l∨(c x=0∧f x∈upd c new f l)
 |y::l,x,h=>by
  unfold upd
  split
  · rcases List.mem_cons.1 h with rfl|h
    · exact .inl List.mem_cons_self
    · rcases a6H (c:=c) (new:=new) (f:=f) h with h|h
      · exact .inl (List.mem_cons_of_mem _ h)
      · exact .inr ⟨h.1,List.mem_cons_of_mem _ h.2⟩
  · split
    · rename_i h0
      rcases List.mem_cons.1 h with rfl|h
      · exact .inr ⟨h0,List.mem_cons_self⟩
      · exact .inl (List.mem_cons_of_mem _ h)
    · exact .inl (List.mem_cons_of_mem _ h)
structure J (C:List b9) (i:Int) (s:c8):Prop where
 p1:∀c,c∈C→c.Kind=2→c.From=i→∃t,t∈s.Slots∧t.Night=c.Night∧c.Ballot≤t.Promised∧(t.Ballot=c.Best∨c.Ballot≤t.Ballot)
 p3:∀c,c∈C→c.Kind=4→c.From=i→∃t,t∈s.Slots∧t.Night=c.Night∧c.Ballot≤t.Ballot
 p4:∀t,t∈s.Slots→t.Ballot≠0→Acc C t.Night t.Ballot t.Value
 p7:∀c,c∈C→c.Kind=3→c.From=i→c.Ballot≤6*s.Round+i∧∃b,b∈s.Bids∧b.Night=c.Night∧((b.Ballot=c.Ballot∧b.Value=c.Value∧b.Asked=true)∨c.Ballot<b.Ballot)
 p8:∀b,b∈s.Bids→Prm C b.Night b.Ballot b.Mask b.Best b.Value
 p9:∀h,h∈s.Heard→∀k,0≤k∧k≤5→a4E h.Mask k=true→Acd C k h.Night h.Ballot h.Value
 l1:∀c,c∈C→c.Kind=5→c.From=i→∃l,l∈s.Leases∧l.No=c.No∧l.Thing=c.Thing∧l.To=c.To∧l.From=c.Start∧l.Until≤c.Until∧(l.Until=c.Until∨∃b,b∈C∧b.Kind=6∧b.From=c.To∧b.To=c.From∧b.No=c.No)
 l2:∀y,y∈s.Loans→∃c,c∈C∧c.Kind=5∧c.From=y.Owner∧c.To=i∧c.No=y.No∧c.Thing=y.Thing∧c.Start=y.From
 l3:∀b,b∈C→b.Kind=6→b.From=i→∃y,y∈s.Loans∧y.Owner=b.To∧y.No=b.No∧y.Back=true∧y.Until=b.Until
section
variable {C : List b9} {i : Int} {s : c8}
theorem J.slots (h:J C i s) {f:d0→d0} {c:b9} (hn:∀x,(f x).Night=x.Night) (hp:∀x,x.Promised≤(f x).Promised) (hb:∀x,x∈s.Slots→(f x).Ballot=x.Ballot∨(x.Promised≤(f x).Ballot∧x.Ballot≤(f x).Ballot)) (ho:∀x,x.Night=c.Night→(x.Ballot≠0→Acc C x.Night x.Ballot x.Value)→(f x).Ballot≠0→Acc C x.Night (f x).Ballot (f x).Value):J C i ⟨s.Round,upd (a1Q c.Night) (M5 c) f s.Slots,s.Bids,s.Heard,s.Leases,s.Loans⟩:=
 { h with
  p1:=fun a ha h2 hf=>by
   obtain⟨t,t1,t2,t3,t4⟩:=h.p1 a ha h2 hf
   rcases a6H (c:=a1Q c.Night) (new:=M5 c) (f:=f) t1 with q|⟨_,q⟩
   · exact⟨t,q,t2,t3,t4⟩
   · refine⟨f t,q,by rw [hn];exact t2,Int.le_trans t3 (hp t), ?_⟩
     rcases hb t t1 with e|e
     · rw [e];exact t4
     · exact .inr (Int.le_trans t3 e.1)
  p3:=fun a ha h2 hf=>by
   obtain⟨t,t1,t2,t3⟩:=h.p3 a ha h2 hf
   rcases a6H (c:=a1Q c.Night) (new:=M5 c) (f:=f) t1 with q|⟨_,q⟩
   · exact⟨t,q,t2,t3⟩
   · refine⟨f t,q,by rw [hn];exact t2, ?_⟩
     rcases hb t t1 with e|e
     · rw [e];exact t3
     · exact Int.le_trans t3 e.2
  p4:=fun t ht hne=>by
   rcases a2a ht with e|ht|⟨z,hz,h0,e⟩
   · rw [e]at hne⊢;rw [hn];exact ho _ rfl (fun q=>absurd rfl q) hne
   · exact h.p4 t ht hne
   · rw [e]at hne⊢;rw [hn];exact ho z ((a9e _ _).2.1 h0) (h.p4 z hz) hne}
theorem J.prep (h:J C i s) (c:b9):J C i ⟨s.Round,upd (a1Q c.Night) (M5 c) (a4i c) s.Slots,s.Bids,s.Heard,s.Leases,s.Loans⟩:=
 h.slots (a9W c) (fun x=>by
  unfold a4i;split
  · rename_i q;exact Int.le_of_lt q
  · exact Int.le_refl _) (fun x _=> .inl (by unfold a4i;split<;>rfl)) (fun x _ hx hne=>by
  have e:(a4i c x).Ballot=x.Ballot∧(a4i c x).Value=x.Value:=by unfold a4i;split<;>exact⟨rfl,rfl⟩
  rw [e.1,e.2];exact hx (by rw [←e.1];exact hne))
theorem J.acc (h:J C i s) (hle:∀x,x∈s.Slots→x.Ballot≤x.Promised) {c:b9} (hc:c∈C) (h3:c.Kind=3):J C i ⟨s.Round,upd (a1Q c.Night) (M5 c) (b0p c) s.Slots,s.Bids,s.Heard,s.Leases,s.Loans⟩:=
 h.slots (b0W c) (fun x=>by
  unfold b0p;split
  · rename_i q;exact q
  · exact Int.le_refl _) (fun x hx=>by
  unfold b0p;split
  · rename_i q;exact .inr ⟨q,Int.le_trans (hle x hx) q⟩
  · exact .inl rfl) (fun x hn hx hne=>by
  unfold b0p at hne⊢
  by_cases q:c.Ballot≥x.Promised
  · rw [if_pos q];exact⟨c,hc,h3,hn.symm,rfl,rfl⟩
  · rw [if_neg q]at hne⊢;exact hx hne)
theorem J.prom (g:GC C) (h:J C i s) (hv:j7 i s) {c:b9} (hc:c∈C) (h2:c.Kind=2):J C i ⟨s.Round,s.Slots,s.Bids.map (a3b c),s.Heard,s.Leases,s.Loans⟩:=
 { h with
  p7:=fun a ha h3 hf=>by
   obtain⟨q,b,b1,b2,b3⟩:=h.p7 a ha h3 hf
   refine⟨q,a3b c b,List.mem_map.2 ⟨b,b1,rfl⟩,by rw [(a7G c b).1];exact b2, ?_⟩
   rcases b3 with⟨b3,b4,b5⟩|b3
   · have e:a3b c b=b:=by unfold a3b;rw [if_neg (by rw [b5];simp)]
     rw [e];exact .inl ⟨b3,b4,b5⟩
   · rw [(a7G c b).2];exact .inr b3
  p8:=fun b' hb'=>by
   obtain⟨b,hb,rfl⟩:=List.mem_map.1 hb'
   obtain⟨q1,q2⟩:=h.p8 b hb
   have hm:=(hv.bids b hb).2.2.2.2.2.1
   have hfr:=(g.ok c hc).from_
   unfold a3b
   split
   · rename_i e
     constructor
     · intro k hk hmk
       show Pro C k b.Night b.Ballot (if c.Best>b.Best then c.Best else b.Best)
       rcases a9k hm hfr hk hmk with q|q
       · obtain⟨p,p1,p2,p3,p4,p5,p6⟩:=q1 k hk q
         exact⟨p,p1,p2,p3,p4,p5,by split<;>omega⟩
       · exact⟨c,hc,h2,q.symm,e.1.symm,e.2.1.symm,by split<;>omega⟩
     · show(if c.Best>b.Best then c.Best else b.Best)≠0→Acc C b.Night (if c.Best>b.Best then c.Best else b.Best) (if c.Best>b.Best then c.Value else b.Value)
       intro hne
       by_cases q:c.Best>b.Best
       · rw [if_pos q]at hne⊢;rw [if_pos q,e.1];exact g.gb c hc h2 hne
       · rw [if_neg q]at hne⊢;rw [if_neg q];exact q2 hne
   · exact⟨q1,q2⟩}
theorem J.prop (h:J C i s) (night value:Int):J C i ⟨s.Round+1,s.Slots,a6x s i night value,s.Heard,s.Leases,s.Loans⟩:=
 { h with
  p7:=fun a ha h3 hf=>by
   obtain⟨q,b,b1,b2,b3⟩:=h.p7 a ha h3 hf
   refine⟨by show a.Ballot≤6*(s.Round+1)+i;omega, ?_⟩
   rcases a6H (c:=b4l night) (new:=R9 i s.Round night value) (f:=fun _=>R9 i s.Round night value) b1 with e|⟨e0,e⟩
   · exact⟨b,e,b2,b3⟩
   · exact⟨_,e,by rw [←b2];exact((a6e night b).2.1 e0).symm, .inr (by simp only [R9];omega)⟩
  p8:=fun b hb=>by
   have hnew:Prm C (R9 i s.Round night value).Night (R9 i s.Round night value).Ballot (R9 i s.Round night value).Mask (R9 i s.Round night value).Best (R9 i s.Round night value).Value:=⟨fun k hk hm=>by
    have hm:a4E 0 k=true:=hm
    rw [c1V hk]at hm
    exact absurd hm (by simp),fun q=>absurd rfl q⟩
   rcases a2a hb with rfl|hb|⟨z,_,_,rfl⟩
   · exact hnew
   · exact h.p8 b hb
   · exact hnew}
theorem J.heard (g:GC C) (h:J C i s) (hv:j7 i s) {c:b9} (hc:c∈C) (h4:c.Kind=4):J C i ⟨s.Round,s.Slots,s.Bids,upd (a0Y c.Ballot c.Night) (N3 c) (a0X c) s.Heard,s.Leases,s.Loans⟩:=
 { h with
  p9:=fun x hx k hk hm=>by
   have hfr:=(g.ok c hc).from_
   rcases a2a hx with rfl|hx|⟨z,hz,h0,rfl⟩
   · unfold a0X at hm⊢
     rw [if_pos (show(N3 c).Value=c.Value from rfl)]at hm⊢
     rcases a9k (m:=0) (by omega) hfr hk hm with q|q
     · rw [c1V hk]at q;cases q
     · exact⟨c,hc,h4,q.symm,rfl,rfl,rfl⟩
   · exact h.p9 x hx k hk hm
   · have e:=(a7W c.Ballot c.Night z).2.1 h0
     unfold a0X at hm⊢
     by_cases q:z.Value=c.Value
     · rw [if_pos q]at hm⊢
       rcases a9k (hv.heard z hz).2.2.2.2 hfr hk hm with r|r
       · exact h.p9 z hz k hk r
       · exact⟨c,hc,h4,r.symm,e.2.symm,e.1.symm,q.symm⟩
     · rw [if_neg q]at hm⊢
       exact h.p9 z hz k hk hm}
theorem J.lend (h:J C i s) (y:c0):J C i ⟨s.Round,s.Slots,s.Bids,s.Heard,s.Leases++ [y],s.Loans⟩:=
 { h with
  l1:=fun c hc h5 hf=>by
   obtain⟨l,l1,r⟩:=h.l1 c hc h5 hf
   exact⟨l,List.mem_append_left _ l1,r⟩}
theorem J.back (h:J C i s) {c:b9} (hc:c∈C) (h6:c.Kind=6) (hto:c.To=i):J C i ⟨s.Round,s.Slots,s.Bids,s.Heard,s.Leases.map (a1H c),s.Loans⟩:=
 { h with
  l1:=fun a ha h5 hf=>by
   obtain⟨l,m1,m2,m3,m4,m5,m6,m7⟩:=h.l1 a ha h5 hf
   have hk:=a3X c l
   refine⟨a1H c l,List.mem_map.2 ⟨l,m1,rfl⟩,by omega,by omega,by omega,by omega,by omega, ?_⟩
   by_cases q:l.No=c.No∧l.Thing=c.Thing∧l.To=c.From
   · exact .inr ⟨c,hc,h6,by omega,by omega,by omega⟩
   · rw [show a1H c l=l by unfold a1H;rw [if_neg q]];exact m7}
theorem J.ret (h:J C i s) (o n m:Int):J C i ⟨s.Round,s.Slots,s.Bids,s.Heard,s.Leases,s.Loans.map (a3M o n m)⟩:=
 { h with
  l2:=fun y hy=>by
   obtain⟨z,hz,rfl⟩:=List.mem_map.1 hy
   obtain⟨c,c1,c2,c3,c4,c5,c6,c7⟩:=h.l2 z hz
   have e:(a3M o n m z).Owner=z.Owner∧(a3M o n m z).No=z.No∧(a3M o n m z).Thing=z.Thing∧(a3M o n m z).From=z.From:=by unfold a3M;split<;>exact⟨rfl,rfl,rfl,rfl⟩
   exact⟨c,c1,c2,by omega,c4,by omega,by omega,by omega⟩
  l3:=fun b hb h6 hf=>by
   obtain⟨y,y1,y2,y3,y4,y5⟩:=h.l3 b hb h6 hf
   have e:a3M o n m y=y:=by unfold a3M;rw [if_neg (by rw [y4];simp)]
   exact⟨y,List.mem_map.2 ⟨y,y1,e⟩,y2,y3,y4,y5⟩}
theorem J.grant (h:J C i s) {c:b9} (hc:c∈C) (h5:c.Kind=5) (hto:c.To=i):J C i ⟨s.Round,s.Slots,s.Bids,s.Heard,s.Leases,upd (X5 c.From c.No) (S2 c) id s.Loans⟩:=
 { h with
  l2:=fun y hy=>by
   rcases a2a hy with e|hy|⟨z,hz,_,e⟩
   · rw [e];exact⟨c,hc,h5,rfl,hto,rfl,rfl,rfl⟩
   · exact h.l2 y hy
   · rw [e];exact h.l2 z hz
  l3:=fun b hb h6 hf=>by
   obtain⟨y,y1,r⟩:=h.l3 b hb h6 hf
   rcases a6H (c:=X5 c.From c.No) (new:=S2 c) (f:=id) y1 with e|⟨_,e⟩
   · exact⟨y,e,r⟩
   · exact⟨y,e,r⟩}
theorem c2G {t:d0} (h:a1a t):t.Ballot≤t.Promised:=by
 obtain⟨_,h2,h3⟩:=h
 rcases h3 with h3|h3<;>omega
theorem J.hear (g:GC C) (h:J C i s) (hv:j7 i s) {c:b9} (hc:c∈C) (hto:c.To=i) {t:c8} (e:a8C s c=some t):J C i t:=by
 unfold a8C at e
 split at e
 · split at e
   · cases e;exact h.prep c
   · cases e
 · split at e
   · rename_i k;cases e;exact h.prom g hv hc k
   · split at e
     · rename_i k
       split at e
       · cases e;exact h.acc (fun x hx=>c2G (hv.slots x hx)) hc k
       · cases e
     · split at e
       · rename_i k
         split at e
         · cases e;exact h.heard g hv hc k
         · cases e
       · split at e
         · rename_i k
           split at e
           · cases e;exact h.grant hc k hto
           · cases e
         · rename_i n1 n2 n3 n4 n5
           cases e
           refine h.back hc ?_ hto
           rcases(g.ok c hc).kind with k|k|k|k|k|k<;>omega
end
end Go.Proofs.YtcedmbakcchkiaaGreatDoor
namespace Go.Proofs.YtcedmbakcchkiaaGreatDoor
open Go Go.Sx
open Classical
inductive Em (i:Int) (s:c8):b9→Prop
 |acc (b:i0) (to_:Int) (hb:b∈s.Bids) (ha:b.Asked=true) (ht:0≤to_∧to_≤5):Em i s ⟨3,i,to_,b.Night,b.Ballot,0,b.Value,0,0,0,0⟩
 |prep (b:i0) (to_:Int) (hb:b∈s.Bids) (ht:0≤to_∧to_≤5):Em i s ⟨1,i,to_,b.Night,b.Ballot,0,0,0,0,0,0⟩
 |pro (t:d0) (hs:t∈s.Slots) (hp:t.Promised>t.Ballot):Em i s ⟨2,i,t.Promised % 6,t.Night,t.Promised,t.Ballot,t.Value,0,0,0,0⟩
 |acd (t:d0) (to_:Int) (hs:t∈s.Slots) (hb:t.Ballot≠0) (ht:0≤to_∧to_≤5):Em i s ⟨4,i,to_,t.Night,t.Ballot,0,t.Value,0,0,0,0⟩
 |grant (l:c0) (hl:l∈s.Leases):Em i s ⟨5,i,l.To,0,0,0,0,l.No,l.Thing,l.From,l.Until⟩
 |back (y:d7) (hy:y∈s.Loans) (hb:y.Back=true):Em i s ⟨6,i,y.Owner,0,0,0,0,y.No,y.Thing,0,y.Until⟩
theorem c3S {i to_:Int} {s:c8} (ht:0≤to_∧to_≤5) {c:b9} (h:c∈b0s i to_ s):Em i s c:=by
 unfold b0s at h
 rcases List.mem_append.1 h with h|h
 · obtain⟨b,hb,h⟩:=List.mem_flatMap.1 h
   unfold b7m at h
   by_cases ha:b.Asked=true
   · rw [if_pos ha,List.mem_singleton]at h;rw [h];exact .acc b to_ hb ha ht
   · rw [if_neg ha,List.mem_singleton]at h;rw [h];exact .prep b to_ hb ht
 · rcases List.mem_append.1 h with h|h
   · obtain⟨t,hs,h⟩:=List.mem_flatMap.1 h
     unfold b1b at h
     rcases List.mem_append.1 h with h|h
     · split at h
       · rename_i q
         rw [List.mem_singleton]at h
         subst h
         obtain⟨rfl,q⟩:=q
         exact .pro t hs q
       · cases h
     · split at h
       · rename_i q
         rw [List.mem_singleton]at h
         subst h
         exact .acd t to_ hs q ht
       · cases h
   · rcases List.mem_append.1 h with h|h
     · obtain⟨l,hl,h⟩:=List.mem_flatMap.1 h
       unfold a7Q at h
       split at h
       · rename_i q
         rw [List.mem_singleton]at h
         subst h
         subst q
         exact .grant l hl
       · cases h
     · obtain⟨y,hy,h⟩:=List.mem_flatMap.1 h
       unfold b2b at h
       split at h
       · rename_i q
         rw [List.mem_singleton]at h
         subst h
         obtain⟨rfl,q⟩:=q
         exact .back y hy q
       · cases h
theorem Em.from_ {i:Int} {s:c8} {c:b9} (h:Em i s c):c.From=i:=by cases h<;>rfl
theorem Em.ok {i:Int} {s:c8} (hv:j7 i s) {c:b9} (h:Em i s c):a7k c:=by
 have hd:=hv.dep
 have hr:=hv.round
 cases h with
 |acc b to_ hb ha ht=>
  obtain⟨b1,b2,b3,b4,_⟩:=hv.bids b hb
  exact⟨hd,ht, .inr (.inr (.inl ⟨rfl,⟨b1,by simp only;omega,rfl,rfl,rfl,rfl⟩,b3,rfl,b4⟩))⟩
 |prep b to_ hb ht=>
  obtain⟨b1,b2,b3,b4,_⟩:=hv.bids b hb
  exact⟨hd,ht, .inl ⟨rfl,⟨b1,by simp only;omega,rfl,rfl,rfl,rfl⟩,b3,rfl,rfl⟩⟩
 |pro t hs hp=>
  obtain⟨s1,s2,s3⟩:=hv.slots t hs
  refine⟨hd,by simp only;omega, .inr (.inl ⟨rfl,⟨s1,s2,rfl,rfl,rfl,rfl⟩,rfl, ?_⟩)⟩
  rcases s3 with s3|s3
  · exact .inl s3
  · exact .inr ⟨by simp only;omega,s3.2⟩
 |acd t to_ hs hb ht=>
  obtain⟨s1,s2,s3⟩:=hv.slots t hs
  rcases s3 with s3|s3
  · exact absurd s3.1 hb
  · exact⟨hd,ht, .inr (.inr (.inr (.inl ⟨rfl,⟨s1,by simp only;omega,rfl,rfl,rfl,rfl⟩,rfl,s3.2⟩)))⟩
 |grant l hl=>
  obtain⟨l1,l2,l3,l4,l5,l6,l7⟩:=hv.leases l hl
  have hno:1≤l.No∧l.No≤40:=by
   obtain⟨k,hk,e⟩:=List.getElem_of_mem hl
   have:=hv.nos k l (by rw [List.getElem?_eq_getElem hk,e])
   have:=hv.nleases
   omega
  exact⟨hd,l3, .inr (.inr (.inr (.inr (.inl ⟨rfl,⟨fun q=>l4 q.symm,hno,l1,l6,rfl,rfl,rfl,rfl⟩,l2,l5,l7⟩))))⟩
 |back y hy hb=>
  obtain⟨y1,y2,y3,y4,y5,y6,y7,y8⟩:=hv.loans y hy
  exact⟨hd,y1, .inr (.inr (.inr (.inr (.inr ⟨rfl,⟨fun q=>y2 q.symm,y3,y4,y7,rfl,rfl,rfl,rfl⟩,y5,rfl⟩))))⟩
theorem a2s {α:Type} {lt:α→α→Prop} (tr:∀a b c,lt a b→lt b c→lt a c) (irr:∀a,¬lt a a):∀ {l:List α},I1 lt l→l.Pairwise lt
 | [],_=> .nil
 |x::l,h=>by
  obtain⟨h1,h2⟩:=a4c.1 h
  have ih:=a2s tr irr h2
  refine List.pairwise_cons.2 ⟨fun y hy=> ?_,ih⟩
  cases l with
  |nil=>cases hy
  |cons z l=>
   rcases List.mem_cons.1 hy with rfl|hy
   · exact h1 _ rfl
   · exact tr _ _ _ (h1 z rfl) ((List.pairwise_cons.1 ih).1 y hy)
theorem b8n {α:Type} {lt:α→α→Prop}:∀ {l:List α},l.Pairwise lt→∀ {a b},a∈l→b∈l→¬lt a b→¬lt b a→a=b
 |x::l,h,a,b,ha,hb,h1,h2=>by
  obtain⟨h3,h4⟩:=List.pairwise_cons.1 h
  rcases List.mem_cons.1 ha with e1|ha
  · rcases List.mem_cons.1 hb with e2|hb
    · rw [e1,e2]
    · rw [e1]at h1;exact absurd (h3 b hb) h1
  · rcases List.mem_cons.1 hb with e2|hb
    · rw [e2]at h2;exact absurd (h3 a ha) h2
    · exact b8n h4 ha hb h1 h2
theorem j7.slot1 {i:Int} {s:c8} (h:j7 i s) {a b:d0} (ha:a∈s.Slots) (hb:b∈s.Slots) (e:a.Night=b.Night):a=b:=
 b8n (a2s (fun a b c q r=>by unfold a3g at*;omega) (fun a q=>by unfold a3g at q;omega) h.rslots) ha hb (fun q=>by unfold a3g at q;omega) (fun q=>by unfold a3g at q;omega)
theorem j7.bid1 {i:Int} {s:c8} (h:j7 i s) {a b:i0} (ha:a∈s.Bids) (hb:b∈s.Bids) (e:a.Night=b.Night):a=b:=
 b8n (a2s (fun a b c q r=>by unfold a7i at*;omega) (fun a q=>by unfold a7i at q;omega) h.rbids) ha hb (fun q=>by unfold a7i at q;omega) (fun q=>by unfold a7i at q;omega)
theorem j7.loan1 {i:Int} {s:c8} (h:j7 i s) {a b:d7} (ha:a∈s.Loans) (hb:b∈s.Loans) (e:a.Owner=b.Owner) (e':a.No=b.No):a=b:=
 b8n (a2s (fun a b c q r=>by unfold a0C at*;omega) (fun a q=>by unfold a0C at q;omega) h.rloans) ha hb (fun q=>by unfold a0C at q;omega) (fun q=>by unfold a0C at q;omega)
theorem j7.lease1 {i:Int} {s:c8} (h:j7 i s) {a b:c0} (ha:a∈s.Leases) (hb:b∈s.Leases) (e:a.No=b.No):a=b:=by
 obtain⟨k,hk,rfl⟩:=List.getElem_of_mem ha
 obtain⟨j,hj,rfl⟩:=List.getElem_of_mem hb
 have e1:=h.nos k _ (List.getElem?_eq_getElem hk)
 have e2:=h.nos j _ (List.getElem?_eq_getElem hj)
 have:k=j:=by omega
 subst this
 rfl
def c0U (C C':List b9) (i:Int) (s:c8):Prop:=Sub C C'∧∀c,c∈C'→c∈C∨Em i s c
theorem J.other {C C':List b9} {i j:Int} {s t:c8} (g:c0U C C' i s) (hne:j≠i) (h:J C j t):J C' j t:=by
 obtain⟨g1,g2⟩:=g
 have old:∀c,c∈C'→c.From=j→c∈C:=fun c hc hf=>by
  rcases g2 c hc with q|q
  · exact q
  · exact absurd (q.from_.symm.trans hf).symm hne
 exact {
  p1:=fun c hc h2 hf=>h.p1 c (old c hc hf) h2 hf
  p3:=fun c hc h2 hf=>h.p3 c (old c hc hf) h2 hf
  p4:=fun t ht hb=>(h.p4 t ht hb).mono g1
  p7:=fun c hc h2 hf=>h.p7 c (old c hc hf) h2 hf
  p8:=fun b hb=>(h.p8 b hb).mono g1
  p9:=fun x hx k hk hm=>(h.p9 x hx k hk hm).mono g1
  l1:=fun c hc h2 hf=>by
   obtain⟨l,a1,a2,a3,a4,a5,a6,a7⟩:=h.l1 c (old c hc hf) h2 hf
   refine⟨l,a1,a2,a3,a4,a5,a6, ?_⟩
   rcases a7 with q|⟨b,q,r⟩
   · exact .inl q
   · exact .inr ⟨b,g1 b q,r⟩
  l2:=fun y hy=>by
   obtain⟨c,q,r⟩:=h.l2 y hy
   exact⟨c,g1 c q,r⟩
  l3:=fun c hc h2 hf=>h.l3 c (old c hc hf) h2 hf}
theorem J.own {C C':List b9} {i:Int} {s:c8} (g:c0U C C' i s) (hv:j7 i s) (h:J C i s):J C' i s:=by
 obtain⟨g1,g2⟩:=g
 exact {
  p1:=fun c hc h2 hf=>by
   rcases g2 c hc with q|q
   · exact h.p1 c q h2 hf
   · cases q<;>first|(exfalso;revert h2;simp;done)|skip
     rename_i t hs hp
     exact⟨t,hs,rfl,Int.le_refl _, .inl rfl⟩
  p3:=fun c hc h2 hf=>by
   rcases g2 c hc with q|q
   · exact h.p3 c q h2 hf
   · cases q<;>first|(exfalso;revert h2;simp;done)|skip
     rename_i t to_ hs hb ht
     exact⟨t,hs,rfl,Int.le_refl _⟩
  p4:=fun t ht hb=>(h.p4 t ht hb).mono g1
  p7:=fun c hc h2 hf=>by
   rcases g2 c hc with q|q
   · exact h.p7 c q h2 hf
   · cases q<;>first|(exfalso;revert h2;simp;done)|skip
     rename_i b to_ hb ha ht
     exact⟨(hv.bids b hb).2.1.2,b,hb,rfl, .inl ⟨rfl,rfl,ha⟩⟩
  p8:=fun b hb=>(h.p8 b hb).mono g1
  p9:=fun x hx k hk hm=>(h.p9 x hx k hk hm).mono g1
  l1:=fun c hc h2 hf=>by
   rcases g2 c hc with q|q
   · obtain⟨l,a1,a2,a3,a4,a5,a6,a7⟩:=h.l1 c q h2 hf
     refine⟨l,a1,a2,a3,a4,a5,a6, ?_⟩
     rcases a7 with q|⟨b,q,r⟩
     · exact .inl q
     · exact .inr ⟨b,g1 b q,r⟩
   · cases q<;>first|(exfalso;revert h2;simp;done)|skip
     rename_i l hl
     exact⟨l,hl,rfl,rfl,rfl,rfl,Int.le_refl _, .inl rfl⟩
  l2:=fun y hy=>by
   obtain⟨c,q,r⟩:=h.l2 y hy
   exact⟨c,g1 c q,r⟩
  l3:=fun c hc h2 hf=>by
   rcases g2 c hc with q|q
   · exact h.l3 c q h2 hf
   · cases q<;>first|(exfalso;revert h2;simp;done)|skip
     rename_i y hy hb
     exact⟨y,hy,rfl,rfl,hb,rfl⟩}
theorem GC.grow {C C':List b9} {i:Int} {s:c8} (g:c0U C C' i s) (hv:j7 i s) (h:J C i s) (G:GC C):GC C':=by
 obtain⟨g1,g2⟩:=id g
 exact {
  ok:=fun c hc=>by
   rcases g2 c hc with q|q
   · exact G.ok c q
   · exact q.ok hv
  g2:=fun c hc a ha h2 h4 hf hn hlt=>by
   have ja:=h.own g hv
   rcases g2 c hc with q|q
   · rcases g2 a ha with r|r
     · exact G.g2 c q a r h2 h4 hf hn hlt
     · --a new one told,an old promise
       have hfi:=r.from_
       obtain⟨t,t1,t2,t3,t4⟩:=h.p1 c q h2 (by omega)
       cases r<;>first|(exfalso;revert h4;simp;done)|skip
       rename_i u to_ hs hb ht
       have e:=hv.slot1 t1 hs (by simp only at hn;omega)
       subst e
       simp only at hlt⊢
       rcases t4 with t4|t4<;>omega
   · --a new promise
     have hfi:=q.from_
     obtain⟨u,u1,u2,u3⟩:=ja.p3 a ha h4 (by omega)
     cases q<;>first|(exfalso;revert h2;simp;done)|skip
     rename_i t hs hp
     have e:=hv.slot1 u1 hs (by simp only at hn;omega)
     subst e
     exact u3
  g5:=fun a ha h4=>by
   rcases g2 a ha with q|q
   · exact(G.g5 a q h4).mono g1
   · cases q<;>first|(exfalso;revert h4;simp;done)|skip
     rename_i t to_ hs hb ht
     exact(h.p4 t hs hb).mono g1
  gb:=fun c hc h2 hne=>by
   rcases g2 c hc with q|q
   · exact(G.gb c q h2 hne).mono g1
   · cases q<;>first|(exfalso;revert h2;simp;done)|skip
     rename_i t hs hp
     exact(h.p4 t hs hne).mono g1
  g6:=fun c hc a ha h3 h3' hn hb=>by
   have key:∀c,c∈C'→∀a,Em i s a→c.Kind=3→a.Kind=3→a.Night=c.Night→a.Ballot=c.Ballot→a.Value=c.Value:=fun c hc a q h3 h3' hn hb=>by
    have ja:=h.own g hv
    cases q<;>first|(exfalso;revert h3';simp;done)|skip
    rename_i b to_ hb' ha' ht'
    have hfc:c.From=i:=by
     have hok:a7k c:=by
      rcases g2 c hc with q|q
      · exact G.ok c q
      · exact q.ok hv
     have hbm:=(hv.bids b hb').2.2.1
     rcases hok.kind with k|k|k|k|k|k<;>first|(exfalso;omega)|skip
     have:=k.2.2.1
     simp only at hb
     omega
    obtain⟨_,b2,b3,b4,b5⟩:=ja.p7 c hc h3 hfc
    have e:=hv.bid1 hb' b3 (by simp only at hn;omega)
    subst e
    simp only at hb⊢
    rcases b5 with b5|b5
    · exact b5.2.1
    · omega
   rcases g2 a ha with q|q
   · rcases g2 c hc with r|r
     · exact G.g6 c r a q h3 h3' hn hb
     · exact(key a ha c r h3' h3 hn.symm hb.symm).symm
   · exact key c hc a q h3 h3' hn hb
  g8:=fun c hc h3=>by
   rcases g2 c hc with q|q
   · obtain⟨m,B,a1,a2,a3,a4⟩:=G.g8 c q h3
     exact⟨m,B,a1,a2,a3,a4.mono g1⟩
   · cases q<;>first|(exfalso;revert h3;simp;done)|skip
     rename_i b to_ hb ha ht
     obtain⟨_,_,_,_,b5,b6,b7⟩:=hv.bids b hb
     exact⟨b.Mask,b.Best,b6,by rw [←b7];exact ha,by simp only;omega,(h.p8 b hb).mono g1⟩}
end Go.Proofs.YtcedmbakcchkiaaGreatDoor
namespace Go.Proofs.YtcedmbakcchkiaaGreatDoor
open Go Go.Sx
open Classical
def Lk (d:Int) (s t:c8):Prop:=∀y,y∈s.Loans→y.Owner=d→∀l,l∈t.Leases→l.No=y.No→y.Until≤l.Until
def Of (x:a8) (s:c8):Prop:=s=x.Now∨s=x.Safe
structure Inv (C:List b9) (A:List a8):Prop where
 len:A.length=6
 me:∀(k:Nat) x,A[k]?=some x→x.Me=(k:Int)
 v:∀x,x∈A→A2 x
 g:GC C
 j:∀x,x∈A→∀s,Of x s→J C x.Me s
 l:∀x,x∈A→∀d,d∈A→∀s,Of x s→∀t,Of d t→Lk d.Me s t
section
variable {C : List b9} {A : List a8}
theorem Inv.vs (h:Inv C A) {x:a8} (hx:x∈A) {s:c8} (hs:Of x s):j7 x.Me s:=by
 rcases hs with rfl|rfl
 · exact(h.v x hx).1
 · exact(h.v x hx).2
theorem a3H {k:Nat} {x y z:a8} (hx:A[k]?=some x) (h:z∈A.set k y):z=y∨z∈A:=by
 rcases List.mem_or_eq_of_mem_set h with h|h
 · exact .inr h
 · exact .inl h
theorem Inv.turn (h:Inv C A) {k:Nat} {x:a8} (hx:A[k]?=some x) {n f:c8} (hn:j7 x.Me n∧J C x.Me n) (hf:j7 x.Me f∧J C x.Me f) (h1:∀d,d∈A→∀t,Of d t→Lk d.Me n t∧Lk d.Me f t) (h2:∀y,y∈A→∀s,Of y s→Lk x.Me s n∧Lk x.Me s f):Inv C (A.set k ⟨x.Me,n,f⟩):=by
 have hk:=(List.getElem?_eq_some_iff.1 hx).1
 have self:∀s t:c8,j7 x.Me s→Lk x.Me s t:=fun s t hv y hy ho=>absurd ho (hv.loans y hy).2.1
 exact {
  len:=by rw [List.length_set];exact h.len
  me:=fun i z hz=>by
   rw [List.getElem?_set]at hz
   split at hz
   · rename_i e
     subst e
     cases hz
     exact h.me k x hx
   · exact h.me i z hz
  v:=fun z hz=>by
   rcases a3H hx hz with rfl|hz
   · exact⟨hn.1,hf.1⟩
   · exact h.v z hz
  g:=h.g
  j:=fun z hz s hs=>by
   rcases a3H hx hz with rfl|hz
   · rcases hs with rfl|rfl
     · exact hn.2
     · exact hf.2
   · exact h.j z hz s hs
  l:=fun z hz d hd s hs t ht=>by
   rcases a3H hx hz with rfl|hz
   · rcases a3H hx hd with rfl|hd
     · refine self s t ?_
       rcases hs with rfl|rfl
       · exact hn.1
       · exact hf.1
     · have:=h1 d hd t ht
       rcases hs with rfl|rfl
       · exact this.1
       · exact this.2
   · rcases a3H hx hd with rfl|hd
     · have:=h2 z hz s hs
       rcases ht with rfl|rfl
       · exact this.1
       · exact this.2
     · exact h.l z hz d hd s hs t ht}
theorem Inv.now (h:Inv C A) {k:Nat} {x:a8} (hx:A[k]?=some x) {n:c8} (hv:j7 x.Me n) (hj:J C x.Me n) (h1:∀d,d∈A→∀t,Of d t→Lk d.Me n t) (h2:∀y,y∈A→∀s,Of y s→Lk x.Me s n):Inv C (A.set k ⟨x.Me,n,x.Safe⟩):=by
 have hm:=List.mem_of_getElem? hx
 exact h.turn hx ⟨hv,hj⟩ ⟨(h.v x hm).2,h.j x hm _ (.inr rfl)⟩ (fun d hd t ht=>⟨h1 d hd t ht,h.l x hm d hd _ (.inr rfl) t ht⟩) (fun y hy s hs=>⟨h2 y hy s hs,h.l y hy x hm s hs _ (.inr rfl)⟩)
theorem Inv.fail (h:Inv C A) {k:Nat} {x:a8} (hx:A[k]?=some x):Inv C (A.set k ⟨x.Me,x.Safe,x.Safe⟩):=by
 have hm:=List.mem_of_getElem? hx
 exact h.now hx (h.v x hm).2 (h.j x hm _ (.inr rfl)) (fun d hd t ht=>h.l x hm d hd _ (.inr rfl) t ht) (fun y hy s hs=>h.l y hy x hm s hs _ (.inr rfl))
theorem Inv.write (h:Inv C A) {k:Nat} {x:a8} (hx:A[k]?=some x):Inv C (A.set k ⟨x.Me,x.Now,x.Now⟩):=by
 have hm:=List.mem_of_getElem? hx
 have a:=(h.v x hm).1
 have b:=h.j x hm _ (.inl rfl)
 exact h.turn hx ⟨a,b⟩ ⟨a,b⟩ (fun d hd t ht=>⟨h.l x hm d hd _ (.inl rfl) t ht,h.l x hm d hd _ (.inl rfl) t ht⟩) (fun y hy s hs=>⟨h.l y hy x hm s hs _ (.inl rfl),h.l y hy x hm s hs _ (.inl rfl)⟩)
theorem Inv.same (h:Inv C A) {k:Nat} {x:a8} (hx:A[k]?=some x) {n:c8} (hv:j7 x.Me n) (hj:J C x.Me n) (e1:n.Leases=x.Now.Leases) (e2:n.Loans=x.Now.Loans):Inv C (A.set k ⟨x.Me,n,x.Safe⟩):=by
 have hm:=List.mem_of_getElem? hx
 exact h.now hx hv hj (fun d hd t ht y hy=>h.l x hm d hd _ (.inl rfl) t ht y (e2▸hy)) (fun y hy s hs z hz ho l hl=>h.l y hy x hm s hs _ (.inl rfl) z hz ho l (e1▸hl))
theorem Inv.lease (h:Inv C A) {x z:a8} (hx:x∈A) (hz:z∈A) {s t:c8} (hs:Of z s) (ht:Of x t) {y:d7} (hy:y∈s.Loans) (ho:y.Owner=x.Me):∃l,l∈t.Leases∧l.No=y.No∧l.Thing=y.Thing∧l.To=z.Me∧l.From=y.From:=by
 obtain⟨c,c1,c2,c3,c4,c5,c6,c7⟩:=(h.j z hz s hs).l2 y hy
 obtain⟨l,l1,l2,l3,l4,l5,_⟩:=(h.j x hx t ht).l1 c c1 c2 (by omega)
 exact⟨l,l1,by omega,by omega,by omega,by omega⟩
theorem Inv.lend (h:Inv C A) {k:Nat} {x:a8} (hx:A[k]?=some x) {y:c0} (hno:y.No=(x.Now.Leases.length:Int)+1) (hv:j7 x.Me ⟨x.Now.Round,x.Now.Slots,x.Now.Bids,x.Now.Heard,x.Now.Leases++ [y],x.Now.Loans⟩):Inv C (A.set k ⟨x.Me,⟨x.Now.Round,x.Now.Slots,x.Now.Bids,x.Now.Heard,x.Now.Leases++ [y],x.Now.Loans⟩,x.Safe⟩):=by
 have hm:=List.mem_of_getElem? hx
 refine h.now hx hv ((h.j x hm x.Now (.inl rfl)).lend y) (fun d hd t ht w hw ho l hl hno=>h.l x hm d hd x.Now (.inl rfl) t ht w hw ho l hl hno) (fun z hz s hs w hw ho l hl hno'=> ?_)
 rcases List.mem_append.1 hl with hl|hl
 · exact h.l z hz x hm s hs _ (.inl rfl) w hw ho l hl hno'
 · rw [List.mem_singleton]at hl
   subst hl
   obtain⟨l',l1,l2,_⟩:=h.lease hm hz hs (.inl rfl) hw ho
   obtain⟨i,hi,e⟩:=List.getElem_of_mem l1
   have:=(h.v x hm).1.nos i l' (by rw [List.getElem?_eq_getElem hi,e])
   omega
theorem Inv.ret (h:Inv C A) {k:Nat} {x:a8} (hx:A[k]?=some x) (o n m:Int) (hm0:0≤m):Inv C (A.set k ⟨x.Me,⟨x.Now.Round,x.Now.Slots,x.Now.Bids,x.Now.Heard,x.Now.Leases,x.Now.Loans.map (a3M o n m)⟩,x.Safe⟩):=by
 have hm:=List.mem_of_getElem? hx
 refine h.now hx ((h.v x hm).1.ret' hm0) ((h.j x hm x.Now (.inl rfl)).ret o n m) (fun d hd t ht y hy ho l hl hno=> ?_) (fun z hz s hs w hw ho l hl hno=>h.l z hz x hm s hs x.Now (.inl rfl) w hw ho l hl hno)
 obtain⟨w,hw,rfl⟩:=List.mem_map.1 hy
 have hk:=a5a o n m w
 have hu:(a3M o n m w).Until≤w.Until:=by
  unfold a3M;split
  · simp only;omega
  · exact Int.le_refl _
 have:=h.l x hm d hd _ (.inl rfl) t ht w hw (by omega) l hl (by omega)
 omega
theorem c1K {l:List d7} (hl:I1 a0C l) {c:b9} (h:∃x,x∈l∧x.Owner=c.From∧x.No=c.No):upd (X5 c.From c.No) (S2 c) id l=l:=by
 have hp:=a2s (fun a b c q r=>by unfold a0C at*;omega) (fun a q=>by unfold a0C at q;omega) hl
 clear hl
 induction l with
 |nil=>obtain⟨x,hx,_⟩:=h;cases hx
 |cons y l ih=>
  obtain⟨h1,h2⟩:=List.pairwise_cons.1 hp
  obtain⟨x,hx,e1,e2⟩:=h
  have hk:=a0T c.From c.No y
  unfold upd
  split
  · rename_i q
    rcases List.mem_cons.1 hx with e|hx
    · subst e
      have:=hk.1.1 q
      omega
    · rw [ih ⟨x,hx,e1,e2⟩ h2]
  · split
    · rfl
    · rename_i q1 q2
      exfalso
      rcases List.mem_cons.1 hx with e|hx
      · subst e;exact q2 (hk.2.2 ⟨e1,e2⟩)
      · have h3:=h1 x hx
        unfold a0C at h3
        exact q1 (hk.1.2 (by omega))
theorem Inv.grant (h:Inv C A) {k:Nat} {x:a8} (hx:A[k]?=some x) {c:b9} (hc:c∈C) (h5:c.Kind=5) (hto:c.To=x.Me) (hv:j7 x.Me ⟨x.Now.Round,x.Now.Slots,x.Now.Bids,x.Now.Heard,x.Now.Leases,upd (X5 c.From c.No) (S2 c) id x.Now.Loans⟩):Inv C (A.set k ⟨x.Me,⟨x.Now.Round,x.Now.Slots,x.Now.Bids,x.Now.Heard,x.Now.Leases,upd (X5 c.From c.No) (S2 c) id x.Now.Loans⟩,x.Safe⟩):=by
 have hm:=List.mem_of_getElem? hx
 have hj:=h.j x hm x.Now (.inl rfl)
 refine h.now hx hv (hj.grant hc h5 hto) (fun d hd t ht y hy ho l hl hno=> ?_) (fun z hz s hs w hw ho l hl hno=>h.l z hz x hm s hs x.Now (.inl rfl) w hw ho l hl hno)
 by_cases hex:∃w,w∈x.Now.Loans∧w.Owner=c.From∧w.No=c.No
 · have hy:y∈upd (X5 c.From c.No) (S2 c) id x.Now.Loans:=hy
   rw [c1K (h.v x hm).1.rloans hex]at hy
   exact h.l x hm d hd x.Now (.inl rfl) t ht y hy ho l hl hno
 · rcases a2a hy with e|hy|⟨z,hz,_,e⟩
   · rw [e]at ho hno⊢
     have ho:c.From=d.Me:=ho
     have hno:l.No=c.No:=hno
     obtain⟨l',l1,l2,l3,l4,l5,l6,l7⟩:=(h.j d hd t ht).l1 c hc h5 ho
     have el:=(h.vs hd ht).lease1 hl l1 (by omega)
     subst el
     show c.Until≤l.Until
     rcases l7 with l7|⟨b,b1,b2,b3,b4,b5⟩
     · omega
     · obtain⟨w,w1,w2,w3,_⟩:=hj.l3 b b1 b2 (by omega)
       exact absurd ⟨w,w1,by omega,by omega⟩ hex
   · exact h.l x hm d hd x.Now (.inl rfl) t ht y hy ho l hl hno
   · rw [e]at ho hno⊢
     exact h.l x hm d hd x.Now (.inl rfl) t ht z hz ho l hl hno
theorem Inv.back (h:Inv C A) {k:Nat} {x:a8} (hx:A[k]?=some x) {c:b9} (hc:c∈C) (h6:c.Kind=6) (hto:c.To=x.Me):Inv C (A.set k ⟨x.Me,⟨x.Now.Round,x.Now.Slots,x.Now.Bids,x.Now.Heard,x.Now.Leases.map (a1H c),x.Now.Loans⟩,x.Safe⟩):=by
 have hm:=List.mem_of_getElem? hx
 have hj:=h.j x hm x.Now (.inl rfl)
 refine h.now hx ((h.v x hm).1.back' c) (hj.back hc h6 hto) (fun d hd t ht y hy ho l hl hno=>h.l x hm d hd x.Now (.inl rfl) t ht y hy ho l hl hno) (fun z hz s hs w hw ho l' hl' hno=> ?_)
 obtain⟨l,hl,rfl⟩:=List.mem_map.1 hl'
 have hk:=a3X c l
 have h0:=h.l z hz x hm s hs x.Now (.inl rfl) w hw ho l hl (by omega)
 unfold a1H
 split
 · rename_i q
   obtain⟨l2,m1,m2,m3,m4,m5⟩:=h.lease hm hz hs (.inl rfl) hw ho
   have el:=(h.v x hm).1.lease1 hl m1 (by omega)
   subst el
   obtain⟨y0,y1,y2,y3,y4,y5⟩:=(h.j z hz s hs).l3 c hc h6 (by omega)
   have ey:=(h.vs hz hs).loan1 hw y1 (by omega) (by omega)
   subst ey
   simp only
   omega
 · exact h0
theorem Inv.hear (h:Inv C A) {k:Nat} {x:a8} (hx:A[k]?=some x) {c:b9} (hc:c∈C) (hto:c.To=x.Me) {t:c8} (e:a8C x.Now c=some t):Inv C (A.set k ⟨x.Me,t,x.Safe⟩):=by
 have hm:=List.mem_of_getElem? hx
 have hv:=c0M (h.v x hm).1 (h.g.ok c hc) hto e
 have hj:=(h.j x hm x.Now (.inl rfl)).hear h.g (h.v x hm).1 hc hto e
 unfold a8C at e
 split at e
 · split at e
   · cases e;exact h.same hx hv hj rfl rfl
   · cases e
 · split at e
   · cases e;exact h.same hx hv hj rfl rfl
   · split at e
     · split at e
       · cases e;exact h.same hx hv hj rfl rfl
       · cases e
     · split at e
       · split at e
         · cases e;exact h.same hx hv hj rfl rfl
         · cases e
       · split at e
         · rename_i k5
           split at e
           · cases e;exact h.grant hx hc k5 hto hv
           · cases e
         · rename_i n1 n2 n3 n4 n5
           cases e
           refine h.back hx hc ?_ hto
           rcases(h.g.ok c hc).kind with k|k|k|k|k|k<;>omega
theorem Inv.grow (h:Inv C A) {C':List b9} {x:a8} (hx:x∈A) (hs:x.Now=x.Safe) (g:c0U C C' x.Me x.Safe):Inv C' A:=
 { h with
  g:=h.g.grow g (h.v x hx).2 (h.j x hx _ (.inr rfl))
  j:=fun z hz s hs'=>by
   by_cases e:z.Me=x.Me
   · obtain⟨i,hi,ei⟩:=List.getElem_of_mem hz
     obtain⟨j,hj,ej⟩:=List.getElem_of_mem hx
     have e1:=h.me i z (by rw [List.getElem?_eq_getElem hi,ei])
     have e2:=h.me j x (by rw [List.getElem?_eq_getElem hj,ej])
     have:i=j:=by omega
     subst this
     have ez:z=x:=ei.symm.trans ej
     subst ez
     have es:s=z.Safe:=by
      rcases hs' with r|r
      · rw [r,hs]
      · exact r
     rw [es]
     exact(h.j z hz _ (.inr rfl)).own g (h.v z hz).2
   · exact(h.j z hz s hs').other g e}
end
end Go.Proofs.YtcedmbakcchkiaaGreatDoor
namespace Go.Proofs.YtcedmbakcchkiaaGreatDoor
open Go Go.Sx
open Classical
theorem b6g {α β:Type} {g:α→List β} (h1:∀x,(g x).length≤1):∀ {l:List α},l.Pairwise (fun a b=>g a= []∨g b= [])→(l.flatMap g).length≤1
 | [],_=>by simp
 |x::l,h=>by
  obtain⟨h2,h3⟩:=List.pairwise_cons.1 h
  have ih:=b6g h1 h3
  rw [List.flatMap_cons,List.length_append]
  by_cases e:g x= []
  · rw [e];simpa using ih
  · have:l.flatMap g= []:=by
     rw [List.flatMap_eq_nil_iff]
     intro y hy
     rcases h2 y hy with q|q
     · exact absurd q e
     · exact q
    rw [this];simpa using h1 x
section
variable {C : List b9} {A : List a8}
theorem Inv.at_ (h:Inv C A) {d:Int} (hd:0≤d∧d≤5):∃x,A[d.toNat]?=some x∧x.Me=d:=by
 have hl:=h.len
 have hlt:d.toNat<A.length:=by omega
 exact⟨A[d.toNat],List.getElem?_eq_getElem hlt,by have:=h.me d.toNat _ (List.getElem?_eq_getElem hlt);omega⟩
theorem Inv.cover (h:Inv C A) {x z:a8} (hx:x∈A) (hz:z∈A) {t m:Int} (hm:t % 6=x.Me) (hp:a9E z t m) (hne:t % 6≠z.Me):∃l,l∈x.Now.Leases∧c1S l.Thing l.From l.Until t m∧l.To=z.Me:=by
 unfold a9E at hp
 rw [if_neg hne]at hp
 obtain⟨w,hw,c1,c2,c3⟩:=hp
 obtain⟨_,_,_,_,w5,_⟩:=(h.v z hz).1.loans w hw
 have ho:w.Owner=x.Me:=by rw [←w5,c1];exact hm
 obtain⟨l,l1,l2,l3,l4,l5⟩:=h.lease hx hz (.inl rfl) (.inl rfl) hw ho
 have:=h.l z hz x hx _ (.inl rfl) _ (.inl rfl) w hw ho l l1 l2
 exact⟨l,l1,⟨by omega,by omega,by omega⟩,l4⟩
theorem Inv.place (h:Inv C A) {x z:a8} (hx:x∈A) (hz:z∈A) (hne:x.Me≠z.Me) {t m:Int} (hp:a9E x t m) (hq:a9E z t m):False:=by
 have own:∀x z:a8,x∈A→z∈A→t % 6=x.Me→t % 6≠z.Me→a9E x t m→a9E z t m→False:=fun x z hx hz e e' hp hq=>by
  obtain⟨l,l1,l2,_⟩:=h.cover hx hz e hq e'
  unfold a9E at hp
  rw [if_pos e]at hp
  exact hp ⟨l,l1,l2⟩
 by_cases e:t % 6=x.Me
 · exact own x z hx hz e (by omega) hp hq
 · by_cases e':t % 6=z.Me
   · exact own z x hz hx e' e hq hp
   · obtain⟨d,hd,hdm⟩:=h.at_ (d:=t % 6) (by omega)
     have hd:=List.mem_of_getElem? hd
     obtain⟨l,l1,⟨a1,a2,a3⟩,l3⟩:=h.cover hd hx hdm.symm hp e
     obtain⟨l',m1,⟨b1,b2,b3⟩,m3⟩:=h.cover hd hz hdm.symm hq e'
     have hpw:=List.pairwise_iff_getElem.1 (a2e.1 (h.v d hd).1.meets)
     obtain⟨i,hi,rfl⟩:=List.getElem_of_mem l1
     obtain⟨j,hj,rfl⟩:=List.getElem_of_mem m1
     unfold a4Y at hpw
     rcases Nat.lt_trichotomy i j with q|q|q
     · exact hpw i j hi hj q ⟨by omega,by omega⟩
     · subst q;omega
     · exact hpw j i hj hi q ⟨by omega,by omega⟩
theorem Inv.pw (h:Inv C A):A.Pairwise (fun a b=>a∈A∧b∈A∧a.Me<b.Me):=by
 rw [List.pairwise_iff_getElem]
 intro i j hi hj hij
 have e1:=h.me i _ (List.getElem?_eq_getElem hi)
 have e2:=h.me j _ (List.getElem?_eq_getElem hj)
 exact⟨List.getElem_mem hi,List.getElem_mem hj,by omega⟩
theorem Inv.where_ (h:Inv C A) (t m:Int):(A.flatMap (a5m t m)).length≤1:=by
 refine b6g (b2f t m) (h.pw.imp fun {a b} ⟨ha,hb,hab⟩=> ?_)
 unfold a5m
 by_cases p:a9E a t m
 · by_cases q:a9E b t m
   · exact(h.place ha hb (by omega) p q).elim
   · exact .inr (if_neg q)
 · exact .inl (if_neg p)
theorem Inv.all (h:Inv C A):b1s A:=⟨h.v,fun i a b ha hb=>by
 have e1:=h.me i a ha
 have e2:=h.me (i+1) b hb
 show a.Me<b.Me
 omega⟩
theorem Inv.chosen (h:Inv C A) {night v:Int} (hv:v∈A.flatMap (a1q night)):∃b,a1c C night b v:=by
 obtain⟨x,hx,hv⟩:=List.mem_flatMap.1 hv
 unfold a1q at hv
 cases hf:a6W x.Now night with
 |none=>rw [hf]at hv;cases hv
 |some y=>
  rw [hf,List.mem_singleton]at hv
  unfold a6W at hf
  have hm:=List.mem_of_find?_eq_some hf
  have hq:=List.find?_some hf
  unfold a8d at hq
  rw [Bool.and_eq_true,decide_eq_true_eq]at hq
  have ho:=(h.v x hx).1.heard y hm
  refine⟨y.Ballot,y.Mask,ho.2.2.2.2,hq.2,fun k hk hmk=> ?_⟩
  rw [hv,←hq.1]
  exact(h.j x hx _ (.inl rfl)).p9 y hm k hk hmk
theorem c0w {v:Int}:a5e [v] v= [v]:=by
 unfold a5e upd
 rw [if_neg (by rw [a2t];omega),if_pos (a2m.2 rfl)]
 rfl
theorem b5G {v:Int}:∀ {l:List Int},(∀x,x∈l→x=v)→∀a,a= []∨a= [v]→(l.foldl a5e a= []∧l= [])∨l.foldl a5e a= [v]∨(l= []∧l.foldl a5e a=a)
 | [],_,a,h=>by
  rcases h with rfl|rfl
  · exact .inl ⟨rfl,rfl⟩
  · exact .inr (.inl rfl)
 |x::l,hx,a,h=>by
  obtain rfl:=hx x List.mem_cons_self
  have e:a5e a x= [x]:=by
   rcases h with rfl|rfl
   · rfl
   · exact c0w
  rw [List.foldl_cons,e]
  rcases b5G (l:=l) (fun y hy=>hx y (List.mem_cons_of_mem _ hy)) [x] (.inr rfl)with q|q|q
  · rw [q.2];exact .inr (.inl rfl)
  · exact .inr (.inl q)
  · exact .inr (.inl q.2)
theorem Inv.musters (h:Inv C A) (night:Int):(A.flatMap (a1q night)).foldl a5e []= []∨∃v b,(A.flatMap (a1q night)).foldl a5e []= [v]∧a1c C night b v:=by
 cases hl:A.flatMap (a1q night)with
 |nil=>exact .inl rfl
 |cons v l=>
  obtain⟨b,hb⟩:=h.chosen (night:=night) (v:=v) (by rw [hl];exact List.mem_cons_self)
  have hall:∀x,x∈v::l→x=v:=fun x hx=>by
   obtain⟨b',hb'⟩:=h.chosen (night:=night) (v:=x) (by rw [hl];exact hx)
   exact h.g.once hb' hb
  refine .inr ⟨v,b, ?_,hb⟩
  rcases b5G hall [] (.inl rfl)with q|q|q
  · cases q.2
  · exact q
  · cases q.1
end
end Go.Proofs.YtcedmbakcchkiaaGreatDoor
namespace Go.Proofs.YtcedmbakcchkiaaGreatDoor
open Go Go.Sx
open Classical
def upC (x:a8) (n:Nat):List b9:=(List.range n).flatMap fun(k:Nat)=>b0s x.Me (k:Int) x.Safe
def b8N (x:a8):List b9:=upC x 6
theorem b6j {x:a8} (h:A2 x) (n:Nat):(upC x n).length≤1000*n:=by
 have:=a1k (fun k:Nat=>b0s x.Me (k:Int) x.Safe) 1000 (fun k=>b1F h.2 _) (List.range n)
 rwa [List.length_range]at this
theorem c5s (x:a8) (n:Nat):upC x (n+1)=upC x n++b0s x.Me (n:Int) x.Safe:=by
 unfold upC
 rw [List.range_succ,List.flatMap_append]
 simp
theorem b3l {w:i4} {d:Int} {x:a8} (hd:0≤d) (hx:w.all[d.toNat]?=some x) (hv:A2 x) (hn:w.calls.length≤1000000):z7 w d=some (⟨w.all,w.calls++b8N x,w.told⟩,true):=by
 have hi:idx w.all d=some x:=by
  have:=P7 hx
  rwa [Int.toNat_of_nonneg hd]at this
 obtain⟨e,he,rfl⟩:=a6O (body:=S3 w d) (fun st=>∃n:Nat,st=((n:Int),w.calls++upC x n)∧n≤6) (fun st=>(6-st.1).toNat) (fun e=>e= .inl (6,w.calls++b8N x)) (by
  rintro _ ⟨n,rfl,h6⟩
  have hl:=b6j hv n
  have hl2:=b1F hv.2 (n:Int)
  unfold S3
  by_cases h:n<6
  · right
    have h1:((n:Int)<6)=True:=eq_true (by omega)
    refine⟨(((n+1:Nat):Int),w.calls++upC x (n+1)), ?_,⟨n+1,rfl,by omega⟩,by simp only;omega⟩
    simp only [h1,decide_true,if_true,hi,Option.bind_some,c0h,c1y hv.1 hv.2 (show 0≤(n:Int)∧(n:Int)≤5 by omega),bne_self_eq_false,Bool.false_eq_true,if_false,List.nil_append,List.length_nil]
    rw [a8a (by rw [List.length_append];omega),a8a (by rw [List.length_append];omega),W_s (by omega),c5s,List.append_assoc]
  · left
    obtain rfl:n=6:=by omega
    exact⟨_,by simp;rfl,rfl⟩) (0,w.calls) ⟨0,by simp [upC],by omega⟩ (by simp only [a4v];omega)
 unfold z7
 rw [he]
 rfl
theorem c0B (C:List b9) (x:a8):c0U C (C++b8N x) x.Me x.Safe:=⟨fun c hc=>List.mem_append_left _ hc,fun c hc=>by
 rcases List.mem_append.1 hc with hc|hc
 · exact .inl hc
 · obtain⟨k,hk,hc⟩:=List.mem_flatMap.1 hc
   rw [List.mem_range]at hk
   exact .inr (c3S (by omega) hc)⟩
end Go.Proofs.YtcedmbakcchkiaaGreatDoor
namespace Go.Proofs.YtcedmbakcchkiaaGreatDoor
open Go Go.Sx
open Classical
def c3Q (e:Int):Prop:=e=2∨e=93∨e=1∨e=94∨e=95
theorem c3N {e:Int} (h:c3Q e):U0 e=some true:=by
 unfold U0
 rcases h with rfl|rfl|rfl|rfl|rfl<;>rfl
def c0N (C:List b9) (A:List a8) (k:Nat) (r:a8×Int):Prop:=c3Q r.2∨(r.2=0∧Inv C (A.set k r.1))
section
variable {C : List b9} {A : List a8} {k : Nat} {x : a8}
theorem b1I (h:Inv C A) (hx:A[k]?=some x) {n v:Int} (hn:0≤n∧n≤100000) (hv:1≤v∧v≤1000000):c0N C A k (a2l x n v):=by
 have hm:=List.mem_of_getElem? hx
 have hs:=h.v x hm
 have hk:=fun e=>b2T (x:=x) (n:=n) (v:=v) e
 unfold a2l at hk⊢
 rw [if_pos hs,if_pos hn,if_pos hv]at hk⊢
 by_cases q:x.Now.Round=9999∨¬(a6x x.Now x.Me n v).length≤12
 · rw [if_pos q];exact .inl (.inl rfl)
 · rw [if_neg q]at hk⊢
   exact .inr ⟨rfl,h.same hx (hk rfl).1.1 ((h.j x hm x.Now (.inl rfl)).prop n v) rfl rfl⟩
theorem c2W (h:Inv C A) (hx:A[k]?=some x) {a b c d:Int} (ha:1≤a∧a≤99) (hb:0≤b∧b≤5) (hc:0≤c∧c≤144001439) (hd:0≤d∧d≤144001439) (ho:a % 6=x.Me):c0N C A k (b0d x a b c d):=by
 have hm:=List.mem_of_getElem? hx
 have hs:=h.v x hm
 have hk:=fun e=>b7t (x:=x) (a:=a) (b:=b) (c:=c) (d:=d) e
 unfold b0d at hk⊢
 rw [if_pos hs,if_pos ha,if_pos hb,if_pos hc,if_pos hd,if_pos ho]at hk⊢
 by_cases h7:b=x.Me
 · rw [if_pos h7];exact .inl (.inr (.inr (.inl rfl)))
 · rw [if_neg h7]at hk⊢
   by_cases h8:c>d
   · rw [if_pos h8];exact .inl (.inr (.inr (.inr (.inr rfl))))
   · rw [if_neg h8]at hk⊢
     by_cases h9:b3z x.Now.Leases ⟨(x.Now.Leases.length:Int)+1,a,b,c,d⟩
     · rw [if_pos h9];exact .inl (.inr (.inl rfl))
     · rw [if_neg h9]at hk⊢
       by_cases h10:x.Now.Leases.length=40
       · rw [if_pos h10];exact .inl (.inl rfl)
       · rw [if_neg h10]at hk⊢
         exact .inr ⟨rfl,h.lend hx rfl (hk rfl).1.1⟩
theorem b8M (h:Inv C A) (hx:A[k]?=some x) {o n m:Int} (ho:0≤o∧o≤5):c0N C A k (a8j x o n m):=by
 have hm:=List.mem_of_getElem? hx
 have hs:=h.v x hm
 unfold a8j
 rw [if_pos hs,if_pos ho]
 by_cases h3:0≤m∧m≤144001439
 · rw [if_pos h3]
   by_cases h4:∃y,y∈x.Now.Loans∧y.Owner=o∧y.No=n∧y.Back=false
   · rw [if_pos h4];exact .inr ⟨rfl,h.ret hx o n m h3.1⟩
   · rw [if_neg h4];exact .inl (.inr (.inr (.inr (.inl rfl))))
 · rw [if_neg h3];exact .inl (.inr (.inr (.inr (.inr rfl))))
theorem c3i (h:Inv C A) (hx:A[k]?=some x) {c:b9} (hc:c∈C) (hto:c.To=x.Me):c0N C A k (b5R x c):=by
 have hm:=List.mem_of_getElem? hx
 have hs:=h.v x hm
 unfold b5R
 rw [if_pos hs,if_pos ⟨h.g.ok c hc,hto⟩]
 cases e:a8C x.Now c with
 |none=>exact .inl (.inl rfl)
 |some t=>exact .inr ⟨rfl,h.hear hx hc hto e⟩
end
structure Nx (w w':i4):Prop where
 told:w'.told=w.told
 sub:Sub w.calls w'.calls
 inv:Inv w'.calls w'.all
 len:w'.calls.length≤w.calls.length+6000
theorem Nx.self {w:i4} (h:Inv w.calls w.all):Nx w ⟨w.all,w.calls,w.told⟩:=⟨rfl,fun _ h=>h,h,by simp⟩
theorem Nx.set {w:i4} {A:List a8} (h:Inv w.calls A):Nx w ⟨A,w.calls,w.told⟩:=⟨rfl,fun _ h=>h,h,by simp⟩
theorem Nx.called {w:i4} {k:Nat} {x:a8} (h:Inv w.calls w.all) (hx:w.all[k]?=some x):Nx w ⟨w.all.set k ⟨x.Me,x.Now,x.Now⟩,w.calls++b8N ⟨x.Me,x.Now,x.Now⟩,w.told⟩:=by
 have hw:=h.write hx
 have hk:=(List.getElem?_eq_some_iff.1 hx).1
 have hmem:(⟨x.Me,x.Now,x.Now⟩:a8)∈w.all.set k ⟨x.Me,x.Now,x.Now⟩:=List.mem_of_getElem? (i:=k) (by rw [List.getElem?_set_self hk])
 have hl:=b6j (hw.v _ hmem) 6
 refine⟨rfl,fun c hc=>List.mem_append_left _ hc,hw.grow hmem rfl (c0B _ _), ?_⟩
 show(w.calls++b8N ⟨x.Me,x.Now,x.Now⟩).length≤_
 rw [List.length_append]
 unfold b8N
 omega
end Go.Proofs.YtcedmbakcchkiaaGreatDoor
namespace Go.Proofs.YtcedmbakcchkiaaGreatDoor
open Go Go.Sx
open Classical
theorem c4e {w:i4} (y:a1A) (h:Inv w.calls w.all) (hn:w.calls.length≤900000):∃w',a0o w y=some (w',true)∧Nx w w':=by
 have hlen:=h.len
 obtain⟨x,hx,hme⟩:=h.at_ (d:=y.Depot % 6) (by omega)
 have hm:=List.mem_of_getElem? hx
 have hi:idx w.all (y.Depot % 6)=some x:=by
  have:=P7 hx
  rwa [Int.toNat_of_nonneg (by omega)]at this
 unfold a0o
 rw [a8a (by simp only [List.length_nil];omega),b2o]
 simp only [Option.bind_some,List.nil_append]
 rw [hi,a3I y.Kind (by omega)]
 simp only [Option.bind_some]
 have fin:∀ {r:a8×Int},c0N w.calls w.all (y.Depot % 6).toNat r→(c3Q r.2∧(r.2 !=0)=true∧U0 r.2=some true)∨((r.2 !=0)=false∧Inv w.calls (w.all.set (y.Depot % 6).toNat r.1)):=fun {r} op=>by
  rcases op with op|⟨op,op'⟩
  · refine .inl ⟨op, ?_,c3N op⟩
    rw [bne_iff_ne]
    rcases op with e|e|e|e|e<;>rw [e]<;>decide
  · exact .inr ⟨by rw [op];rfl,op'⟩
 have hk:y.Kind % 12=0∨y.Kind % 12=1∨y.Kind % 12=2∨y.Kind % 12=3∨y.Kind % 12=4∨y.Kind % 12=5∨y.Kind % 12=6∨(7≤y.Kind % 12∧y.Kind % 12≤11):=by omega
 have hw:W (1+y.Value % 9)=1+y.Value % 9:=a2v (by omega)
 rcases hk with hk|hk|hk|hk|hk|hk|hk|hk
 · rw [hk]
   simp only [Int.reduceBEq,Int.reduceBNe,beq_self_eq_true,if_true,Bool.false_eq_true,if_false]
   rw [a3I y.Night (by omega),a3I y.Value (by omega)]
   simp only [Option.bind_some]
   rw [hw,b1P]
   have op:=fin (b1I h hx (n:=y.Night % 3) (v:=1+y.Value % 9) (by omega) (by omega))
   generalize a2l x (y.Night % 3) (1+y.Value % 9)=r at op⊢
   obtain⟨r1,r2⟩:=r
   rcases op with⟨_,e,e'⟩|⟨e,op⟩
   · simp only [Option.bind_some,e,if_true,e']
     exact⟨_,rfl,Nx.self h⟩
   · simp only [Option.bind_some,e,Bool.false_eq_true,if_false]
     exact⟨_,rfl,Nx.set op⟩
 · rw [hk]
   simp only [Int.reduceBEq,Int.reduceBNe,beq_self_eq_true,if_true,Bool.false_eq_true,if_false]
   rw [a3I y.Night (by omega),a3I y.Value (by omega)]
   simp only [Option.bind_some]
   rw [hw,b1P]
   have op:=fin (b1I h hx (n:=y.Night % 3) (v:=1+y.Value % 9) (by omega) (by omega))
   generalize a2l x (y.Night % 3) (1+y.Value % 9)=r at op⊢
   obtain⟨r1,r2⟩:=r
   rcases op with⟨_,e,e'⟩|⟨e,op⟩
   · simp only [Option.bind_some,e,if_true,e']
     exact⟨_,rfl,Nx.self h⟩
   · simp only [Option.bind_some,e,Bool.false_eq_true,if_false]
     exact⟨_,rfl,Nx.set op⟩
 · rw [hk]
   simp only [Int.reduceBEq,Int.reduceBNe,beq_self_eq_true,if_true,Bool.false_eq_true,if_false]
   obtain⟨T,to_,f,u,ha,hd⟩:=c2U y
   obtain⟨d1,d2,d3,d4,d5,d6⟩:=hd
   rw [ha]
   simp only [Option.bind_some]
   rw [c2F]
   have op:=fin (c2W h hx (a:=T) (b:=to_) (c:=f) (d:=u) d2 d4 (by omega) (by omega) (by omega))
   generalize b0d x T to_ f u=r at op⊢
   obtain⟨r1,r2⟩:=r
   rcases op with⟨_,e,e'⟩|⟨e,op⟩
   · simp only [Option.bind_some,e,if_true,e']
     exact⟨_,rfl,Nx.self h⟩
   · simp only [Option.bind_some,e,Bool.false_eq_true,if_false]
     exact⟨_,rfl,Nx.set op⟩
 · rw [hk]
   simp only [Int.reduceBEq,Int.reduceBNe,beq_self_eq_true,if_true,Bool.false_eq_true,if_false]
   have hl:=(h.v x hm).1.nloans
   by_cases h0:(x.Now.Loans.length:Int)=0
   · rw [if_pos (by rw [beq_iff_eq];exact h0)]
     exact⟨_,rfl,Nx.self h⟩
   · rw [if_neg (by rw [beq_iff_eq];exact h0),a3I y.Pick (by omega)]
     simp only [Option.bind_some]
     have p1:=Int.emod_nonneg y.Pick h0
     have p2:=Int.emod_lt_of_pos y.Pick (show 0<(x.Now.Loans.length:Int) by omega)
     have hlt:(y.Pick % (x.Now.Loans.length:Int)).toNat<x.Now.Loans.length:=by omega
     have hj:idx x.Now.Loans (y.Pick % (x.Now.Loans.length:Int))=some x.Now.Loans[(y.Pick % (x.Now.Loans.length:Int)).toNat]:=by
      have:=P7 (List.getElem?_eq_getElem hlt)
      rwa [Int.toNat_of_nonneg p1]at this
     have ho:=(h.v x hm).1.loans _ (List.getElem_mem hlt)
     rw [hj]
     simp only [Option.bind_some]
     rw [a3I y.Long (by omega)]
     simp only [Option.bind_some]
     rw [b9X]
     generalize x.Now.Loans[(y.Pick % (x.Now.Loans.length:Int)).toNat]=z at ho⊢
     have op:=fin (b8M h hx (o:=z.Owner) (n:=z.No) (m:=W (z.From+y.Long % 130)) ho.1)
     generalize a8j x z.Owner z.No (W (z.From+y.Long % 130))=r at op⊢
     obtain⟨r1,r2⟩:=r
     rcases op with⟨_,e,e'⟩|⟨e,op⟩
     · simp only [Option.bind_some,e,if_true,e']
       exact⟨_,rfl,Nx.self h⟩
     · simp only [Option.bind_some,e,Bool.false_eq_true,if_false]
       exact⟨_,rfl,Nx.set op⟩
 · rw [hk]
   simp only [Int.reduceBEq,Int.reduceBNe,beq_self_eq_true,if_true,Bool.false_eq_true,if_false]
   have hs:=h.v x hm
   have hwr:a9G x=(⟨x.Me,x.Now,x.Now⟩,0):=b6d hs.1 hs.2
   rw [b6s,hwr]
   simp only [Option.bind_some,bne_self_eq_false,Bool.false_eq_true,if_false]
   have hk':=(List.getElem?_eq_some_iff.1 hx).1
   rw [b3l (w:=⟨w.all.set (y.Depot % 6).toNat ⟨x.Me,x.Now,x.Now⟩,w.calls,w.told⟩) (d:=y.Depot % 6) (x:=⟨x.Me,x.Now,x.Now⟩) (by omega) (by show(w.all.set _ _)[_]?=_;rw [List.getElem?_set_self hk']) ⟨hs.1,hs.1⟩ (by show w.calls.length≤_;omega)]
   exact⟨_,rfl,Nx.called h hx⟩
 · rw [hk]
   simp only [Int.reduceBEq,Int.reduceBNe,beq_self_eq_true,if_true,Bool.false_eq_true,if_false]
   have hs:=h.v x hm
   have hwr:a9G x=(⟨x.Me,x.Now,x.Now⟩,0):=b6d hs.1 hs.2
   rw [b6s,hwr]
   simp only [Option.bind_some,bne_self_eq_false,Bool.false_eq_true,if_false]
   have hk':=(List.getElem?_eq_some_iff.1 hx).1
   rw [b3l (w:=⟨w.all.set (y.Depot % 6).toNat ⟨x.Me,x.Now,x.Now⟩,w.calls,w.told⟩) (d:=y.Depot % 6) (x:=⟨x.Me,x.Now,x.Now⟩) (by omega) (by show(w.all.set _ _)[_]?=_;rw [List.getElem?_set_self hk']) ⟨hs.1,hs.1⟩ (by show w.calls.length≤_;omega)]
   exact⟨_,rfl,Nx.called h hx⟩
 · rw [hk]
   simp only [Int.reduceBEq,Int.reduceBNe,beq_self_eq_true,if_true,Bool.false_eq_true,if_false]
   have hs:=h.v x hm
   have hfl:b8A x=(⟨x.Me,x.Safe,x.Safe⟩,0):=by unfold b8A;rw [if_pos hs]
   rw [c2x,hfl]
   simp only [Option.bind_some,bne_self_eq_false,Bool.false_eq_true,if_false]
   exact⟨_,rfl,Nx.set (h.fail hx)⟩
 · have b:∀k:Int,0≤k→k≤6→(y.Kind % 12==k)=false:=fun k _ _=>by rw [beq_eq_false_iff_ne];omega
   have b':∀k:Int,0≤k→k≤6→(y.Kind % 12 !=k)=true:=fun k _ _=>by rw [bne_iff_ne];omega
   simp only [b 0 (by omega) (by omega),b 1 (by omega) (by omega),b 2 (by omega) (by omega),b 3 (by omega) (by omega),b 4 (by omega) (by omega),b 5 (by omega) (by omega),b 6 (by omega) (by omega),b' 4 (by omega) (by omega),b' 5 (by omega) (by omega),b' 6 (by omega) (by omega),Bool.false_eq_true,if_false,if_true]
   by_cases h0:(w.calls.length:Int)=0
   · rw [if_pos (by rw [beq_iff_eq];exact h0)]
     exact⟨_,rfl,Nx.self h⟩
   · rw [if_neg (by rw [beq_iff_eq];exact h0),a3I y.Pick (by omega)]
     simp only [Option.bind_some]
     have p1:=Int.emod_nonneg y.Pick h0
     have p2:=Int.emod_lt_of_pos y.Pick (show 0<(w.calls.length:Int) by omega)
     have hlt:(y.Pick % (w.calls.length:Int)).toNat<w.calls.length:=by omega
     have hj:idx w.calls (y.Pick % (w.calls.length:Int))=some w.calls[(y.Pick % (w.calls.length:Int)).toNat]:=by
      have:=P7 (List.getElem?_eq_getElem hlt)
      rwa [Int.toNat_of_nonneg p1]at this
     have hc:=List.getElem_mem hlt
     rw [hj]
     simp only [Option.bind_some]
     generalize w.calls[(y.Pick % (w.calls.length:Int)).toNat]=c at hc⊢
     have hto:=(h.g.ok c hc).to_
     obtain⟨z,hz,hzm⟩:=h.at_ hto
     have hi2:idx w.all c.To=some z:=by
      have:=P7 hz
      rwa [Int.toNat_of_nonneg hto.1]at this
     rw [if_neg (by rw [decide_eq_true_eq];omega),if_neg (by rw [decide_eq_true_eq];omega),hi2]
     simp only [Option.bind_some]
     rw [c2M]
     have op:=c3i h hz hc hzm.symm
     generalize b5R z c=r at op⊢
     obtain⟨r1,r2⟩:=r
     rcases op with op|⟨op,op'⟩
     · have e:(r2 !=0)=true:=by
        rw [bne_iff_ne]
        rcases op with e|e|e|e|e<;>(simp only at e;omega)
       simp only [Option.bind_some,e,if_true,c3N op]
       exact⟨_,rfl,Nx.self h⟩
     · have e:(r2 !=0)=false:=by simp only at op;rw [op];rfl
       simp only [Option.bind_some,e,Bool.false_eq_true,if_false]
       exact⟨_,rfl,Nx.set op'⟩
end Go.Proofs.YtcedmbakcchkiaaGreatDoor
namespace Go.Proofs.YtcedmbakcchkiaaGreatDoor
open Go Go.Sx
set_option maxRecDepth 100000
def SB0:c8:=⟨0, [], [], [], [], []⟩
def SB1:c8:=⟨1, [], [⟨4,7,77,0,14,false⟩], [], [], []⟩
def SB2:c8:=⟨1, [], [⟨4,7,77,0,46,true⟩], [], [], []⟩
def SL:a8:=⟨2,⟨0, [], [], [], [⟨1,8,0,100,200⟩], []⟩,SB0⟩
theorem sn1:a9B=some (⟨1,SB1,SB0⟩,true):=by decide+kernel
theorem sn2:Q9 ⟨1,SB1,SB0⟩ ⟨2,5,1,4,7,0,0,0,0,0,0⟩=some (⟨1,SB2,SB0⟩,0):=by decide+kernel
theorem sn3:S1 ⟨1,SB2,SB0⟩=some (⟨1,SB2,SB2⟩,0):=by decide+kernel
theorem sn4:Y2 ⟨1,SB2,SB2⟩ 2=some ([⟨3,1,2,4,7,0,77,0,0,0,0⟩],0):=by decide+kernel
theorem sn5:a0N 2=some (⟨2,SB0,SB0⟩,0):=by decide+kernel
theorem sn6:M3 ⟨2,SB0,SB0⟩ 8 0 100 200=some (SL,0):=by decide+kernel
theorem sn7:a0g SL 8 150=some (false,0):=by decide+kernel
theorem sn8:a0g SL 8 200=some (true,0):=by decide+kernel
theorem sn9:M3 SL 8 1 150 250=some (⟨0,SB0,SB0⟩,93):=by decide+kernel
theorem sna:K6 [150,200]=some [150,200]:=by
 have:a5c [150,200]= [150,200]:=List.mergeSort_of_pairwise (by simp)
 unfold K6
 rw [this];rfl
theorem snb:Q7 SL=some (some ⟨SL⟩,0):=by decide+kernel
theorem snc:A5 (a2Q 8 150 ⟨SL⟩) (0, [150])=some (1, [150,200]):=by decide+kernel
theorem snd:(Option.bind (A5 (a2L 8 150 250 ⟨SL⟩ [150,200]) 0) fun e=>match e with| .inl _=>some ((0:Int),(3:Int))| .inr r=>some r)=some (200,0):=by decide+kernel
theorem sne:B2 8=some true:=by decide+kernel
theorem snf:j5 150=some true:=by decide+kernel
theorem sng:j5 250=some true:=by decide+kernel
theorem snh:a1l SL 8 150 250=some (200,0):=by
 unfold a1l
 rw [snb]
 have h2:((SL.Me !=SL.Me)=true)=False:=by simp
 simp only [Option.bind_some,b2c,sne,snf,sng,snc,sna,show((0:Int) !=0)=false from rfl,Bool.false_eq_true,if_false,Bool.not_true,j4,show((8:Int).tmod 6 !=SL.Me)=false from rfl,show decide ((150:Int)>250)=false from rfl]
 exact snd
theorem sni:a2b SB1=some (⟨#[114,111,117,110,100,32,49,10,98,105,100,32,52,32,55,32,55,55,32,48,32,49,52,32,48,10]⟩,0):=by decide+kernel
theorem snj:a1n [⟨3,1,2,4,7,0,77,0,0,0,0⟩] [⟨3,1,2,4,7,0,77,0,0,0,0⟩]=some true:=by decide+kernel
theorem c2I:a5u=some true:=by
 unfold a5u
 rw [sn1,Option.bind_some]
 dsimp only
 rw [sn2,Option.bind_some]
 dsimp only
 rw [sn3,Option.bind_some]
 dsimp only
 rw [sn4,Option.bind_some]
 dsimp only
 rw [if_neg (by decide),if_neg (by decide),if_neg (by decide),if_neg (by decide),if_neg (by decide),if_neg (by decide)]
 rw [show idx SB1.Bids 0=some ⟨4,7,77,0,14,false⟩ from rfl,Option.bind_some,if_pos (by decide)]
 rw [show idx SB2.Bids 0=some ⟨4,7,77,0,46,true⟩ from rfl,Option.bind_some]
 rw [snj,Option.bind_some,sn5,Option.bind_some]
 dsimp only
 rw [sn6,Option.bind_some]
 dsimp only
 rw [sn7,Option.bind_some]
 dsimp only
 rw [sn8,Option.bind_some]
 dsimp only
 rw [sn9,Option.bind_some]
 dsimp only
 rw [snh,Option.bind_some]
 dsimp only
 rw [sni,Option.bind_some]
 dsimp only
 rw [if_pos (by decide),if_pos (by decide),if_pos (by decide),if_pos (by decide),if_pos (by decide),if_pos (by decide),if_pos (by decide),if_pos (by decide),if_pos (by decide),if_pos (by decide),if_pos (by decide),if_pos (by decide)]
 rw [beq_self_eq_true]
end Go.Proofs.YtcedmbakcchkiaaGreatDoor
namespace Go.Proofs.YtcedmbakcchkiaaGreatDoor
open Go Go.Sx
open Classical
structure To3 (C:List b9) (a b c:Int):Prop where
 a:a≠0→∃k,a1c C 0 k a
 b:b≠0→∃k,a1c C 1 k b
 c:c≠0→∃k,a1c C 2 k c
theorem c0O {w:i4} (h:Inv w.calls w.all) (ht:To3 w.calls w.told.1 w.told.2.1 w.told.2.2):∃a b c,P8 w=some (⟨w.all,w.calls,(a,b,c)⟩,true)∧To3 w.calls a b c:=by
 have hlen:=h.len
 obtain⟨e,he,a,b,c,rfl,h3⟩:=a6O (body:=Z1 w) (fun st=>∃(n:Nat) (a b c:Int),st=((n:Int),a,b,c)∧n≤3∧To3 w.calls a b c) (fun st=>(3-st.1).toNat) (fun e=>∃a b c,e= .inl (3,a,b,c)∧To3 w.calls a b c) (by
  rintro _ ⟨n,a,b,c,rfl,hn,h3⟩
  unfold Z1
  by_cases hlt:n<3
  · right
    have h1:((n:Int)<3)=True:=eq_true (by omega)
    have hms:Y4 w.all (n:Int)=some ((w.all.flatMap (a1q (n:Int))).foldl a5e [],0):=by
     rw [b6C _ (by omega)]
     unfold b1R
     rw [if_pos h.all,if_pos (by omega)]
    simp only [h1,decide_true,if_true,hms,Option.bind_some,bne_self_eq_false,Bool.false_eq_true,if_false,W_s (show n<9223372036854775807 by omega)]
    rcases h.musters (n:Int)with e|⟨v,k,e,hv⟩
    · rw [e]
      exact⟨(((n+1:Nat):Int),a,b,c),by simp,⟨n+1,a,b,c,rfl,by omega,h3⟩,by simp only;omega⟩
    · rw [e]
      have hcase:n=0∨n=1∨n=2:=by omega
      rcases hcase with rfl|rfl|rfl
      · refine⟨(((0+1:Nat):Int),v,b,c), ?_,⟨0+1,v,b,c,rfl,by omega,⟨fun _=>⟨k,hv⟩,h3.b,h3.c⟩⟩,by simp⟩
        by_cases q:a=0
        · subst q;simp [gd,idx]
        · obtain⟨k',hk'⟩:=h3.a q
          have:a=v:=h.g.once hk' hv
          subst this
          simp [gd,idx,q]
      · refine⟨(((1+1:Nat):Int),a,v,c), ?_,⟨1+1,a,v,c,rfl,by omega,⟨h3.a,fun _=>⟨k,hv⟩,h3.c⟩⟩,by simp⟩
        by_cases q:b=0
        · subst q;simp [gd,idx]
        · obtain⟨k',hk'⟩:=h3.b q
          have:b=v:=h.g.once hk' hv
          subst this
          simp [gd,idx,q]
      · refine⟨(((2+1:Nat):Int),a,b,v), ?_,⟨2+1,a,b,v,rfl,by omega,⟨h3.a,h3.b,fun _=>⟨k,hv⟩⟩⟩,by simp⟩
        by_cases q:c=0
        · subst q;simp [gd,idx]
        · obtain⟨k',hk'⟩:=h3.c q
          have:c=v:=h.g.once hk' hv
          subst this
          simp [gd,idx,q]
  · left
    obtain rfl:n=3:=by omega
    exact⟨.inl (3,a,b,c),by simp,a,b,c,rfl,h3⟩) (0,w.told.1,w.told.2.1,w.told.2.2) ⟨0,_,_,_,rfl,by omega,ht⟩ (by simp only [a4v];omega)
 have inner:∀(th:Nat),6≤th→th<24→∃j,A5 (N8 w a b c (th:Int)) 0=some (.inl j):=fun th t1 t2=>by
  have hs:=a1S (body:=N8 w a b c (th:Int)) 4 (by omega) (fun _=>none) 0 (by omega) (fun i _ i2=>by
   unfold N8
   have h1:((i:Int)<4)=True:=eq_true (by omega)
   have hw:W (137*(i:Int))=137*(i:Int):=a2v (by omega)
   have hws:a0J w.all (th:Int) (137*(i:Int))=some (w.all.flatMap (a5m (th:Int) (137*(i:Int))),0):=by
    rw [c0X _ (by omega)]
    unfold b7N
    rw [if_pos h.all,if_pos (by omega),if_pos (by omega)]
   have hl:=h.where_ (th:Int) (137*(i:Int))
   have h2:¬((w.all.flatMap (a5m (th:Int) (137*(i:Int)))).length:Int)>1:=by omega
   simp only [h1,decide_true,if_true,hw,hws,Option.bind_some,bne_self_eq_false,Bool.false_eq_true,if_false,h2,decide_false,W_s (show i<9223372036854775807 by omega)]) (by simp [N8])
  rw [show((0:Nat):Int)=0 from rfl]at hs
  rw [hs,a2J _ _ (fun _ _ _=>rfl)]
  exact⟨_,rfl⟩
 have outer:∃j,A5 (O1 w a b c) 6=some (.inl j):=by
  have hs:=a1S (body:=O1 w a b c) 24 (by omega) (fun _=>none) 6 (by omega) (fun i i1 i2=>by
   unfold O1
   have h1:((i:Int)<24)=True:=eq_true (by omega)
   obtain⟨j,hj⟩:=inner i i1 i2
   simp only [h1,decide_true,if_true,hj,Option.bind_some,W_s (show i<9223372036854775807 by omega)]) (by simp [O1])
  rw [show((6:Nat):Int)=6 from rfl]at hs
  rw [hs,a2J _ _ (fun _ _ _=>rfl)]
  exact⟨_,rfl⟩
 obtain⟨j,hj⟩:=outer
 refine⟨a,b,c, ?_,h3⟩
 unfold P8
 rw [he]
 simp only [Option.bind_some,hj]
def w0:i4:=⟨[⟨0,S0,S0⟩,⟨1,S0,S0⟩,⟨2,S0,S0⟩,⟨3,S0,S0⟩,⟨4,S0,S0⟩,⟨5,S0,S0⟩], [],(0,0,0)⟩
theorem c2g:a6w=some (w0,true):=by decide+kernel
theorem J0 (i:Int):J [] i S0 where
 p1:=fun c hc=>by cases hc
 p3:=fun c hc=>by cases hc
 p4:=fun c hc=>by cases hc
 p7:=fun c hc=>by cases hc
 p8:=fun c hc=>by cases hc
 p9:=fun c hc=>by cases hc
 l1:=fun c hc=>by cases hc
 l2:=fun c hc=>by cases hc
 l3:=fun c hc=>by cases hc
theorem c3D (k:Nat) (x:a8) (h:w0.all[k]?=some x):k≤5∧x=⟨(k:Int),S0,S0⟩:=by
 have hk:=(List.getElem?_eq_some_iff.1 h).1
 have hk:k<6:=hk
 have hc:k=0∨k=1∨k=2∨k=3∨k=4∨k=5:=by omega
 rcases hc with rfl|rfl|rfl|rfl|rfl|rfl<;>exact⟨by omega,(Option.some.inj h).symm⟩
theorem c7c:Inv w0.calls w0.all:=by
 have hm:∀x,x∈w0.all→∃k:Nat,k≤5∧x=⟨(k:Int),S0,S0⟩:=fun x hx=>by
  obtain⟨k,hk,e⟩:=List.getElem_of_mem hx
  have:=c3D k x (by rw [List.getElem?_eq_getElem hk,e])
  exact⟨k,this⟩
 have hof:∀x s,x∈w0.all→Of x s→s=S0:=fun x s hx hs=>by
  obtain⟨k,_,rfl⟩:=hm x hx
  rcases hs with e|e<;>exact e
 exact {
  len:=rfl
  me:=fun k x hx=>by rw [(c3D k x hx).2]
  v:=fun x hx=>by
   obtain⟨k,hk,rfl⟩:=hm x hx
   have:=vs0 (me:=(k:Int)) (by omega)
   exact⟨this,this⟩
  g:= {
   ok:=fun c hc=>by cases hc
   g2:=fun c hc=>by cases hc
   g5:=fun c hc=>by cases hc
   gb:=fun c hc=>by cases hc
   g6:=fun c hc=>by cases hc
   g8:=fun c hc=>by cases hc}
  j:=fun x hx s hs=>by rw [hof x s hx hs];exact J0 _
  l:=fun x hx d _ s hs t _ y hy=>by rw [hof x s hx hs]at hy;cases hy}
theorem To3.mono {C C':List b9} (h:Sub C C') {a b c:Int} (t:To3 C a b c):To3 C' a b c:=
 ⟨fun q=>(t.a q).imp fun _=>a1c.mono h,fun q=>(t.b q).imp fun _=>a1c.mono h,fun q=>(t.c q).imp fun _=>a1c.mono h⟩
theorem b2W (l:List a1A) (h:(l.length*72≤reachBytes∧l.length≤maxLen∧∀y:a1A,y∈l→a1A.G y)):a2N l=some true:=by
 have hll:l.length≤9223372036854775807:=h.2.1
 obtain⟨e,he,n,w,rfl,hinv,ht⟩:=a6O (body:=W9 l) (fun st=>∃(n:Nat) (w:i4),st=(true,(n:Int),w.all,w.calls,w.told.1,w.told.2.1,w.told.2.2)∧(n≤50∧n≤l.length)∧Inv w.calls w.all∧To3 w.calls w.told.1 w.told.2.1 w.told.2.2∧w.calls.length≤6000*n) (fun st=>(50-st.2.1).toNat) (fun st=>∃(n:Nat) (w:i4),st=(true,(n:Int),w.all,w.calls,w.told.1,w.told.2.1,w.told.2.2)∧Inv w.calls w.all∧To3 w.calls w.told.1 w.told.2.1 w.told.2.2) (by
  rintro _ ⟨n,w,rfl,⟨hn,hnl⟩,hinv,ht,hc⟩
  unfold W9
  by_cases h1:n<l.length
  · by_cases h2:n<50
    · right
      have e1:((n:Int)<(l.length:Int))=True:=eq_true (by omega)
      have e2:((n:Int)<50)=True:=eq_true (by omega)
      obtain⟨w',hw,hx⟩:=c4e (w:=w) l[n] hinv (by omega)
      have hw:a0o ⟨w.all,w.calls,(w.told.1,w.told.2.1,w.told.2.2)⟩ l[n]=some (w',true):=hw
      have ht':To3 w'.calls w'.told.1 w'.told.2.1 w'.told.2.2:=by rw [hx.told];exact ht.mono hx.sub
      have hl':=hx.len
      simp only [e1,e2,decide_true,if_true,P7 (List.getElem?_eq_getElem h1),Option.bind_some,hw,W_s (show n<9223372036854775807 by omega)]
      obtain⟨a,b,c,h1',h3'⟩:=c0O hx.inv ht'
      by_cases q1:(((n:Int).tmod 5)==4)=true
      · refine⟨(true,((n+1:Nat):Int),w'.all,w'.calls,a,b,c),by simp only [q1,if_true,h1',Option.bind_some],⟨n+1,⟨w'.all,w'.calls,(a,b,c)⟩,rfl,⟨by omega,by omega⟩,hx.inv,h3',by show w'.calls.length≤_;omega⟩,by simp only;omega⟩
      · by_cases q2:((n:Int)==(W ((l.length:Int)-1)))=true
        · refine⟨(true,((n+1:Nat):Int),w'.all,w'.calls,a,b,c),by simp only [q1,q2,if_true,h1',Option.bind_some,Bool.false_eq_true,if_false],⟨n+1,⟨w'.all,w'.calls,(a,b,c)⟩,rfl,⟨by omega,by omega⟩,hx.inv,h3',by show w'.calls.length≤_;omega⟩,by simp only;omega⟩
        · exact⟨(true,((n+1:Nat):Int),w'.all,w'.calls,w'.told.1,w'.told.2.1,w'.told.2.2),by simp only [q1,q2,Bool.false_eq_true,if_false],⟨n+1,w',rfl,⟨by omega,by omega⟩,hx.inv,ht',by omega⟩,by simp only;omega⟩
    · left
      have e1:((n:Int)<(l.length:Int))=True:=eq_true (by omega)
      have e2:((n:Int)<50)=False:=eq_false (by omega)
      exact⟨_,by simp only [e1,e2,decide_true,decide_false,if_true,Bool.false_eq_true,if_false],n,w,rfl,hinv,ht⟩
  · left
    have e1:((n:Int)<(l.length:Int))=False:=eq_false (by omega)
    exact⟨_,by simp only [e1,decide_false,Bool.false_eq_true,if_false],n,w,rfl,hinv,ht⟩) (true,0,w0.all,w0.calls,w0.told.1,w0.told.2.1,w0.told.2.2) ⟨0,w0,rfl,⟨by omega,by omega⟩,c7c,⟨fun q=>absurd rfl q,fun q=>absurd rfl q,fun q=>absurd rfl q⟩,by simp [w0]⟩ (by simp only [a4v];omega)
 unfold a2N
 rw [c2g]
 simp only [Option.bind_some]
 rw [he]
 obtain⟨a,b,c,h1,_⟩:=c0O hinv ht
 have h1:P8 ⟨w.all,w.calls,(w.told.1,w.told.2.1,w.told.2.2)⟩=some (⟨w.all,w.calls,(a,b,c)⟩,true):=h1
 simp only [Option.bind_some,if_true,h1,c2I]
end Go.Proofs.YtcedmbakcchkiaaGreatDoor
