/- What may be read at the types of the statement's parameters; plain facts. -/
import Derived.Test.YtcedmbakcchkiaaGreatDoorL2
set_option linter.unusedVariables false
set_option linter.unusedSimpArgs false
namespace Go.Proofs.YtcedmbakcchkiaaGreatDoor
open Go Go.RowKit Go.Sx
def a0j.G (x:a0j):Prop:=InK .i64 x.Kind∧InK .i64 x.Depot∧InK .i64 x.Night∧InK .i64 x.Value∧InK .i64 x.Thing∧InK .i64 x.To∧InK .i64 x.From∧InK .i64 x.Long∧InK .i64 x.Pick
theorem c0P:I9 Tryz.prog 63 a0j.c a0j.G:=
 (I9.struct Tryz.underlying63 (U1.cons (s:=1) (I9.int Tryz.underlying3) (U1.cons (s:=1) (I9.int Tryz.underlying3) (U1.cons (s:=1) (I9.int Tryz.underlying3) (U1.cons (s:=1) (I9.int Tryz.underlying3) (U1.cons (s:=1) (I9.int Tryz.underlying3) (U1.cons (s:=1) (I9.int Tryz.underlying3) (U1.cons (s:=1) (I9.int Tryz.underlying3) (U1.cons (s:=1) (I9.int Tryz.underlying3) (U1.last (s:=1) (I9.int Tryz.underlying3) rfl (by kernel_rfl) rfl) rfl (by kernel_rfl)) rfl (by kernel_rfl)) rfl (by kernel_rfl)) rfl (by kernel_rfl)) rfl (by kernel_rfl)) rfl (by kernel_rfl)) rfl (by kernel_rfl)) rfl (by kernel_rfl)) (by kernel_rfl)).iso (fun x=>(⟨x.1,x.2.1,x.2.2.1,x.2.2.2.1,x.2.2.2.2.1,x.2.2.2.2.2.1,x.2.2.2.2.2.2.1,x.2.2.2.2.2.2.2.1,x.2.2.2.2.2.2.2.2⟩:a0j)) (fun _=>rfl) (fun _ h=>h)
end Go.Proofs.YtcedmbakcchkiaaGreatDoor
namespace Go.Proofs.YtcedmbakcchkiaaGreatDoor
open Go Go.Sx
theorem a0p {z:Int} (h: -9223372036854775808≤z∧z≤9223372036854775807):W z=z:=b5p h
theorem W_s {k:Nat} (h:k<9223372036854775807):W ((k:Int)+1)=((k+1:Nat):Int):=c1c h
def a9M {R:Type} (q:Nat→Option R):Nat→Nat→Sum Nat R
 |k,0=> .inl k
 |k,m+1=>match q k with|none=>a9M q (k+1) m|some r=> .inr r
theorem a1u {R:Type} {body:Int→Option (Sum Int (Sum Int R))} (n:Nat) (hn:n≤9223372036854775807) (q:Nat→Option R) (k:Nat) (hk:k≤n)
 (h:∀i,k≤i→i<n→body (i:Int)=some (match q i with|none=> .inl ((i+1:Nat):Int)|some r=> .inr (.inr r)))
 (he:body (n:Int)=some (.inr (.inl (n:Int)))):
 u3 body (k:Int)=some (match a9M q k (n-k)with| .inl j=> .inl (j:Int)| .inr r=> .inr r):=by
 have key:∀(m k N:Nat),k+m=n→m<N→(∀i,k≤i→i<n→body (i:Int)=some (match q i with|none=> .inl ((i+1:Nat):Int)|some r=> .inr (.inr r)))→
  a0x body N (k:Int)=some (match a9M q k m with| .inl j=> .inl (j:Int)| .inr r=> .inr r):=by
  intro m
  induction m with
  |zero=>
   intro k N hkm hN _
   cases N with
   |zero=>omega
   |succ N=>
    have:k=n:=by omega
    subst this
    simp only [a0x,he,a9M]
  |succ m ih=>
   intro k N hkm hN hb
   cases N with
   |zero=>omega
   |succ N=>
    simp only [a0x,hb k (Nat.le_refl _) (by omega),a9M]
    cases hq:q k with
    |none=>exact ih (k+1) N (by omega) (by omega) (fun i h1 h2=>hb i (by omega) h2)
    |some r=>rfl
 exact key (n-k) k a4m (by omega) (by unfold a4m;omega) h
theorem a2d {R:Type} {q:Nat→Option R}:∀(m k:Nat),(∀i,k≤i→i<k+m→q i=none)→a9M q k m= .inl (k+m)
 |0,k,_=>rfl
 |m+1,k,h=>by
  simp only [a9M,h k (Nat.le_refl _) (by omega)]
  rw [a2d m (k+1) (fun i h1 h2=>h i (by omega) (by omega))]
  congr 1;omega
theorem a5j {R:Type} {q:Nat→Option R}:∀(m k i:Nat),k≤i→i<k+m→q i≠none→∃j r,k≤j∧j<k+m∧q j=some r∧a9M q k m= .inr r
 |0,k,i,h1,h2,_=>by omega
 |m+1,k,i,h1,h2,h3=>by
  cases hq:q k with
  |some r=>exact⟨k,r,Nat.le_refl _,by omega,hq,by simp only [a9M,hq]⟩
  |none=>
   have:k≠i:=fun e=>h3 (e▸hq)
   obtain⟨j,r,a,b,c,d⟩:=a5j m (k+1) i (by omega) (by omega) h3
   exact⟨j,r,by omega,by omega,c,by simp only [a9M,hq,d]⟩
theorem b7Z {body:Int→Option (Sum Int (Sum Int Bool))} (n:Nat) (hn:n≤9223372036854775807) (q:Nat→Prop) [DecidablePred q] (k:Nat) (hk:k≤n)
 (h:∀i,k≤i→i<n→body (i:Int)=some (if q i then .inl ((i+1:Nat):Int)else .inr (.inr false)))
 (he:body (n:Int)=some (.inr (.inl (n:Int)))) (ans:Bool) (hb:ans=true↔∀i,k≤i→i<n→q i):
 (u3 body (k:Int)).bind (fun e=>match e with| .inl _=>some true| .inr r=>some r)=some ans:=by
 rw [a1u n hn (fun i=>if q i then none else some false) k hk (fun i h1 h2=>by rw [h i h1 h2];by_cases hq:q i<;>simp [hq]) he]
 by_cases hall:∀i,k≤i→i<n→q i
 · rw [a2d _ _ (fun i h1 h2=>by simp [hall i h1 (by omega)])]
   simp only [Option.bind_some,hb.2 hall]
 · have:∃i,k≤i∧i<n∧¬q i:=by
    refine Classical.byContradiction fun hn2=>hall fun i h1 h2=>Classical.byContradiction fun h3=>hn2 ⟨i,h1,h2,h3⟩
   obtain⟨i,h1,h2,h3⟩:=this
   obtain⟨j,r,a,b,c,d⟩:=a5j (q:=fun i=>if q i then none else some false) (n-k) k i h1 (by omega) (by simp [h3])
   have hr:r=false:=by
    by_cases hqj:q j
    · simp [hqj]at c
    · simpa [hqj]using c.symm
   rw [d,hr]
   have:ans=false:=by cases ans with|true=>exact absurd (hb.1 rfl) hall|false=>rfl
   simp only [Option.bind_some,this]
theorem b7h {body:Int→Option (Sum Int (Sum Int Bool))} (n:Nat) (hn:n≤9223372036854775807) (q:Nat→Prop) (k:Nat) (hk:k≤n)
 (h:∀i,k≤i→i<n→(q i∧body (i:Int)=some (.inl ((i+1:Nat):Int)))∨(¬q i∧body (i:Int)=some (.inr (.inr false))))
 (he:body (n:Int)=some (.inr (.inl (n:Int)))) (ans:Bool) (hb:ans=true↔∀i,k≤i→i<n→q i):
 (u3 body (k:Int)).bind (fun e=>match e with| .inl _=>some true| .inr r=>some r)=some ans:=by
 letI:DecidablePred q:=fun _=>Classical.propDecidable _
 exact b7Z n hn q k hk (fun i h1 h2=>by rcases h i h1 h2 with⟨a,b⟩|⟨a,b⟩<;>simp only [b,a,if_true,if_false]) he ans hb
theorem b2g {α:Type} (l:List α) (hl:l.length≤9223372036854775807) (P:α→Option Bool) (p:α→Bool) (hP:∀x,x∈l→P x=some (p x)):
 (Option.bind (Option.bind (u3 (fun(v:Int)=>if(decide (v<(l.length:Int)))=true then Option.bind (idx l v) fun e=>Option.bind (P e) fun x=>if x=true then some (.inr (.inr v))else some (.inl (W (v+1)))else some (.inr (.inl v))) 0)
  fun(e:Sum Int Int)=>match e with| .inl _=>some (-1)| .inr r=>some r) fun x=>some (decide (x≥0)))=some (l.any p):=by
 have hs:=a1u (body:=fun(v:Int)=>if(decide (v<(l.length:Int)))=true then Option.bind (idx l v) fun e=>Option.bind (P e) fun x=>if x=true then some (.inr (.inr v))else some (.inl (W (v+1)))else some (.inr (.inl v)))
  l.length hl (fun i=>match l[i]? with|some x=>if p x then some (i:Int)else none|none=>none) 0 (Nat.zero_le _) (fun i _ h2=>by
   have hx:idx l (i:Int)=some l[i]:=by simp [idx,h2]
   have hlt:((i:Int)<(l.length:Int)):=by omega
   simp only [hlt,decide_true,if_true,hx,Option.bind_some,hP _ (List.getElem_mem h2),List.getElem?_eq_getElem h2]
   by_cases hp:p l[i]=true
   · simp [hp]
   · simp [hp];exact W_s (by omega)) (by simp)
 rw [show((0:Int))=((0:Nat):Int) from rfl,hs]
 by_cases hany:l.any p=true
 · rw [hany]
   obtain⟨x,hx,hpx⟩:=List.any_eq_true.1 hany
   obtain⟨i,hi,rfl⟩:=List.getElem_of_mem hx
   obtain⟨j,r,a,b,c,d⟩:=a5j (q:=fun i=>match l[i]? with|some x=>if p x then some (i:Int)else none|none=>none) (l.length-0) 0 i (Nat.zero_le _) (by omega) (by simp [List.getElem?_eq_getElem hi,hpx])
   rw [d]
   have hj:j<l.length:=by omega
   simp only [List.getElem?_eq_getElem hj]at c
   split at c
   · simp only [Option.some.injEq]at c
     subst c
     simp
   · cases c
 · rw [a2d _ _ (fun i _ h2=>by
    have hi:i<l.length:=by omega
    simp only [List.getElem?_eq_getElem hi]
    rw [if_neg]
    intro hp
    exact hany (List.any_eq_true.2 ⟨l[i],List.getElem_mem hi,hp⟩))]
   simp [Bool.not_eq_true _▸hany]
end Go.Proofs.YtcedmbakcchkiaaGreatDoor
namespace Go.Proofs.YtcedmbakcchkiaaGreatDoor
open Go Go.Sx
open Classical
def Ans (m:Option Bool) (P:Prop):Prop:=∃b,m=some b∧(b=true↔P)
theorem Ans.eq {m:Option Bool} {P:Prop} (h:Ans m P):m=some (decide P):=by
 obtain⟨b,rfl,hb⟩:=h
 congr 1
 by_cases hp:P
 · rw [hb.2 hp];simp [hp]
 · have:b=false:=by cases b with|false=>rfl|true=>exact absurd (hb.1 rfl) hp
   rw [this];simp [hp]
theorem Ans.of {P:Prop} [Decidable P]:Ans (some (decide P)) P:=⟨_,rfl,by simp⟩
theorem Ans.ofb {b:Bool} {P:Prop} (h:b=true↔P):Ans (some b) P:=⟨b,rfl,h⟩
theorem Ans.yes {P:Prop} (h:P):Ans (some true) P:=⟨_,rfl,by simp [h]⟩
theorem Ans.no {P:Prop} (h:¬P):Ans (some false) P:=⟨_,rfl,by simp [h]⟩
theorem Ans.iff {m:Option Bool} {P Q:Prop} (h:Ans m P) (e:P↔Q):Ans m Q:=by
 obtain⟨b,hm,hb⟩:=h
 exact⟨b,hm,hb.trans e⟩
theorem Ans.id {m:Option Bool} {P:Prop} (h:Ans m P):Ans (Option.bind m fun x=>some x) P:=by
 obtain⟨b,rfl,hb⟩:=h
 exact⟨b,rfl,hb⟩
theorem Ans.not {m:Option Bool} {P:Prop} (h:Ans m P):Ans (Option.bind m fun x=>some (!x)) (¬P):=by
 obtain⟨b,rfl,hb⟩:=h
 exact⟨!b,rfl,by rw [←hb];simp⟩
theorem Ans.and {m n:Option Bool} {P Q:Prop} (h:Ans m P) (k:P→Ans n Q):Ans (Option.bind m fun x=>if x=true then n else some false) (P∧Q):=by
 obtain⟨b,rfl,hb⟩:=h
 by_cases hp:P
 · obtain⟨c,rfl,hc⟩:=k hp
   exact⟨c,by simp [hb.2 hp],by simp [hp,hc]⟩
 · have:b=false:=by cases b with|false=>rfl|true=>exact absurd (hb.1 rfl) hp
   exact⟨false,by simp [this],by simp [hp]⟩
theorem Ans.nand {m n:Option Bool} {P Q:Prop} (h:Ans m P) (k:P→Ans n Q):Ans (Option.bind m fun x=>if(!x)=true then some false else n) (P∧Q):=by
 obtain⟨b,rfl,hb⟩:=h
 by_cases hp:P
 · obtain⟨c,rfl,hc⟩:=k hp
   exact⟨c,by simp [hb.2 hp],by simp [hp,hc]⟩
 · have:b=false:=by cases b with|false=>rfl|true=>exact absurd (hb.1 rfl) hp
   exact⟨false,by simp [this],by simp [hp]⟩
theorem Ans.ite {n:Option Bool} {b:Bool} {P Q:Prop} (h:b=true↔P) (k:P→Ans n Q):Ans (if b=true then n else some false) (P∧Q):=Ans.and (m:=some b) (Ans.ofb h) k
def jn (i:Int) (b:Bool):Option (Sum Int (Sum Int Bool)):=if b=true then some (.inl (W (i+1)))else some (.inr (.inr false))
def Rnd (i:Int) (m:Option (Sum Int (Sum Int Bool))) (P:Prop):Prop:=∃b,m=jn i b∧(b=true↔P)
theorem Rnd.go {i:Int} {P:Prop} (h:P):Rnd i (some (.inl (W (i+1)))) P:=⟨true,rfl,by simp [h]⟩
theorem Rnd.end {i:Int} {P:Prop} (h:¬P):Rnd i (some (.inr (.inr false))) P:=⟨false,rfl,by simp [h]⟩
theorem Rnd.iff {i:Int} {m:Option (Sum Int (Sum Int Bool))} {P Q:Prop} (h:Rnd i m P) (e:P↔Q):Rnd i m Q:=by
 obtain⟨b,hm,hb⟩:=h
 exact⟨b,hm,hb.trans e⟩
theorem Rnd.nand {i:Int} {m:Option Bool} {n:Option (Sum Int (Sum Int Bool))} {P Q:Prop} (h:Ans m P) (k:P→Rnd i n Q):Rnd i (Option.bind m fun x=>if(!x)=true then some (.inr (.inr false))else n) (P∧Q):=by
 obtain⟨b,rfl,hb⟩:=h
 by_cases hp:P
 · obtain⟨c,rfl,hc⟩:=k hp
   exact⟨c,by simp [hb.2 hp],by simp [hp,hc]⟩
 · have:b=false:=by cases b with|false=>rfl|true=>exact absurd (hb.1 rfl) hp
   exact⟨false,by simp [this];rfl,by simp [hp]⟩
theorem Rnd.and {i:Int} {m:Option Bool} {n:Option (Sum Int (Sum Int Bool))} {P Q:Prop} (h:Ans m P) (k:¬P→Rnd i n Q):Rnd i (Option.bind m fun x=>if x=true then some (.inr (.inr false))else n) (¬P∧Q):=by
 obtain⟨b,rfl,hb⟩:=h
 by_cases hp:P
 · exact⟨false,by simp [hb.2 hp];rfl,by simp [hp]⟩
 · obtain⟨c,rfl,hc⟩:=k hp
   have:b=false:=by cases b with|false=>rfl|true=>exact absurd (hb.1 rfl) hp
   exact⟨c,by simp [this],by simp [hp,hc]⟩
theorem Rnd.ite {i:Int} {b:Bool} {n:Option (Sum Int (Sum Int Bool))} {P Q:Prop} (h:b=true↔¬P) (k:P→Rnd i n Q):Rnd i (if b=true then some (.inr (.inr false))else n) (P∧Q):=by
 by_cases hp:P
 · obtain⟨c,rfl,hc⟩:=k hp
   have:b=false:=by cases b with|false=>rfl|true=>exact absurd hp (h.1 rfl)
   exact⟨c,by simp [this],by simp [hp,hc]⟩
 · exact⟨false,by simp [h.2 hp];rfl,by simp [hp]⟩
theorem Rnd.get {i:Int} {α:Type} {l:List α} {j:Nat} (hj:j<l.length) {n:α→Option (Sum Int (Sum Int Bool))} {P:Prop} (h:Rnd i (n l[j]) P):Rnd i (Option.bind (idx l (j:Int)) n) P:=by
 have:Sx.idx l (j:Int)=some l[j]:=by simp [Sx.idx,hj]
 rw [this];exact h
theorem b3U {body:Int→Option (Sum Int (Sum Int Bool))} (n:Nat) (hn:n≤9223372036854775807) (q:Nat→Prop) (k:Nat) (hk:k≤n) (h:∀i:Nat,k≤i→i<n→Rnd (i:Int) (body (i:Int)) (q i))
 (he:body (n:Int)=some (.inr (.inl (n:Int)))):
 Ans ((u3 body (k:Int)).bind fun e=>match e with| .inl _=>some true| .inr r=>some r) (∀i,k≤i→i<n→q i):=by
 refine⟨decide (∀i,k≤i→i<n→q i), ?_,by simp⟩
 refine b7h n hn q k hk (fun i h1 h2=> ?_) he _ (by simp)
 obtain⟨b,hb,hq⟩:=h i h1 h2
 have hw:W ((i:Int)+1)=((i+1:Nat):Int):=W_s (by omega)
 cases b with
 |true=>exact .inl ⟨hq.1 rfl,by rw [hb];simp [jn,hw]⟩
 |false=>exact .inr ⟨fun h=>by simpa using hq.2 h,by rw [hb];rfl⟩
def Lp (m:Option (Sum Int Bool)) (P:Prop):Prop:=(P∧∃j,m=some (.inl j))∨(¬P∧m=some (.inr false))
theorem Lp.iff {m:Option (Sum Int Bool)} {P Q:Prop} (h:Lp m P) (e:P↔Q):Lp m Q:=by
 rcases h with⟨h,h'⟩|⟨h,h'⟩
 · exact .inl ⟨e.1 h,h'⟩
 · exact .inr ⟨fun q=>h (e.2 q),h'⟩
theorem Ans.loop {m:Option (Sum Int Bool)} {n:Option Bool} {P Q:Prop} (h:Lp m P) (k:P→Ans n Q):Ans (m.bind fun e=>match e with| .inl _=>n| .inr r=>some r) (P∧Q):=by
 rcases h with⟨h,j,rfl⟩|⟨h,rfl⟩
 · obtain⟨b,hb,hq⟩:=k h
   exact⟨b,hb,by simp [h,hq]⟩
 · exact⟨false,rfl,by simp [h]⟩
theorem Ans.lp {m:Option (Sum Int Bool)} {P:Prop} (h:Lp m P):Ans (m.bind fun e=>match e with| .inl _=>some true| .inr r=>some r) P:=(Ans.loop (Q:=True) h fun _=> .yes trivial).iff (by simp)
theorem b5Q {body:Int→Option (Sum Int (Sum Int Bool))} (n:Nat) (hn:n≤9223372036854775807) (q:Nat→Prop) (h:∀i:Nat,i<n→Rnd (i:Int) (body (i:Int)) (q i))
 (he:body (n:Int)=some (.inr (.inl (n:Int)))):Lp (u3 body 0) (∀i,i<n→q i):=by
 by_cases hall:∀i,i<n→q i
 · have hs:=a1u (body:=body) n hn (fun _=>(none:Option Bool)) 0 (Nat.zero_le _) (fun i _ h2=>by
    obtain⟨b,hb,hq⟩:=h i h2
    rw [hb,hq.2 (hall i h2)];simp only [jn,if_true];rw [W_s (by omega)]) he
   rw [a2d _ _ (fun _ _ _=>rfl)]at hs
   exact .inl ⟨hall,_,hs⟩
 · refine .inr ⟨hall, ?_⟩
   have h2:=b3U n hn q 0 (Nat.zero_le _) (fun i _ h2=>h i h2) he
   have h3:=h2.eq
   rw [decide_eq_false (fun h=>hall fun i hi=>h i (Nat.zero_le _) hi)]at h3
   rw [show((0:Int))=((0:Nat):Int) from rfl]
   cases hl:u3 body ((0:Nat):Int)with
   |none=>rw [hl]at h3;cases h3
   |some e=>
    rw [hl]at h3
    cases e with
    |inl x=>simp at h3
    |inr r=>simp at h3;rw [h3]
theorem Rnd.loop {j:Int} {m:Option (Sum Int Bool)} {P:Prop} (h:Lp m P):Rnd j (m.bind fun e=>match e with| .inl _=>some (.inl (W (j+1)))| .inr r=>some (.inr (.inr r))) P:=by
 rcases h with⟨h,_,rfl⟩|⟨h,rfl⟩
 · exact .go h
 · exact .end h
theorem P4 {α:Type} (l:List α) (hl:l.length≤9223372036854775807) (P:α→Option Bool) (Q:α→Prop) (hP:∀x,x∈l→Ans (P x) (Q x)):
 Ans (Option.bind (Option.bind (u3 (fun(v:Int)=>if(decide (v<(l.length:Int)))=true then Option.bind (idx l v) fun e=>Option.bind (P e) fun x=>if x=true then some (.inr (.inr v))else some (.inl (W (v+1)))else some (.inr (.inl v))) 0)
  fun(e:Sum Int Int)=>match e with| .inl _=>some (-1)| .inr r=>some r) fun x=>some (decide (x≥0))) (∃x,x∈l∧Q x):=
 ⟨_,b2g l hl P (fun x=>decide (Q x)) (fun x hx=>(hP x hx).eq),by simp⟩
theorem a9l {α:Type} {l:List α} {most:Int} {C:Option Bool} {ok:α→Prop} (hC:l.length≤9223372036854775807→Ans C (∃x,x∈l∧¬ok x)) (hm:most≤9223372036854775807):
 Ans (if(decide ((l.length:Int)≤most))=true then Option.bind C fun x=>some (!x)else some false) ((l.length:Int)≤most∧∀x,x∈l→ok x):=
 Ans.ite (by simp) fun h=>(hC (by omega)).not.iff (by simp)
def Q4 {α:Type} (f:α→α→Prop) (l:List α):Prop:=∀i a b,l[i]?=some a→l[i+1]?=some b→f a b
theorem a8w {α:Type} (l:List α) (hl:l.length≤9223372036854775807) (cmp:α→α→Option Int) (c:α→α→Int) (f:α→α→Prop) (hc:∀a b,cmp a b=some (c a b)) (hf:∀a b,c a b<0↔f a b):
 Ans (Option.bind (u3 (fun(i:Int)=>if(decide (i<(l.length:Int)))=true then Option.bind (idx l (W (i-1))) fun a=>Option.bind (idx l i) fun b=>Option.bind (cmp a b) fun x=>
  if(decide (x≥0))=true then some (.inr (.inr false))else some (.inl (W (i+1)))else some (.inr (.inl i))) 1) fun(e:Sum Int Bool)=>match e with| .inl _=>some true| .inr r=>some r) (Q4 f l):=by
 by_cases h0:l.length=0
 · refine⟨true, ?_,by simp;intro i a b h1 _;rw [List.getElem?_eq_none (by omega)]at h1;cases h1⟩
   have:=a1u (R:=Bool) (body:=fun(i:Int)=>if(decide (i<(l.length:Int)))=true then Option.bind (idx l (W (i-1))) fun a=>Option.bind (idx l i) fun b=>Option.bind (cmp a b) fun x=>
    if(decide (x≥0))=true then some (.inr (.inr false))else some (.inl (W (i+1)))else some (.inr (.inl i))) 1 (by omega) (fun _=>none) 1 (Nat.le_refl _) (fun i h1 h2=>by omega) (by simp [h0])
   exact(congrArg (fun o=>Option.bind o _) this).trans rfl
 · refine(b3U (body:=fun(i:Int)=>if(decide (i<(l.length:Int)))=true then Option.bind (idx l (W (i-1))) fun a=>Option.bind (idx l i) fun b=>Option.bind (cmp a b) fun x=>
    if(decide (x≥0))=true then some (.inr (.inr false))else some (.inl (W (i+1)))else some (.inr (.inl i))) l.length hl (fun i=>∀a b,l[i-1]?=some a→l[i]?=some b→f a b) 1 (by omega) (fun i h1 h2=> ?_) (by simp)).iff ?_
   · have e1:W ((i:Int)-1)=((i-1:Nat):Int):=by rw [a0p (by omega)];omega
     have e2:idx l ((i-1:Nat):Int)=some (l[i-1]'(by omega)):=by simp [idx,show i-1<l.length by omega]
     have e3:idx l ((i:Nat):Int)=some (l[i]'h2):=by simp [idx,h2]
     have hlt:((i:Int)<(l.length:Int)):=by omega
     simp only [hlt,decide_true,if_true,e1,e2,e3,Option.bind_some,hc]
     rw [List.getElem?_eq_getElem (show i-1<l.length by omega),List.getElem?_eq_getElem h2]
     refine(Rnd.ite (P:=c (l[i-1]'(by omega)) (l[i]'h2)<0) (Q:=True) (by simp) fun _=> .go trivial).iff ?_
     rw [and_true,hf]
     exact⟨fun h a b ha hb=>by cases ha;cases hb;exact h,fun h=>h _ _ rfl rfl⟩
   · constructor
     · intro h i a b ha hb'
       have:i+1<l.length:=by
        rcases Nat.lt_or_ge (i+1) l.length with h|h
        · exact h
        · rw [List.getElem?_eq_none h]at hb';cases hb'
       exact h (i+1) (by omega) this a b (by simpa using ha) hb'
     · intro h i h1 h2 a b ha hb'
       exact h (i-1) a b ha (by rw [Nat.sub_add_cancel h1];exact hb')
theorem P0 (n lo hi:Int):Ans (d4 n lo hi) (lo≤n∧n≤hi):=Ans.ite (by simp) fun _=>Ans.ofb (by simp)
end Go.Proofs.YtcedmbakcchkiaaGreatDoor
namespace Go.Proofs.YtcedmbakcchkiaaGreatDoor
open Go Go.Sx
open Classical
theorem Y0 (n:Int):Ans (r7 n) (0≤n∧n≤5):=(P0 _ _ _).id
theorem a5i (n:Int):Ans (s8 n) (0≤n∧n≤100000):=(P0 _ _ _).id
theorem a5k (n:Int):Ans (d8 n) (1≤n∧n≤1000000):=(P0 _ _ _).id
theorem a5E (n:Int):Ans (u7 n) (6≤n∧n≤59999):=(P0 _ _ _).id
theorem a1Y (n:Int):Ans (u6 n) (1≤n∧n≤99):=(P0 _ _ _).id
theorem P2 (n:Int):Ans (c9 n) (0≤n∧n≤144001439):=(P0 _ _ _).id
theorem b5o (n:Int):Ans (Q5 n) (0≤n∧n≤63):=(P0 _ _ _).id
def qr (n:Int):Bool:=(a1V n).getD false
set_option maxRecDepth 10000 in theorem quorum_f : ∀ n : Fin 64, K3 (n.val : Int) = some (qr (n.val : Int)) ∧ a1V (n.val : Int) = some (qr (n.val : Int)) := by decide +kernel
theorem b1f {n:Int} (h:0≤n∧n≤63):K3 n=some (qr n)∧a1V n=some (qr n):=by
 have:=quorum_f ⟨n.toNat,by omega⟩
 simpa [Int.toNat_of_nonneg h.1]using this
theorem a5u {n:Int} (h:0≤n):n.tmod 6=n % 6:=Int.tmod_eq_emod_of_nonneg h
def a7l (s:b7):Prop:=(0≤s.Night∧s.Night≤100000)∧(6≤s.Promised∧s.Promised≤59999)∧((s.Ballot=0∧s.Value=0)∨((6≤s.Ballot∧s.Ballot≤s.Promised)∧(1≤s.Value∧s.Value≤1000000)))
def b5s (me r:Int) (b:c3):Prop:=(0≤b.Night∧b.Night≤100000)∧(6≤b.Ballot∧b.Ballot≤6*r+me)∧b.Ballot % 6=me∧(1≤b.Value∧b.Value≤1000000)∧(0≤b.Best∧b.Best≤b.Ballot-1)∧(0≤b.Mask∧b.Mask≤63)∧b.Asked=qr b.Mask
def a8C (h:a8):Prop:=(6≤h.Ballot∧h.Ballot≤59999)∧(0≤h.Night∧h.Night≤100000)∧(1≤h.Value∧h.Value≤1000000)∧h.Mask≠0∧(0≤h.Mask∧h.Mask≤63)
def a6h (me:Int) (l:a7):Prop:=(1≤l.Thing∧l.Thing≤99)∧l.Thing % 6=me∧(0≤l.To∧l.To≤5)∧l.To≠me∧(0≤l.From∧l.From≤144001439)∧(0≤l.Until∧l.Until≤144001439)∧l.From≤l.Until
def a9w (me:Int) (l:b8):Prop:=(0≤l.Owner∧l.Owner≤5)∧l.Owner≠me∧(1≤l.No∧l.No≤40)∧(1≤l.Thing∧l.Thing≤99)∧l.Thing % 6=l.Owner∧(0≤l.From∧l.From≤144001439)∧(0≤l.Until∧l.Until≤144001439)∧l.From≤l.Until
def a3n (a b:a7):Prop:=max a.From b.From<min a.Until b.Until
def b2N (a b:b7):Prop:=a.Night<b.Night
def b9o (a b:c3):Prop:=a.Night<b.Night
def a8u (a b:a8):Prop:=a.Ballot<b.Ballot∨(a.Ballot=b.Ballot∧a.Night<b.Night)
def a5W (a b:b8):Prop:=a.Owner<b.Owner∨(a.Owner=b.Owner∧a.No<b.No)
def a7X {α:Type} (f:α→α→Prop) (l:List α):Prop:=∀(i:Nat) x,l[i]?=some x→∀y,y∈l.take i→¬f y x
structure F9 (me:Int) (s:b6):Prop where
 dep:0≤me∧me≤5
 round:0≤s.Round∧s.Round≤9999
 nslots:(s.Slots.length:Int)≤12
 slots:∀x,x∈s.Slots→a7l x
 nbids:(s.Bids.length:Int)≤12
 bids:∀x,x∈s.Bids→b5s me s.Round x
 nheard:(s.Heard.length:Int)≤60
 heard:∀x,x∈s.Heard→a8C x
 nleases:(s.Leases.length:Int)≤40
 leases:∀x,x∈s.Leases→a6h me x
 nloans:(s.Loans.length:Int)≤60
 loans:∀x,x∈s.Loans→a9w me x
 rslots:Q4 b2N s.Slots
 rbids:Q4 b9o s.Bids
 rheard:Q4 a8u s.Heard
 rloans:Q4 a5W s.Loans
 ballots:a7X (fun a b=>a.Ballot=b.Ballot) s.Bids
 nos:∀(i:Nat) x,s.Leases[i]?=some x→x.No=(i:Int)+1
 meets:a7X (fun a b=>a.Thing=b.Thing∧a3n a b) s.Leases
theorem b7Y (s:b7):Ans (a0h s) (a7l s):=by
 have e1:=(a5i s.Night).eq
 have e2:=(a5E s.Promised).eq
 have e3:=(a5k s.Value).eq
 have e4:=(P0 s.Ballot 6 s.Promised).eq
 unfold a0h
 simp only [e1,e2,e3,e4,Option.bind_some]
 refine⟨decide (a7l s), ?_,by simp⟩
 unfold a7l
 by_cases h1:s.Ballot=0<;>by_cases h2:s.Value=0<;>by_cases h3:(0≤s.Night∧s.Night≤100000)<;>by_cases h4:(6≤s.Promised∧s.Promised≤59999)<;>by_cases h5:(6≤s.Ballot∧s.Ballot≤s.Promised)<;>simp [h1,h2,h3,h4,h5]<;>omega
theorem b0m (f u:Int):Ans (O3 f u) ((0≤f∧f≤144001439)∧(0≤u∧u≤144001439)∧f≤u):=
 Ans.and (P2 f) fun _=>Ans.and (P2 u) fun _=> .of
theorem c1C {me:Int} {s:b6} (hm:0≤me∧me≤5) (hr:0≤s.Round∧s.Round≤9999) (b:c3):Ans (S3 b s me) (b5s me s.Round b):=by
 have w:W (W (6*s.Round)+me)=6*s.Round+me:=by rw [a0p (z:=6*s.Round) (by omega),a0p (by omega)]
 unfold S3
 rw [w]
 refine Ans.and (a5i _) fun h1=>Ans.and (P0 _ _ _) fun h2=> ?_
 rw [a0p (z:=b.Ballot-1) (by omega)]
 show Ans (if(b.Ballot.tmod 6==me)=true then _ else some false) _
 refine Ans.ite (by rw [a5u (by omega)];simp) fun h3=>Ans.and (a5k _) fun h4=>Ans.and (P0 _ _ _) fun h5=>Ans.and (b5o _) fun h6=> ?_
 rw [(b1f h6).1]
 exact Ans.ofb (by simp)
theorem c0f (h:a8):Ans (a0q h) (a8C h):=
 Ans.and (a5E _) fun _=>Ans.and (a5i _) fun _=>Ans.and (a5k _) fun _=>Ans.ite (by simp) fun _=>(b5o _).id
theorem c0B (me:Int) (l:a7):Ans (S5 l me) (a6h me l):=by
 unfold S5
 refine Ans.and (a1Y _) fun h1=> ?_
 show Ans (if(l.Thing.tmod 6==me)=true then _ else some false) _
 exact Ans.ite (by rw [a5u (by omega)];simp) fun h3=>Ans.and (Y0 _) fun _=>Ans.ite (by simp) fun _=>(b0m _ _).id
theorem c0X (me:Int) (l:b8):Ans (S4 l me) (a9w me l):=by
 unfold S4
 refine Ans.and (Y0 _) fun _=>Ans.ite (by simp) fun _=>Ans.and (P0 _ _ _) fun _=>Ans.and (a1Y _) fun h1=> ?_
 show Ans (if(l.Thing.tmod 6==l.Owner)=true then _ else some false) _
 exact Ans.ite (by rw [a5u (by omega)];simp) fun h3=>(b0m _ _).id
theorem c0H (l:List b7):Ans (F5 l 12) ((l.length:Int)≤12∧∀x,x∈l→a7l x):=
 a9l (fun hl=>P4 l hl E5 _ fun x _=>(b7Y x).not) (by omega)
theorem c1t {me:Int} {s:b6} (hm:0≤me∧me≤5) (hr:0≤s.Round∧s.Round≤9999) (l:List c3):Ans (E6 l 12 s me) ((l.length:Int)≤12∧∀x,x∈l→b5s me s.Round x):=
 a9l (fun hl=>P4 l hl (fun x=>C8 x s me) _ fun x _=>(c1C hm hr x).not) (by omega)
theorem b9n (l:List a8):Ans (B9 l 60) ((l.length:Int)≤60∧∀x,x∈l→a8C x):=
 a9l (fun hl=>P4 l hl A4 _ fun x _=>(c0f x).not) (by omega)
theorem b8Y (me:Int) (l:List a7):Ans (C6 l 40 me) ((l.length:Int)≤40∧∀x,x∈l→a6h me x):=
 a9l (fun hl=>P4 l hl (fun x=>A3 x me) _ fun x _=>(c0B me x).not) (by omega)
theorem b9B (me:Int) (l:List b8):Ans (D4 l 60 me) ((l.length:Int)≤60∧∀x,x∈l→a9w me x):=
 a9l (fun hl=>P4 l hl (fun x=>B2 x me) _ fun x _=>(c0X me x).not) (by omega)
def a8i (x y:Int):Int:=if x<y then-1 else if x>y then 1 else 0
theorem b1J (x y:Int):E2 x y=some (a8i x y):=by
 unfold a8i
 simp only [E2,a0g,Option.bind_some,bne_self_eq_false,if_false]
 by_cases h1:x<y<;>by_cases h2:x>y<;>simp [h1,h2]
theorem a6i {x y:Int}:a8i x y<0↔x<y:=by
 unfold a8i;split
 · simp;assumption
 · split<;>simp<;>omega
theorem a5e {x y:Int}:a8i x y=0↔x=y:=by
 unfold a8i;split
 · simp;omega
 · split<;>simp<;>omega
def b0z (a b c d:Int):Int:=if a8i a b=0 then a8i c d else a8i a b
theorem a6P {a b c d:Int}:b0z a b c d<0↔a<b∨(a=b∧c<d):=by
 unfold b0z
 split
 · rename_i h;rw [a5e]at h;rw [a6i];omega
 · rename_i h;rw [a5e]at h;rw [a6i];omega
theorem b9P {a b c d:Int}:b0z a b c d=0↔a=b∧c=d:=by
 unfold b0z
 split
 · rename_i h;rw [a5e]at h;rw [a5e];omega
 · rename_i h;have h':=h;rw [a5e]at h;rw [a5e];omega
theorem c0J (a b:Int):a0X [a,b]=some (if a=0 then b else a):=by
 have hs:=a1u (R:=Int) (body:=U5 [a,b]) 2 (by omega) (fun i=>if i=0 then(if a=0 then none else some a)else(if b=0 then none else some b)) 0 (Nat.zero_le _) (fun i _ h2=>by
  have:i=0∨i=1:=by omega
  unfold U5
  rcases this with rfl|rfl
  · by_cases h:a=0<;>simp [idx,h];exact W_s (by omega)
  · by_cases h:b=0<;>simp [idx,h];exact W_s (by omega)) (by simp [U5])
 unfold a0X
 rw [show((0:Int))=((0:Nat):Int) from rfl,hs]
 by_cases h:a=0<;>by_cases h':b=0<;>simp [a9M,h,h']
theorem a4g (a b:b7):D3 a b=some (a8i a.Night b.Night):=by simp only [D3,b1J,Option.bind_some]
theorem a9N (a b:c3):H6 a b=some (a8i a.Night b.Night):=by simp only [H6,b1J,Option.bind_some]
theorem a4f (a b:a8):D5 a b=some (b0z a.Ballot b.Ballot a.Night b.Night):=by simp only [D5,b1J,Option.bind_some,c0J,b0z]
theorem a3Y (a b:b8):D2 a b=some (b0z a.Owner b.Owner a.No b.No):=by simp only [D2,b1J,Option.bind_some,c0J,b0z]
theorem b8P (l:List b7) (hl:l.length≤9223372036854775807):Ans (z8 l) (Q4 b2N l):=a8w l hl _ _ _ a4g fun _ _=>a6i
theorem b9S (l:List c3) (hl:l.length≤9223372036854775807):Ans (B1 l) (Q4 b9o l):=a8w l hl _ _ _ a9N fun _ _=>a6i
theorem b8s (l:List a8) (hl:l.length≤9223372036854775807):Ans (y3 l) (Q4 a8u l):=a8w l hl _ _ _ a4f fun _ _=>a6P
theorem b8t (l:List b8) (hl:l.length≤9223372036854775807):Ans (y9 l) (Q4 a5W l):=a8w l hl _ _ _ a3Y fun _ _=>a6P
theorem b4H (a b:Int):(if b>a then b else a)=max a b:=by split<;>omega
theorem b1X (a b:Int):(if b<a then b else a)=min a b:=by split<;>omega
theorem b8b (a b:a7):Ans (Z4 a b) (a3n a b):=by
 unfold Z4 a3n
 rw [b4H,b1X];exact .of
theorem c1G {α:Type} (l:List α) (k:Nat):sub l 0 k=l.take k:=by simp [sub]
theorem b7s (s:b6) (hl:s.Bids.length≤9223372036854775807):Lp (u3 (L3 s) 0) (a7X (fun a b=>a.Ballot=b.Ballot) s.Bids):=by
 refine(b5Q s.Bids.length hl (fun i=>∀x,s.Bids[i]?=some x→∀y,y∈s.Bids.take i→¬y.Ballot=x.Ballot) (fun i h2=> ?_) (by simp [L3])).iff ?_
 · have hlt:((i:Int)<(s.Bids.length:Int)):=by omega
   have hg:0≤(i:Int)∧(i:Int)≤(s.Bids.length:Int):=by omega
   unfold L3
   simp only [hlt,decide_true,if_true]
   refine Rnd.get h2 ?_
   simp only [gd,hg,and_self,if_true,Option.bind_some,c1G,Int.toNat_natCast]
   refine(Rnd.and (P4 _ (by simp;omega) (fun x=>a0k x s.Bids[i]) (fun y=>y.Ballot=s.Bids[i].Ballot) fun x _=>Ans.ofb (by simp)) fun _=> .go trivial).iff ?_
   rw [List.getElem?_eq_getElem h2]
   simp
 · exact⟨fun h i x hx=>h i ((List.getElem?_eq_some_iff.1 hx).1) x hx,fun h i _=>h i⟩
theorem b9K (s:b6) (hl:s.Leases.length≤9223372036854775806):Lp (u3 (L5 s) 0) ((∀(i:Nat) x,s.Leases[i]?=some x→x.No=(i:Int)+1)∧a7X (fun a b=>a.Thing=b.Thing∧a3n a b) s.Leases):=by
 refine(b5Q s.Leases.length (by omega) (fun i=>∀x,s.Leases[i]?=some x→x.No=(i:Int)+1∧∀y,y∈s.Leases.take i→¬(y.Thing=x.Thing∧a3n y x)) (fun i h2=> ?_) (by simp [L5])).iff ?_
 · have hlt:((i:Int)<(s.Leases.length:Int)):=by omega
   have hg:0≤(i:Int)∧(i:Int)≤(s.Leases.length:Int):=by omega
   unfold L5
   simp only [hlt,decide_true,if_true]
   refine Rnd.get h2 ?_
   refine(Rnd.ite (P:=s.Leases[i].No=(i:Int)+1) (Q:=∀y,y∈s.Leases.take i→¬(y.Thing=s.Leases[i].Thing∧a3n y s.Leases[i])) (by rw [a0p (by omega)];simp) fun _=> ?_).iff (Q:=∀x,s.Leases[i]?=some x→x.No=(i:Int)+1∧∀y,y∈s.Leases.take i→¬(y.Thing=x.Thing∧a3n y x)) ?_
   · simp only [gd,hg,and_self,if_true,Option.bind_some,c1G,Int.toNat_natCast]
     refine(Rnd.and (P4 _ (by simp;omega) (fun x=>a0r x s.Leases[i]) (fun y=>y.Thing=s.Leases[i].Thing∧a3n y s.Leases[i]) fun x _=>Ans.ite (by simp) fun _=>(b8b _ _).id) fun _=> .go trivial).iff ?_
     simp
   · rw [List.getElem?_eq_getElem h2]
     simp
 · constructor
   · intro h
     exact⟨fun i x hx=>(h i ((List.getElem?_eq_some_iff.1 hx).1) x hx).1,fun i x hx=>(h i ((List.getElem?_eq_some_iff.1 hx).1) x hx).2⟩
   · exact fun h i _ x hx=>⟨h.1 i x hx,h.2 i x hx⟩
theorem b4N {me:Int} {s:b6}:F9 me s↔(0≤me∧me≤5)∧(0≤s.Round∧s.Round≤9999)∧((s.Slots.length:Int)≤12∧∀x,x∈s.Slots→a7l x)∧((s.Bids.length:Int)≤12∧∀x,x∈s.Bids→b5s me s.Round x)∧((s.Heard.length:Int)≤60∧∀x,x∈s.Heard→a8C x)∧((s.Leases.length:Int)≤40∧∀x,x∈s.Leases→a6h me x)∧((s.Loans.length:Int)≤60∧∀x,x∈s.Loans→a9w me x)∧Q4 b2N s.Slots∧Q4 b9o s.Bids∧Q4 a8u s.Heard∧Q4 a5W s.Loans∧a7X (fun a b=>a.Ballot=b.Ballot) s.Bids∧((∀(i:Nat) x,s.Leases[i]?=some x→x.No=(i:Int)+1)∧a7X (fun a b=>a.Thing=b.Thing∧a3n a b) s.Leases):=by
 constructor
 · rintro⟨a,b,c1,c2,d1,d2,e1,e2,f1,f2,g1,g2,h1,h2,h3,h4,h5,h6,h7⟩
   exact⟨a,b,⟨c1,c2⟩,⟨d1,d2⟩,⟨e1,e2⟩,⟨f1,f2⟩,⟨g1,g2⟩,h1,h2,h3,h4,h5,h6,h7⟩
 · rintro⟨a,b,⟨c1,c2⟩,⟨d1,d2⟩,⟨e1,e2⟩,⟨f1,f2⟩,⟨g1,g2⟩,h1,h2,h3,h4,h5,h6,h7⟩
   exact⟨a,b,c1,c2,d1,d2,e1,e2,f1,f2,g1,g2,h1,h2,h3,h4,h5,h6,h7⟩
theorem b1H (me:Int) (s:b6):Ans (M4 me s) (F9 me s):=by
 refine Ans.iff ?_ b4N.symm
 unfold M4
 exact Ans.nand (Y0 _) fun hm=>Ans.nand (P0 _ _ _) fun hr=>Ans.nand (c0H _) fun h1=>Ans.nand (c1t hm hr _) fun h2=>Ans.nand (b9n _) fun h3=>Ans.nand (b8Y _ _) fun h4=>Ans.nand (b9B _ _) fun h5=>
  Ans.nand (b8P _ (by omega)) fun _=>Ans.nand (b9S _ (by omega)) fun _=>Ans.nand (b8s _ (by omega)) fun _=>Ans.nand (b8t _ (by omega)) fun _=>Ans.loop (b7s s (by omega)) fun _=>Ans.lp (b9K s (by omega))
end Go.Proofs.YtcedmbakcchkiaaGreatDoor
namespace Go.Proofs.YtcedmbakcchkiaaGreatDoor
open Go Go.Sx
open Classical
theorem a9L (n:Int):M6 n 6=some (n % 6):=by
 unfold M6
 simp only [gd,ne_eq,show¬(6:Int)=0 by omega,not_false_eq_true,if_true,Option.some.injEq]
 have h3:=Int.tmod_eq_emod (a:=n) (b:=6)
 have h1: -6<n.tmod 6∧n.tmod 6<6∧(n.tmod 6=n % 6∨n.tmod 6=n % 6-6):=by
  rw [h3];split<;>simp<;>omega
 rw [a0p (by omega),a5u (by omega)]
 omega
theorem Z2 {α:Type} {l:List α} {i:Nat} {x:α} (h:l[i]?=some x):idx l (i:Int)=some x:=by simp [idx,h]
theorem c2P {α:Type} {l:List α} {i:Nat} (h:i<l.length):∃x,l[i]?=some x:=⟨_,List.getElem?_eq_getElem h⟩
def Err (m:Option Int) (P:Prop) (e:Int):Prop:=m=some (if P then 0 else e)
theorem Err.nand {m:Option Bool} {n:Option Int} {P Q:Prop} {e:Int} (h:Ans m P) (k:P→Err n Q e):Err (Option.bind m fun x=>if(!x)=true then some e else n) (P∧Q) e:=by
 obtain⟨b,rfl,hb⟩:=h
 unfold Err
 by_cases hp:P
 · have:=k hp
   unfold Err at this
   simp [hb.2 hp,hp,this]
 · have:b=false:=by cases b with|false=>rfl|true=>exact absurd (hb.1 rfl) hp
   simp [this,hp]
theorem Err.one {m:Option Bool} {P:Prop} {e:Int} (h:Ans m P):Err (Option.bind m fun x=>if(!x)=true then some e else some 0) P e:=by
 have:=Err.nand (Q:=True) (n:=some 0) (e:=e) h (fun _=>by simp [Err])
 simpa using this
theorem Err.iff {m:Option Int} {P Q:Prop} {e:Int} (h:Err m P e) (k:P↔Q):Err m Q e:=by
 unfold Err at*;rw [h];simp [k]
def A9 (x:a6):Prop:=F9 x.Me x.Now∧F9 x.Me x.Safe
theorem b2o (x:a6):Err (X5 x) (A9 x) 90:=Err.nand (b1H _ _) fun _=>Err.one (b1H _ _)
end Go.Proofs.YtcedmbakcchkiaaGreatDoor
namespace Go.Proofs.YtcedmbakcchkiaaGreatDoor
open Go Go.Sx
open Classical
def a3I (c:b5):Prop:=(0≤c.Night∧c.Night≤100000)∧(6≤c.Ballot∧c.Ballot≤59999)∧c.No=0∧c.Thing=0∧c.Start=0∧c.Until=0
def a8R (c:b5):Prop:=c.From≠c.To∧(1≤c.No∧c.No≤40)∧(1≤c.Thing∧c.Thing≤99)∧(0≤c.Until∧c.Until≤144001439)∧c.Night=0∧c.Ballot=0∧c.Best=0∧c.Value=0
def a9Z (v:Int):Prop:=1≤v∧v≤1000000
structure a7Y (c:b5):Prop where
 from_:0≤c.From∧c.From≤5
 to_:0≤c.To∧c.To≤5
 kind:(c.Kind=1∧a3I c∧c.Ballot % 6=c.From∧c.Best=0∧c.Value=0)∨(c.Kind=2∧a3I c∧c.Ballot % 6=c.To∧((c.Best=0∧c.Value=0)∨((6≤c.Best∧c.Best≤c.Ballot-1)∧a9Z c.Value)))∨
  (c.Kind=3∧a3I c∧c.Ballot % 6=c.From∧c.Best=0∧a9Z c.Value)∨(c.Kind=4∧a3I c∧c.Best=0∧a9Z c.Value)∨
  (c.Kind=5∧a8R c∧c.Thing % 6=c.From∧(0≤c.Start∧c.Start≤144001439)∧c.Start≤c.Until)∨(c.Kind=6∧a8R c∧c.Thing % 6=c.To∧c.Start=0)
theorem b7j (c:b5):a7Y c↔(0≤c.From∧c.From≤5)∧(0≤c.To∧c.To≤5)∧((c.Kind=1∧a3I c∧c.Ballot % 6=c.From∧c.Best=0∧c.Value=0)∨(c.Kind=2∧a3I c∧c.Ballot % 6=c.To∧((c.Best=0∧c.Value=0)∨((6≤c.Best∧c.Best≤c.Ballot-1)∧a9Z c.Value)))∨
 (c.Kind=3∧a3I c∧c.Ballot % 6=c.From∧c.Best=0∧a9Z c.Value)∨(c.Kind=4∧a3I c∧c.Best=0∧a9Z c.Value)∨
 (c.Kind=5∧a8R c∧c.Thing % 6=c.From∧(0≤c.Start∧c.Start≤144001439)∧c.Start≤c.Until)∨(c.Kind=6∧a8R c∧c.Thing % 6=c.To∧c.Start=0)):=
 ⟨fun⟨a,b,c⟩=>⟨a,b,c⟩,fun⟨a,b,c⟩=>⟨a,b,c⟩⟩
theorem c2v (a b c:Bool):(if a=true then some b else some c)=some ((a&&b)||(!a&&c)):=by cases a<;>simp
structure Rck (c:b5) (w tb tt:Int):Prop where
 w:6≤c.Ballot∧c.Ballot≤59999→w=c.Ballot-1
 tb:0≤c.Ballot→tb=c.Ballot % 6
 tt:0≤c.Thing→tt=c.Thing % 6
theorem c1f (c:b5):Rck c (W (c.Ballot-1)) (c.Ballot.tmod 6) (c.Thing.tmod 6):=⟨fun h=>a0p (by omega),fun h=>a5u h,fun h=>a5u h⟩
set_option maxHeartbeats 1000000 in theorem isCall_a (c : b5) : Ans (U4 c) (a7Y c) := by
  refine Ans.iff ?_ (b7j c).symm
  have e1 := (Y0 c.From).eq
  have e2 := (Y0 c.To).eq
  have e3 := (P0 c.No 1 40).eq
  have e4 := (a1Y c.Thing).eq
  have e5 := (a5i c.Night).eq
  have e6 := (a5E c.Ballot).eq
  have e7 := (a5k c.Value).eq
  have e8 := (P0 c.Best 6 (W (c.Ballot - 1))).eq
  have e9 := (b0m c.Start c.Until).eq
  have e10 := (P2 c.Until).eq
  have hr := c1f c
  have hd : ∀ n, c8 n = some (n.tmod 6) := fun _ => rfl
  unfold U4 a3d
  simp only [e1, e2, e3, e4, e5, e6, e7, e8, e9, e10, hd]
  clear e1 e2 e3 e4 e5 e6 e7 e8 e9 e10 hd
  generalize W (c.Ballot - 1) = w at hr ⊢
  generalize c.Ballot.tmod 6 = tb at hr ⊢
  generalize c.Thing.tmod 6 = tt at hr ⊢
  obtain ⟨h1, h2, h3⟩ := hr
  obtain ⟨Kind, From, To, Night, Ballot, Best, Value, No, Thing, Start, Until⟩ := c
  simp only [a3I, a8R, a9Z] at *
  have hk : Kind = 1 ∨ Kind = 2 ∨ Kind = 3 ∨ Kind = 4 ∨ Kind = 5 ∨ Kind = 6 ∨ (Kind ≠ 1 ∧ Kind ≠ 2 ∧ Kind ≠ 3 ∧ Kind ≠ 4 ∧ Kind ≠ 5 ∧ Kind ≠ 6) := by omega
  rcases hk with rfl | rfl | rfl | rfl | rfl | rfl | ⟨k1, k2, k3, k4, k5, k6⟩
  all_goals try simp only [Int.reduceBEq, Int.reduceBNe, if_true, Bool.false_eq_true, if_false, Option.bind_some, Bool.not_true, Bool.not_false, c2v]
  iterate 6
    · refine ⟨_, rfl, ?_⟩
      simp only [Bool.or_eq_true, Bool.and_eq_true, Bool.not_eq_true', decide_eq_true_eq, decide_eq_false_iff_not, beq_iff_eq, Bool.not_not, beq_eq_false_iff_ne, ne_eq, Bool.and_false, Bool.and_true, Bool.false_or, Bool.or_false, Bool.false_eq_true, bne_iff_ne, bne_eq_false_iff_eq, Bool.true_and, Bool.false_and, true_and, false_and, or_false, false_or, Int.reduceEq, and_true, and_false, or_true, true_or, not_true_eq_false, not_false_eq_true]
      first | omega | (constructor <;> intro h <;> omega) | grind
  have q1 : (Kind == 1) = false := by simp [k1]
  have q2 : (Kind == 2) = false := by simp [k2]
  have q3 : (Kind == 3) = false := by simp [k3]
  have q4 : (Kind == 4) = false := by simp [k4]
  have q5 : (Kind == 5) = false := by simp [k5]
  have q6 : (Kind == 6) = false := by simp [k6]
  simp only [q1, q2, q3, q4, q5, q6, Bool.false_eq_true, if_false, Option.bind_some, Bool.not_false, if_true]
  exact .no (by rintro ⟨_, _, h⟩; omega)
end Go.Proofs.YtcedmbakcchkiaaGreatDoor
namespace Go.Proofs.YtcedmbakcchkiaaGreatDoor
open Go Go.Sx
open Classical
structure c2L (s:b6):Prop where
 a:s.Slots.length≤9223372036854775806
 b:s.Bids.length≤9223372036854775806
 c:s.Heard.length≤9223372036854775806
 d:s.Leases.length≤9223372036854775806
 e:s.Loans.length≤9223372036854775806
theorem Ans.true {m:Option Bool} (h:Ans m True):m=some true:=by rw [h.eq];simp
def S0:b6:=⟨0, [], [], [], [], []⟩
theorem b7X (n:Int):L7 n=some (if 0≤n∧n≤5 then(⟨n,S0,S0⟩,0)else(⟨0,S0,S0⟩,1)):=by
 unfold L7
 rw [(Y0 n).eq]
 by_cases h:0≤n∧n≤5<;>simp [h,S0]
end Go.Proofs.YtcedmbakcchkiaaGreatDoor
namespace Go.Proofs.YtcedmbakcchkiaaGreatDoor
open Go Go.Sx
open Classical
def b0G {α σ R:Type} (f:σ→α→Sum σ R):List α→σ→Sum σ R
 | [],s=> .inl s
 |x::l,s=>match f s x with| .inl s'=>b0G f l s'| .inr r=> .inr r
theorem b0Y {α σ S E R:Type} {body:S→Option (Sum S E)} (l:List α) (hl:l.length≤9223372036854775807) (enc:Nat→σ→S) (f:σ→α→Sum σ R) (out:R→E) (fin:σ→E) (P:List α→σ→Prop)
 (h:∀pre x post s,l=pre++x::post→P pre s→body (enc pre.length s)=some (match f s x with| .inl s'=> .inl (enc (pre.length+1) s')| .inr r=> .inr (out r))∧∀s',f s x= .inl s'→P (pre++ [x]) s')
 (he:∀s,P l s→body (enc l.length s)=some (.inr (fin s))) (s0:σ) (h0:P [] s0):
 u3 body (enc 0 s0)=some (match b0G f l s0 with| .inl s=>fin s| .inr r=>out r):=by
 have key:∀(post pre:List α) (s:σ) (n:Nat),l=pre++post→P pre s→post.length<n→a0x body n (enc pre.length s)=some (match b0G f post s with| .inl s=>fin s| .inr r=>out r):=by
  intro post
  induction post with
  |nil=>
   intro pre s n hp hs hn
   cases n with
   |zero=>omega
   |succ n=>
    simp only [List.append_nil]at hp
    subst hp
    simp only [a0x,he s hs,b0G]
  |cons x post ih=>
   intro pre s n hp hs hn
   cases n with
   |zero=>omega
   |succ n=>
    obtain⟨h1,h2⟩:=h pre x post s hp hs
    simp only [a0x,h1,b0G]
    cases hf:f s x with
    |inl s'=>
     have:=ih (pre++ [x]) s' n (by simp [hp]) (h2 s' hf) (by simp at hn;omega)
     simpa using this
    |inr r=>rfl
 exact key l [] s0 a4m rfl h0 (by unfold a4m;omega)
theorem b9u {α β R:Type} (em:α→List β) (l:List α) (s:List β):b0G (R:=R) (fun s x=> .inl (s++em x)) l s= .inl (s++l.flatMap em):=by
 induction l generalizing s with
 |nil=>simp [b0G]
 |cons x l ih=>simp [b0G,ih]
theorem b8G {α β S:Type} {body:S→Option (Sum S S)} (l:List α) (hl:l.length≤1000) (enc:Nat→List β→S) (em:α→List β) (acc:List β) (ha:acc.length≤10000) (hem:∀x,(em x).length≤2)
 (h:∀pre x post s,l=pre++x::post→s.length≤20000→body (enc pre.length s)=some (.inl (enc (pre.length+1) (s++em x)))) (he:∀s,body (enc l.length s)=some (.inr (enc l.length s))):
 u3 body (enc 0 acc)=some (enc l.length (acc++l.flatMap em)):=by
 have:=b0Y (R:=S) (body:=body) l (by omega) enc (fun s x=> .inl (s++em x)) id (fun s=>enc l.length s) (fun pre s=>s.length≤acc.length+2*pre.length∧pre.length≤l.length) (fun pre x post s hp hs=>⟨h pre x post s hp (by omega),fun s' hs'=>by
  have hx:=hem x
  have hpl:pre.length+1≤l.length:=by rw [hp];simp
  simp only [Sum.inl.injEq]at hs'
  subst hs'
  simp only [List.length_append,List.length_singleton]
  omega⟩) (fun s _=>he s) acc ⟨by simp,by simp⟩
 rw [this,b9u]
theorem a3V {α β S E:Type} {body:S→Option (List β×Sum S E)} (l:List α) (hl:l.length≤9223372036854775807) (enc:Nat→S) (em:α→List β) (fin:E)
 (h:∀pre x post,l=pre++x::post→body (enc pre.length)=some (em x, .inl (enc (pre.length+1))))
 (he:body (enc l.length)=some ([], .inr fin)):a3J body (enc 0)=some (l.flatMap em,fin):=by
 have key:∀(post pre:List α) (n:Nat),l=pre++post→post.length<n→a1K body n (enc pre.length)=some (post.flatMap em,fin):=by
  intro post
  induction post with
  |nil=>
   intro pre n hp hn
   cases n with
   |zero=>omega
   |succ n=>
    simp only [List.append_nil]at hp
    subst hp
    simp only [a1K,he,List.flatMap_nil]
  |cons x post ih=>
   intro pre n hp hn
   cases n with
   |zero=>omega
   |succ n=>
    have:=ih (pre++ [x]) n (by simp [hp]) (by simp at hn;omega)
    simp only [List.length_append,List.length_cons,List.length_nil,Nat.zero_add]at this
    simp only [a1K,h pre x post hp,this,List.flatMap_cons]
 exact key l [] a4m rfl (by unfold a4m;omega)
theorem a6U {α:Type} {pre post:List α} {x:α}:idx (pre++x::post) (pre.length:Int)=some x:=by
 unfold idx;simp
theorem a9i {α:Type} {pre post:List α} {x:α}:((pre.length:Int)<((pre++x::post).length:Int)):=by simp;omega
theorem b0e {α:Type} {p:Prop} [Decidable p] {k:Option α} (h:p):gd p k=k:=by unfold gd;rw [if_pos h]
theorem F9.short {me:Int} {s:b6} (h:F9 me s):c2L s:=by
 have:=h.nslots;have:=h.nbids;have:=h.nheard;have:=h.nleases;have:=h.nloans
 constructor<;>omega
theorem a1x {me:Int} {s:b6} (h:F9 me s):C4 s=some s:=by
 have:=h.nslots;have:=h.nbids;have:=h.nheard;have:=h.nleases;have:=h.nloans
 unfold C4 E0 F6 B4 B3 E3
 rw [b0e (by omega),b0e (by omega),b0e (by omega),b0e (by omega),b0e (by omega)]
 rfl
theorem b2G (x:a6):P7 x=some (if A9 x then(some ⟨x⟩,0)else(none,90)):=by
 have e:=b2o x
 unfold Err at e
 unfold P7
 rw [e]
 by_cases h:A9 x
 · rw [if_pos h,if_pos h,a1x h.1,a1x h.2];rfl
 · rw [if_neg h,if_neg h];rfl
theorem b8W (x:a6):a0m x=some (if A9 x then .inr (x.Me,x.Now.Round,x.Now.Slots,x.Now.Bids,x.Now.Heard,x.Now.Leases,x.Now.Loans,x.Safe.Round,x.Safe.Slots,x.Safe.Bids,x.Safe.Heard,x.Safe.Leases,x.Safe.Loans)else .inl 90):=by
 have e:=b2o x
 unfold Err at e
 unfold a0m
 rw [e]
 by_cases h:A9 x
 · rw [if_pos h,if_pos h,a1x h.1,a1x h.2];rfl
 · rw [if_neg h,if_neg h];rfl
def Z0:a6:=⟨0,S0,S0⟩
noncomputable def b2u (x:a6):a6×Int:=if A9 x then(⟨x.Me,x.Now,x.Now⟩,0)else(Z0,90)
theorem b3O (x:a6):N5 x=some (b2u x):=by
 unfold N5 b2u
 rw [b8W]
 by_cases h:A9 x
 · rw [if_pos h,if_pos h]
   simp only [Option.bind_some]
   rw [a1x h.1];rfl
 · rw [if_neg h,if_neg h];rfl
def b6B (me to_:Int) (b:c3):List b5:=if b.Asked=true then [⟨3,me,to_,b.Night,b.Ballot,0,b.Value,0,0,0,0⟩]else [⟨1,me,to_,b.Night,b.Ballot,0,0,0,0,0,0⟩]
def b1F (me to_:Int) (s:b7):List b5:=(if s.Promised % 6=to_∧s.Promised>s.Ballot then [⟨2,me,to_,s.Night,s.Promised,s.Ballot,s.Value,0,0,0,0⟩]else [])++(if s.Ballot≠0 then [⟨4,me,to_,s.Night,s.Ballot,0,s.Value,0,0,0,0⟩]else [])
def a5U (me to_:Int) (l:a7):List b5:=if l.To=to_ then [⟨5,me,to_,0,0,0,0,l.No,l.Thing,l.From,l.Until⟩]else []
def b0q (me to_:Int) (l:b8):List b5:=if l.Owner=to_∧l.Back=true then [⟨6,me,to_,0,0,0,0,l.No,l.Thing,0,l.Until⟩]else []
def a9W (me to_:Int) (s:b6):List b5:=s.Bids.flatMap (b6B me to_)++(s.Slots.flatMap (b1F me to_)++(s.Leases.flatMap (a5U me to_)++s.Loans.flatMap (b0q me to_)))
theorem a0S {α β:Type} (f:α→List β) (n:Nat) (h:∀x,(f x).length≤n):∀l:List α,(l.flatMap f).length≤n*l.length
 | []=>by simp
 |x::l=>by
  have:=a0S f n h l
  have:=h x
  simp only [List.flatMap_cons,List.length_append,List.length_cons,Nat.mul_add];omega
theorem b7U (me t:Int) (x:c3):(b6B me t x).length≤2:=by unfold b6B;split<;>simp
theorem b6F (me t:Int) (x:b7):(b1F me t x).length≤2:=by unfold b1F;split<;>split<;>simp
theorem b4Q (me t:Int) (x:a7):(a5U me t x).length≤2:=by unfold a5U;split<;>simp
theorem b7B (me t:Int) (x:b8):(b0q me t x).length≤2:=by unfold b0q;split<;>simp
theorem b8U {me:Int} {s:b6} (h:F9 me s) (to_:Int):(a9W me to_ s).length≤1000:=by
 have:=h.nslots;have:=h.nbids;have:=h.nheard;have:=h.nleases;have:=h.nloans
 have:=a0S _ 2 (b7U me to_) s.Bids
 have:=a0S _ 2 (b6F me to_) s.Slots
 have:=a0S _ 2 (b4Q me to_) s.Leases
 have:=a0S _ 2 (b7B me to_) s.Loans
 unfold a9W
 simp only [List.length_append]
 omega
theorem c1y (x:a6) (h:A9 x) (to_:Int):O5 ⟨x⟩ to_=some (a9W x.Me to_ x.Safe,()):=by
 obtain⟨_,h⟩:=h
 have hs:=h.short
 have l1:a3J (H3 ⟨x⟩ to_) ((0:Nat):Int)=some (x.Safe.Bids.flatMap (b6B x.Me to_),(x.Safe.Bids.length:Int)):=by
  refine a3V (enc:=fun k=>(k:Int)) x.Safe.Bids (by have:=hs.b;omega) (b6B x.Me to_) (x.Safe.Bids.length:Int) (fun pre y post hp=> ?_) (by simp [H3])
  have hw:W ((pre.length:Int)+1)=((pre.length+1:Nat):Int):=W_s (by have:=hs.b;rw [hp]at this;simp at this;omega)
  unfold H3 b6B
  simp only [hp,a9i,decide_true,if_true,a6U,Option.bind_some,hw,emit]
  split<;>rfl
 have l2:a3J (H4 ⟨x⟩ to_) ((0:Nat):Int)=some (x.Safe.Slots.flatMap (b1F x.Me to_),(x.Safe.Slots.length:Int)):=by
  have key:∀y,y∈x.Safe.Slots→y.Promised.tmod 6=y.Promised % 6:=fun y hy=>a5u (by have:=(h.slots y hy).2.1;omega)
  refine a3V (enc:=fun k=>(k:Int)) x.Safe.Slots (by have:=hs.a;omega) (b1F x.Me to_) (x.Safe.Slots.length:Int) (fun pre y post hp=> ?_) (by simp [H4])
  have hw:W ((pre.length:Int)+1)=((pre.length+1:Nat):Int):=W_s (by have:=hs.a;rw [hp]at this;simp at this;omega)
  have ht:=key y (by rw [hp];simp)
  unfold H4 b1F c8
  simp only [hp,a9i,decide_true,if_true,a6U,Option.bind_some,hw,emit,ht]
  by_cases g1:y.Promised % 6=to_<;>by_cases g2:y.Promised>y.Ballot<;>simp [g1,g2]<;>by_cases g3:y.Ballot=0<;>simp [g3]
 have l3:a3J (H7 ⟨x⟩ to_) ((0:Nat):Int)=some (x.Safe.Leases.flatMap (a5U x.Me to_),(x.Safe.Leases.length:Int)):=by
  refine a3V (enc:=fun k=>(k:Int)) x.Safe.Leases (by have:=hs.d;omega) (a5U x.Me to_) (x.Safe.Leases.length:Int) (fun pre y post hp=> ?_) (by simp [H7])
  have hw:W ((pre.length:Int)+1)=((pre.length+1:Nat):Int):=W_s (by have:=hs.d;rw [hp]at this;simp at this;omega)
  unfold H7 a5U
  simp only [hp,a9i,decide_true,if_true,a6U,Option.bind_some,hw,emit]
  by_cases g1:y.To=to_<;>simp [g1]
 have l4:a3J (H8 ⟨x⟩ to_) ((0:Nat):Int)=some (x.Safe.Loans.flatMap (b0q x.Me to_),(x.Safe.Loans.length:Int)):=by
  refine a3V (enc:=fun k=>(k:Int)) x.Safe.Loans (by have:=hs.e;omega) (b0q x.Me to_) (x.Safe.Loans.length:Int) (fun pre y post hp=> ?_) (by simp [H8])
  have hw:W ((pre.length:Int)+1)=((pre.length+1:Nat):Int):=W_s (by have:=hs.e;rw [hp]at this;simp at this;omega)
  unfold H8 b0q
  simp only [hp,a9i,decide_true,if_true,a6U,Option.bind_some,hw,emit]
  by_cases g1:y.Owner=to_<;>by_cases g2:y.Back=true<;>simp [g1,g2]
 unfold O5
 rw [show((0:Nat):Int)=0 from rfl]at l1 l2 l3 l4
 simp only [l1,l2,l3,l4,a8P]
 unfold a9W
 simp
theorem b4r (l:List b5) (hl:l.length≤1000):S8 c5 l []=some (.inl l):=by
 have key:∀(l a:List b5),a.length+l.length≤1000→S8 c5 l a=some (.inl (a++l)):=by
  intro l
  induction l with
  |nil=>intro a _;simp [S8]
  |cons y l ih=>
   intro a h
   simp only [List.length_cons]at h
   have:c5 a y=some (.inl (a++ [y])):=by
    unfold c5
    rw [b0e (by simp;omega)]
   simp only [S8,this]
   rw [ih _ (by simp;omega)]
   simp
 simpa using key l [] (by simpa using hl)
noncomputable def b2M (x:a6) (to_:Int):List b5×Int:=if A9 x then(if 0≤to_∧to_≤5 then(a9W x.Me to_ x.Safe,0)else([],1))else([],90)
theorem b2U (x:a6) (to_:Int):N4 x to_=some (b2M x to_):=by
 unfold N4 b2M
 rw [b2G,(Y0 to_).eq]
 by_cases h:A9 x
 · simp only [h,if_true,Option.bind_some,a8l,bne_self_eq_false,Bool.false_eq_true,if_false]
   by_cases h2:0≤to_∧to_≤5
   · have e:a0Y ⟨x⟩ to_=some (⟨x⟩,to_):=rfl
     have e2:s7 ⟨x⟩ to_=some (a9W x.Me to_ x.Safe):=by
      unfold s7 o4
      rw [c1y x h]
      simp only [Option.bind_some]
      rw [b4r _ (b8U h.2 to_)]
      rfl
     simp only [h2,and_self,decide_true,Bool.not_true,Bool.false_eq_true,if_false,if_true,e,Option.bind_some,e2]
   · simp only [h2,decide_false,Bool.not_false,if_true,if_false]
 · simp [h,a8l]
end Go.Proofs.YtcedmbakcchkiaaGreatDoor
namespace Go.Proofs.YtcedmbakcchkiaaGreatDoor
open Go Go.Sx
open Classical
theorem c1i {z:Int} (h:0≤z∧z≤18446744073709551615):IntKind.u64.wrap z=z:=by
 simp only [IntKind.wrap,IntKind.signed,IntKind.bits]
 simp
 omega
theorem c3O (i j:Nat) (h:i+j≤9223372036854775807):W ((IntKind.u64.wrap (W ((i:Int)+(j:Int)))).fdiv (2^(min (1:Int).toNat IntKind.u64.bits)))=(((i+j) / 2:Nat):Int):=by
 have e:(2:Int)^(min (1:Int).toNat IntKind.u64.bits)=2:=by decide
 rw [e,a0p (z:=(i:Int)+j) (by omega),c1i (by omega),Int.fdiv_eq_ediv_of_nonneg _ (by omega)]
 have e2:((i:Int)+j) / 2=(((i+j) / 2:Nat):Int):=by simp
 rw [e2,a0p (by omega)]
structure Cut {α:Type} (c:α→Int) (l:List α) (i:Nat):Prop where
 le:i≤l.length
 lo:∀k (h:k<l.length),k<i→c l[k]<0
 hi:∀k (h:k<l.length),i≤k→¬c l[k]<0
def bsB {α:Type} (l:List α) (cm:α→Option Int):(Int×Int)→Option (Sum (Int×Int) (Int×Int)):=fun(i,j)=>
 if(decide (i<j))=true then
  Option.bind (idx l (W ((IntKind.u64.wrap (W (i+j))).fdiv (2^(min (1:Int).toNat IntKind.u64.bits))))) fun e=>
  Option.bind (cm e) fun x=>
  if(decide (x<0))=true then
   some (.inl ((W ((W ((IntKind.u64.wrap (W (i+j))).fdiv (2^(min (1:Int).toNat IntKind.u64.bits))))+1)),j))
  else
   some (.inl (i,(W ((IntKind.u64.wrap (W (i+j))).fdiv (2^(min (1:Int).toNat IntKind.u64.bits))))))
 else
  some (.inr (i,j))
def bsM {α:Type} (l:List α) (cm:α→Option Int):Option (Int×Bool):=
 Option.bind (u3 (bsB l cm) (0,(l.length:Int))) fun(i,_)=>
 if(decide (i<(l.length:Int)))=true then
  Option.bind (idx l i) fun e=>
  Option.bind (cm e) fun x=>
  some (i,(x==0))
 else
  some (i,false)
theorem a5O {α:Type} (l:List α) (c:α→Int) (hl:l.length≤1000) (hm:∀i j (hi:i<l.length) (hj:j<l.length),i≤j→c l[j]<0→c l[i]<0) (cm:α→Option Int) (hc:∀x,x∈l→cm x=some (c x)):
 ∃i,Cut c l i∧bsM l cm=some ((i:Int),decide (∃x,l[i]?=some x∧c x=0)):=by
 obtain⟨e,he,i,rfl,hi⟩:=b6k (body:=bsB l cm) (fun st:Int×Int=>∃i j:Nat,st=((i:Int),(j:Int))∧i≤j∧j≤l.length∧(∀k (hk:k<l.length),k<i→c l[k]<0)∧(∀k (hk:k<l.length),j≤k→¬c l[k]<0))
  (fun st=>(st.2-st.1).toNat) (fun st=>∃i:Nat,st=((i:Int),(i:Int))∧Cut c l i) (by
  rintro⟨_,_⟩ ⟨i,j,he,hij,hj,ha,hb⟩
  cases he
  unfold bsB
  by_cases hlt:i<j
  · right
    have c1:(i:Int)<(j:Int):=by omega
    have hmid:(i+j) / 2<l.length:=by omega
    have hx:idx l (((i+j) / 2:Nat):Int)=some l[(i+j) / 2]:=Z2 (List.getElem?_eq_getElem hmid)
    simp only [c1,decide_true,if_true,c3O i j (by omega),hx,Option.bind_some,hc _ (List.getElem_mem hmid)]
    by_cases hcc:c l[(i+j) / 2]<0
    · refine⟨((((i+j) / 2+1:Nat):Int),(j:Int)), ?_,⟨(i+j) / 2+1,j,rfl,by omega,hj,fun k hk hki=> ?_,hb⟩,by simp only;omega⟩
      · simp only [hcc,decide_true,if_true]
        rw [a0p (z:=(((i+j) / 2:Nat):Int)+1) (by omega)];rfl
      · exact hm k ((i+j) / 2) hk hmid (by omega) hcc
    · refine⟨((i:Int),(((i+j) / 2:Nat):Int)), ?_,⟨i,(i+j) / 2,rfl,by omega,by omega,ha,fun k hk hki h=>hcc (hm _ _ hmid hk hki h)⟩,by simp only;omega⟩
      simp only [hcc,decide_false,Bool.false_eq_true,if_false]
  · left
    have c1:¬(i:Int)<(j:Int):=by omega
    obtain rfl:i=j:=by omega
    exact⟨_,by simp only [c1,decide_false,Bool.false_eq_true,if_false],i,rfl,hj,ha,hb⟩) (0,(l.length:Int)) ⟨0,l.length,rfl,by omega,by omega,by omega,by omega⟩ (by simp only [a4m];omega)
 refine⟨i,hi, ?_⟩
 unfold bsM
 rw [he]
 have hle:=hi.le
 by_cases h:i<l.length
 · have c1:(i:Int)<(l.length:Int):=by omega
   have hx:idx l (i:Int)=some l[i]:=by simp [idx,h]
   simp only [Option.bind_some,c1,decide_true,if_true,hx,hc _ (List.getElem_mem h),List.getElem?_eq_getElem h,Option.some.injEq,exists_eq_left']
   congr 2
 · have c1:¬(i:Int)<(l.length:Int):=by omega
   simp only [Option.bind_some,c1,decide_false,Bool.false_eq_true,if_false,List.getElem?_eq_none (show l.length≤i by omega)]
   simp
noncomputable def upd {α:Type} (c:α→Int) (new:α) (f:α→α):List α→List α
 | []=> [f new]
 |x::l=>if c x<0 then x::upd c new f l else if c x=0 then f x::l else f new::x::l
theorem b2j {α:Type} {c:α→Int} {new:α} {f:α→α}:∀ {l:List α} {i:Nat},Cut c l i→upd c new f l=l.take i++(match l.drop i with| []=> [f new]|x::r=>if c x=0 then f x::r else f new::x::r)
 | [],i,h=>by simp [upd]
 |x::l,0,h=>by
  have:=h.hi 0 (by simp) (Nat.le_refl _)
  simp only [List.getElem_cons_zero]at this
  simp [upd,this]
 |x::l,i+1,h=>by
  have h0:=h.lo 0 (by simp) (by omega)
  simp only [List.getElem_cons_zero]at h0
  have ih:=b2j (c:=c) (new:=new) (f:=f) (l:=l) (i:=i) ⟨by have:=h.le;simpa using this,fun k hk hki=>h.lo (k+1) (by simpa using hk) (by omega),fun k hk hki=>h.hi (k+1) (by simpa using hk) (by omega)⟩
  simp only [upd,h0,if_true,ih,List.take_succ_cons,List.drop_succ_cons,List.cons_append]
theorem b5U {α:Type} {l:List α} {i:Nat} {x:α} (h:l[i]?=some x):l.drop i=x::l.drop (i+1):=by
 obtain⟨hi,rfl⟩:=List.getElem?_eq_some_iff.1 h
 exact List.drop_eq_getElem_cons hi
theorem b1u {α:Type} {c:α→Int} {l:List α} {i:Nat} (h:Cut c l i) {x:α} (hx:l[i]?=some x) (h0:c x=0) (new:α) (f:α→α):l.set i (f x)=upd c new f l∧(upd c new f l).length=l.length:=by
 have e:l.set i (f x)=upd c new f l:=by
  rw [b2j h,b5U hx]
  simp only [h0,if_true]
  have hi:=(List.getElem?_eq_some_iff.1 hx).1
  rw [List.set_eq_take_append_cons_drop,if_pos hi]
 exact⟨e,by rw [←e];simp⟩
theorem a8A {α:Type} {c:α→Int} {l:List α} {i:Nat} (h:Cut c l i) (hn:¬∃x,l[i]?=some x∧c x=0) (new:α) (f:α→α):(l.take i++new::l.drop i)[i]?=some new∧(l.take i++new::l.drop i).set i (f new)=upd c new f l∧(upd c new f l).length=l.length+1:=by
 have hle:=h.le
 have hlen:(l.take i).length=i:=by simp;omega
 have e:(l.take i++new::l.drop i).set i (f new)=upd c new f l:=by
  rw [b2j h,List.set_append_right _ _ (by omega),hlen,Nat.sub_self,List.set_cons_zero]
  cases hd:l.drop i with
  |nil=>rfl
  |cons y r=>
   have hy:l[i]?=some y:=by rw [←List.head?_drop,hd];rfl
   have:¬c y=0:=fun h0=>hn ⟨y,hy,h0⟩
   simp only [this,if_false]
 refine⟨by rw [List.getElem?_append_right (by omega),hlen];simp,e, ?_⟩
 rw [←e]
 simp
 omega
theorem b1T {α:Type} (s:List α) (i:Nat) (v:α) (b:Nat) (hl:s.length≤1000) (hb:b≤1000) (hi:i≤s.length):
 (gd (0≤(i:Int)∧(i:Int).toNat≤s.length)<|if(([v].length:Int)==0)=true then some s else if((i:Int)==(s.length:Int))=true then gd ((s.length+ [v].length)*b≤140737488355328∧s.length+ [v].length≤9223372036854775807)<|some (s++ [v])else
  gd (0≤(i:Int)∧(i:Int).toNat<s.length∧0< [v].length∧(s.length+ [v].length)*b≤140737488355328∧s.length+ [v].length≤9223372036854775807) (some (s.take (i:Int).toNat++ [v]++s.drop (i:Int).toNat)))=some (s.take i++v::s.drop i):=by
 have hm:(s.length+ [v].length)*b≤140737488355328:=by
  have:(s.length+ [v].length)*b≤1001*1000:=Nat.mul_le_mul (by simp;omega) hb
  omega
 have h2:s.length+ [v].length≤9223372036854775807:=by simp;omega
 rw [b0e (by omega)]
 have e1:(([v].length:Int)==0)=false:=rfl
 simp only [e1,Bool.false_eq_true,if_false]
 by_cases h:i=s.length
 · subst h
   simp only [beq_self_eq_true,if_true]
   rw [b0e ⟨hm,h2⟩]
   simp
 · have e2:((i:Int)==(s.length:Int))=false:=by rw [beq_eq_false_iff_ne];omega
   simp only [e2,Bool.false_eq_true,if_false]
   rw [b0e ⟨by omega,by omega,by simp,hm,h2⟩]
   simp
theorem b2a {α:Type} {l:List α} {f:α→α→Prop} {c:α→Int} (h:Q4 f l) (hc:∀a b,f a b→c b<0→c a<0):∀i j (hi:i<l.length) (hj:j<l.length),i≤j→c l[j]<0→c l[i]<0:=by
 intro i j hi hj hij
 induction j with
 |zero=>
  obtain rfl:i=0:=by omega
  exact id
 |succ j ih=>
  intro h1
  by_cases e:i=j+1
  · subst e;exact h1
  · exact ih (by omega) (by omega) (hc _ _ (h j _ _ (List.getElem?_eq_getElem _) (List.getElem?_eq_getElem hj)) h1)
def a4Q (n:Int) (s:b7):Int:=a8i s.Night n
def a2U (b n:Int) (h:a8):Int:=b0z h.Ballot b h.Night n
def a1i (o n:Int) (l:b8):Int:=b0z l.Owner o l.No n
theorem b4b {me:Int} {s:b6} (h:F9 me s) (t:b7):∃i,Cut (a4Q t.Night) s.Slots i∧s6 s.Slots t=some ((i:Int),decide (∃x,s.Slots[i]?=some x∧a4Q t.Night x=0)):=by
 obtain⟨i,hi,e⟩:=a5O s.Slots (a4Q t.Night) (by have:=h.nslots;omega) (b2a h.rslots fun a b hab hb=>by unfold a4Q at*;rw [a6i]at*;unfold b2N at hab;omega) (fun x=>D3 x t) (fun x _=>a4g x t)
 refine⟨i,hi, ?_⟩
 unfold s6
 rw [show d9 s.Slots t=_ from e]
 rfl
theorem b3l {me:Int} {s:b6} (h:F9 me s) (t:a8):∃i,Cut (a2U t.Ballot t.Night) s.Heard i∧q9 s.Heard t=some ((i:Int),decide (∃x,s.Heard[i]?=some x∧a2U t.Ballot t.Night x=0)):=by
 obtain⟨i,hi,e⟩:=a5O s.Heard (a2U t.Ballot t.Night) (by have:=h.nheard;omega) (b2a h.rheard fun a b hab hb=>by unfold a2U at*;rw [a6P]at*;unfold a8u at hab;omega) (fun x=>D5 x t) (fun x _=>a4f x t)
 refine⟨i,hi, ?_⟩
 unfold q9
 rw [show d6 s.Heard t=_ from e]
 rfl
theorem a9z {me:Int} {s:b6} (h:F9 me s) (t:b8):∃i,Cut (a1i t.Owner t.No) s.Loans i∧l8 s.Loans t=some ((i:Int),decide (∃x,s.Loans[i]?=some x∧a1i t.Owner t.No x=0)):=by
 obtain⟨i,hi,e⟩:=a5O s.Loans (a1i t.Owner t.No) (by have:=h.nloans;omega) (b2a h.rloans fun a b hab hb=>by unfold a1i at*;rw [a6P]at*;unfold a5W at hab;omega) (fun x=>D2 x t) (fun x _=>a3Y x t)
 refine⟨i,hi, ?_⟩
 unfold l8
 rw [show i0 s.Loans t=_ from e]
 rfl
end Go.Proofs.YtcedmbakcchkiaaGreatDoor
namespace Go.Proofs.YtcedmbakcchkiaaGreatDoor
open Go Go.Sx
open Classical
theorem c0y {S E:Type} {body:S→Option (Sum S E)} (st:Nat→S) (n:Nat) (hn:n≤9223372036854775807) (fin:E) (h:∀k,k<n→body (st k)=some (.inl (st (k+1)))) (he:body (st n)=some (.inr fin)):u3 body (st 0)=some fin:=by
 have key:∀(m k N:Nat),k+m=n→m<N→a0x body N (st k)=some fin:=by
  intro m
  induction m with
  |zero=>
   intro k N hk hN
   cases N with
   |zero=>omega
   |succ N=>
    obtain rfl:k=n:=by omega
    simp only [a0x,he]
  |succ m ih=>
   intro k N hk hN
   cases N with
   |zero=>omega
   |succ N=>
    simp only [a0x,h k (by omega)]
    exact ih (k+1) N (by omega) (by omega)
 exact key n 0 a4m (by omega) (by unfold a4m;omega)
theorem b7C {α:Type} {l:List α} {k:Nat} {x:α} (h:l[k]?=some x):l.take (k+1)=l.take k++ [x]:=by
 rw [List.take_add_one,h];rfl
theorem c0U {α:Type} {c:α→Int} {l:List α} {i:Nat} {f:α→α→Prop} (h:Cut c l i) (hr:Q4 f l) (hf:∀a b,f a b→¬c a<0→0<c b):∀k y,i<k→l[k]?=some y→0<c y:=by
 intro k y hk hy
 obtain⟨hl,rfl⟩:=List.getElem?_eq_some_iff.1 hy
 obtain⟨m,rfl⟩:∃m,k=m+1:=⟨k-1,by omega⟩
 exact hf _ _ (hr m _ _ (List.getElem?_eq_getElem (by omega)) (List.getElem?_eq_getElem hl)) (h.hi m (by omega) (by omega))
theorem c1m {α:Type} {c:α→Int} {l:List α} {i k:Nat} {y:α} (h:Cut c l i) (hk:k<i) (hy:l[k]?=some y):c y<0:=by
 obtain⟨hl,rfl⟩:=List.getElem?_eq_some_iff.1 hy
 exact h.lo k hl hk
end Go.Proofs.YtcedmbakcchkiaaGreatDoor
namespace Go.Proofs.YtcedmbakcchkiaaGreatDoor
open Go Go.Sx
open Classical
def Z6 (m d:Int):Int:=(J6 m d).getD 0
def b5g (m d:Int):Bool:=(O9 m d).getD false
def b2T (d:Int):Int:=(a3g d).getD 0
set_option maxRecDepth 100000 in theorem mask_f : ∀ (m : Fin 64) (d : Fin 6), J6 (m.val : Int) (d.val : Int) = some (Z6 m.val d.val) ∧ (0 ≤ Z6 m.val d.val ∧ Z6 m.val d.val ≤ 63 ∧ Z6 m.val d.val ≠ 0) ∧ O9 (m.val : Int) (d.val : Int) = some (b5g m.val d.val) ∧ a3g (d.val : Int) = some (b2T d.val) ∧
    ((W ((BitVec.ofInt IntKind.i64.bits (m.val : Int) &&& BitVec.ofInt IntKind.i64.bits (b2T d.val)).toNat : Int)) != 0) = b5g m.val d.val ∧ (W ((BitVec.ofInt IntKind.i64.bits (m.val : Int) ||| BitVec.ofInt IntKind.i64.bits (b2T d.val)).toNat : Int)) = Z6 m.val d.val ∧ b2T d.val = Z6 0 d.val := by decide +kernel
theorem b5G {m d:Int} (hm:0≤m∧m≤63) (hd:0≤d∧d≤5):J6 m d=some (Z6 m d)∧(0≤Z6 m d∧Z6 m d≤63∧Z6 m d≠0)∧O9 m d=some (b5g m d)∧a3g d=some (b2T d)∧
 ((W ((BitVec.ofInt IntKind.i64.bits m&&&BitVec.ofInt IntKind.i64.bits (b2T d)).toNat:Int)) !=0)=b5g m d∧(W ((BitVec.ofInt IntKind.i64.bits m|||BitVec.ofInt IntKind.i64.bits (b2T d)).toNat:Int))=Z6 m d∧b2T d=Z6 0 d:=by
 have:=mask_f ⟨m.toNat,by omega⟩ ⟨d.toNat,by omega⟩
 simp only [Int.toNat_of_nonneg hm.1,Int.toNat_of_nonneg hd.1]at this
 exact this
def b5z (c:b5) (s:b7):b7:=if c.Ballot>s.Promised then⟨s.Night,c.Ballot,s.Ballot,s.Value⟩else s
def c0b (c:b5) (s:b7):b7:=if c.Ballot≥s.Promised then⟨s.Night,c.Ballot,c.Ballot,c.Value⟩else s
def b2f (c:b5) (h:a8):a8:=if h.Value=c.Value then⟨h.Night,h.Ballot,h.Value,Z6 h.Mask c.From⟩else h
def b0d (c:b5) (b:c3):c3:=if b.Night=c.Night∧b.Ballot=c.Ballot∧b.Asked=false∧b5g b.Mask c.From=false then⟨b.Night,b.Ballot,if c.Best>b.Best then c.Value else b.Value,if c.Best>b.Best then c.Best else b.Best,Z6 b.Mask c.From,qr (Z6 b.Mask c.From)⟩else b
def b3r (c:b5) (l:a7):a7:=if l.No=c.No∧l.Thing=c.Thing∧l.To=c.From then⟨l.No,l.Thing,l.To,l.From,min l.Until (max c.Until l.From)⟩else l
def a1A (c:b5):b7:=⟨c.Night,0,0,0⟩
def X3 (c:b5):a8:=⟨c.Night,c.Ballot,c.Value,0⟩
def a2J (c:b5):b8:=⟨c.From,c.No,c.Thing,c.Start,c.Until,false⟩
inductive c0p {α:Type} (m:Option (Sum (List α×Int) Unit)) (c:α→Int) (new:α) (l:List α) (most:Nat):Prop
 |fits (i:Nat) (L:List α) (e:α) (hm:m=some (.inl (L,(i:Int)))) (he:L[i]?=some e) (hs:∀f,L.set i (f e)=upd c new f l) (hl:∀f,(upd c new f l).length≤most)
 |full (hm:m=some (.inr ())) (hl:∀f,¬(upd c new f l).length≤most)
theorem b1Y {α:Type} {c:α→Int} {l:List α} {new:α} {most:Nat} {i:Nat} {pl:Option (Int×Bool)} {ins:Int→Option (List α)} (hc:Cut c l i) (hl:l.length≤most) (hp:pl=some ((i:Int),decide (∃x,l[i]?=some x∧c x=0))) (hi:ins (i:Int)=some (l.take i++new::l.drop i)):
 c0p (Option.bind pl fun(x1,x2)=>if x2=true then some (.inl (l,x1))else if((l.length:Int)==(most:Int))=true then some (.inr ())else Option.bind (ins x1) fun x=>some (.inl (x,x1))) c new l most:=by
 subst hp
 by_cases h:∃x,l[i]?=some x∧c x=0
 · obtain⟨x,hx,h0⟩:=h
   refine .fits i l x ?_ hx (fun f=>(b1u hc hx h0 new f).1) (fun f=>by rw [(b1u hc hx h0 new f).2];exact hl)
   simp only [Option.bind_some]
   rw [if_pos (decide_eq_true ⟨x,hx,h0⟩)]
 · by_cases hf:l.length=most
   · refine .full ?_ (fun f=>by rw [(a8A hc h new f).2.2];omega)
     simp only [Option.bind_some]
     rw [if_neg (by simpa using h),if_pos (by rw [hf];simp)]
   · refine .fits i _ new ?_ (a8A hc h new id).1 (fun f=>(a8A hc h new f).2.1) (fun f=>by rw [(a8A hc h new f).2.2];omega)
     simp only [Option.bind_some]
     rw [if_neg (by simpa using h),if_neg (by rw [beq_iff_eq];omega),hi]
     rfl
theorem b0W {me:Int} {s:b6} (h:F9 me s) (c:b5):c0p (a0a c s.Slots) (a4Q c.Night) (a1A c) s.Slots 12:=by
 obtain⟨i,hi,e⟩:=b4b h (a1A c)
 have hn:s.Slots.length≤12:=by have:=h.nslots;omega
 exact b1Y (ins:=fun i=>I4 s.Slots i [a1A c]) hi hn e (b1T s.Slots i (a1A c) 32 (by have:=h.nslots;omega) (by omega) hi.le)
theorem b4L {me:Int} {s:b6} (h:F9 me s) (c:b5):c0p (Y7 c s.Heard) (a2U c.Ballot c.Night) (X3 c) s.Heard 60:=by
 obtain⟨i,hi,e⟩:=b3l h (X3 c)
 have hn:s.Heard.length≤60:=by have:=h.nheard;omega
 exact b1Y (ins:=fun i=>G5 s.Heard i [X3 c]) hi hn e (b1T s.Heard i (X3 c) 32 (by have:=h.nheard;omega) (by omega) hi.le)
theorem b7b {me:Int} {s:b6} (h:F9 me s) (c:b5):c0p (a0b c s.Loans) (a1i c.From c.No) (a2J c) s.Loans 60:=by
 obtain⟨i,hi,e⟩:=a9z h (a2J c)
 have hn:s.Loans.length≤60:=by have:=h.nloans;omega
 exact b1Y (ins:=fun i=>I3 s.Loans i [a2J c]) hi hn e (b1T s.Loans i (a2J c) 48 (by have:=h.nloans;omega) (by omega) hi.le)
theorem a3K {α:Type} {L:List α} {i:Nat} {e:α} (x:α) (h:L[i]?=some e):(L.set i x)[i]?=some x:=by
 have:=(List.getElem?_eq_some_iff.1 h).1
 simp [this]
def fits {α:Type} (l l0:List α) (most:Nat):List α×Bool:=if l.length≤most then(l,true)else(l0,false)
theorem b4Y {me:Int} {s:b6} (h:F9 me s) (c:b5):P8 c s.Slots=some (fits (upd (a4Q c.Night) (a1A c) (b5z c) s.Slots) s.Slots 12):=by
 unfold P8 N6 fits
 rcases b0W h c with⟨i,L,e,hm,he,hs,hl⟩|⟨hm,hl⟩
 · rw [if_pos (hl _),←hs]
   simp only [hm,Option.bind_some,Z2 he,b5z]
   by_cases hb:c.Ballot>e.Promised
   · simp [hb]
   · have:=hs id
     have h2:L.set i e=L:=by
      obtain⟨hi,rfl⟩:=List.getElem?_eq_some_iff.1 he
      exact List.set_getElem_self hi
     simp [hb,h2]
 · rw [if_neg (hl _)]
   simp only [hm,Option.bind_some]
theorem a2p {α:Type} {L:List α} {i:Nat} {e:α} (he:L[i]?=some e):L.set i e=L:=by
 obtain⟨hi,rfl⟩:=List.getElem?_eq_some_iff.1 he
 exact List.set_getElem_self hi
theorem b6O {me:Int} {s:b6} (h:F9 me s) (c:b5):R3 c s.Slots=some (fits (upd (a4Q c.Night) (a1A c) (c0b c) s.Slots) s.Slots 12):=by
 unfold R3 N6 fits
 rcases b0W h c with⟨i,L,e,hm,he,hs,hl⟩|⟨hm,hl⟩
 · rw [if_pos (hl _),←hs]
   simp only [hm,Option.bind_some,Z2 he,c0b]
   by_cases hb:c.Ballot≥e.Promised
   · simp only [hb,decide_true,if_true,Int.toNat_natCast,Z2 (a3K _ he),Option.bind_some]
     have e1:=a3K (L:=L) (⟨e.Night,c.Ballot,e.Ballot,e.Value⟩:b7) he
     have e2:=a3K (L:=L) (⟨e.Night,c.Ballot,c.Ballot,e.Value⟩:b7) he
     simp only [Z2 e1,Option.bind_some,List.set_set,Z2 e2]
   · simp [hb,a2p he]
 · rw [if_neg (hl _)]
   simp only [hm,Option.bind_some]
theorem b3t {me:Int} {s:b6} (h:F9 me s) {c:b5} (hc:0≤c.From∧c.From≤5):O1 c s.Heard=some (fits (upd (a2U c.Ballot c.Night) (X3 c) (b2f c) s.Heard) s.Heard 60):=by
 unfold O1 fits
 rcases b4L h c with⟨i,L,e,hm,he,hs,hl⟩|⟨hm,hl⟩
 · rw [if_pos (hl _)]
   have hmask:0≤e.Mask∧e.Mask≤63:=by
    have hL:L=upd (a2U c.Ballot c.Night) (X3 c) id s.Heard:=by rw [←hs id];exact(a2p he).symm
    have hmem:e∈L:=List.mem_of_getElem? he
    rw [hL]at hmem
    have key:∀l:List a8,(∀x,x∈l→0≤x.Mask∧x.Mask≤63)→e∈upd (a2U c.Ballot c.Night) (X3 c) id l→0≤e.Mask∧e.Mask≤63:=by
     intro l
     induction l with
     |nil=>
      intro _ he
      simp only [upd,List.mem_singleton,id]at he
      subst he;simp [X3]
     |cons x l ih=>
      intro hx he
      unfold upd at he
      split at he
      · rcases List.mem_cons.1 he with rfl|he
        · exact hx _ List.mem_cons_self
        · exact ih (fun y hy=>hx y (List.mem_cons_of_mem _ hy)) he
      · split at he
        · exact hx _ he
        · rcases List.mem_cons.1 he with rfl|he
          · simp [X3]
          · exact hx _ he
    exact key _ (fun x hx=>(h.heard x hx).2.2.2.2) hmem
   have hw:=(b5G hmask hc).1
   rw [←hs]
   simp only [hm,Option.bind_some,Z2 he,b2f]
   by_cases hb:e.Value=c.Value
   · simp [hb,hw]
   · simp [hb,a2p he]
 · rw [if_neg (hl _)]
   simp only [hm,Option.bind_some]
theorem b8C {me:Int} {s:b6} (h:F9 me s) (c:b5):S2 c s.Loans=some (fits (upd (a1i c.From c.No) (a2J c) id s.Loans) s.Loans 60):=by
 unfold S2 fits
 rcases b7b h c with⟨i,L,e,hm,he,hs,hl⟩|⟨hm,hl⟩
 · rw [if_pos (hl _),←hs]
   simp only [hm,Option.bind_some,id,a2p he]
 · rw [if_neg (hl _)]
   simp only [hm,Option.bind_some]
theorem b7K {α:Type} {body:(Int×List α)→Option (Sum (Int×List α) (Int×List α))} (l:List α) (hl:l.length≤1000) (f:α→α)
 (h:∀(k:Nat) (v:List α) (x:α),v.length=l.length→l[k]?=some x→v[k]?=some x→body ((k:Int),v)=some (.inl (((k+1:Nat):Int),v.set k (f x))))
 (he:∀v:List α,v.length=l.length→body ((l.length:Int),v)=some (.inr ((l.length:Int),v))):u3 body (0,l)=some ((l.length:Int),l.map f):=by
 have:=c0y (body:=body) (fun k=>((k:Int),(l.take k).map f++l.drop k)) l.length (by omega) ((l.length:Int),l.map f) (fun k hk=>by
  obtain⟨x,hx⟩:=c2P hk
  have hlen:((l.take k).map f).length=k:=by simp;omega
  have hv:((l.take k).map f++l.drop k)[k]?=some x:=by
   rw [List.getElem?_append_right (by omega),hlen,Nat.sub_self,List.getElem?_drop]
   exact hx
  rw [h k _ x (by simp;omega) hx hv]
  congr 3
  rw [List.set_append_right _ _ (by omega),hlen,Nat.sub_self,b5U hx,List.set_cons_zero,b7C hx]
  simp) (by
  rw [he _ (by simp)]
  simp)
 simpa using this
theorem c0o {me:Int} {s:b6} (h:F9 me s) (c:b5):V1 c s.Leases=some (s.Leases.map (b3r c)):=by
 have hl:=h.nleases
 unfold V1
 rw [b7K s.Leases (by omega) (b3r c) (fun k v x hv hx hvx=>by
  have hk:=(List.getElem?_eq_some_iff.1 hx).1
  have hlt:((k:Int)<(s.Leases.length:Int)):=by omega
  have hw:W ((k:Int)+1)=((k+1:Nat):Int):=W_s (by omega)
  unfold K0 b3r
  simp only [hlt,decide_true,if_true,Z2 hvx,Option.bind_some,hw,b4H,b1X,Int.toNat_natCast]
  by_cases g1:x.No=c.No<;>by_cases g2:x.Thing=c.Thing<;>by_cases g3:x.To=c.From<;>simp [g1,g2,g3,a2p hvx]) (fun v hv=>by simp [K0])]
 rfl
end Go.Proofs.YtcedmbakcchkiaaGreatDoor
namespace Go.Proofs.YtcedmbakcchkiaaGreatDoor
open Go Go.Sx
open Classical
theorem b6V {α:Type} (l:List α) (hl:l.length≤9223372036854775807) (P:α→Option Bool) (Q:α→Prop) (hP:∀x,x∈l→Ans (P x) (Q x)) {m:Option Int}
 (hm:m=Option.bind (u3 (fun(v:Int)=>if(decide (v<(l.length:Int)))=true then Option.bind (idx l v) fun e=>Option.bind (P e) fun x=>if x=true then some (.inr (.inr v))else some (.inl (W (v+1)))else some (.inr (.inl v))) 0)
  fun(e:Sum Int Int)=>match e with| .inl _=>some (-1)| .inr r=>some r):(∃(j:Nat) (x:α),l[j]?=some x∧Q x∧m=some (j:Int))∨((∀x,x∈l→¬Q x)∧m=some (-1)):=by
 have hs:=a1u (body:=fun(v:Int)=>if(decide (v<(l.length:Int)))=true then Option.bind (idx l v) fun e=>Option.bind (P e) fun x=>if x=true then some (.inr (.inr v))else some (.inl (W (v+1)))else some (.inr (.inl v)))
  l.length hl (fun i=>match l[i]? with|some x=>if Q x then some (i:Int)else none|none=>none) 0 (Nat.zero_le _) (fun i _ h2=>by
   have hlt:((i:Int)<(l.length:Int)):=by omega
   simp only [hlt,decide_true,if_true,Z2 (List.getElem?_eq_getElem h2),Option.bind_some,(hP _ (List.getElem_mem h2)).eq,List.getElem?_eq_getElem h2]
   by_cases hp:Q l[i]
   · simp [hp]
   · simp [hp];exact W_s (by omega)) (by simp)
 rw [show((0:Nat):Int)=0 from rfl]at hs
 rw [hm,hs]
 by_cases hany:∃x,x∈l∧Q x
 · obtain⟨x,hx,hpx⟩:=hany
   obtain⟨i,hi,rfl⟩:=List.getElem_of_mem hx
   obtain⟨j,r,a,b,c,d⟩:=a5j (q:=fun i=>match l[i]? with|some x=>if Q x then some (i:Int)else none|none=>none) (l.length-0) 0 i (Nat.zero_le _) (by omega) (by simp [List.getElem?_eq_getElem hi,hpx])
   have hj:j<l.length:=by omega
   simp only [List.getElem?_eq_getElem hj]at c
   split at c
   · rename_i hq
     simp only [Option.some.injEq]at c
     subst c
     exact .inl ⟨j,l[j],List.getElem?_eq_getElem hj,hq,by rw [d];rfl⟩
   · cases c
 · right
   refine⟨fun x hx hq=>hany ⟨x,hx,hq⟩, ?_⟩
   rw [a2d _ _ (fun i _ h2=>by
    have hi:i<l.length:=by omega
    simp only [List.getElem?_eq_getElem hi]
    rw [if_neg (fun hq=>hany ⟨_,List.getElem_mem hi,hq⟩)])]
   rfl
theorem b5T {α:Type} {l:List α} {f:α→α} {j:Nat} {x:α} (hx:l[j]?=some x) (h:∀k y,k≠j→l[k]?=some y→f y=y):l.map f=l.set j (f x):=by
 refine List.ext_getElem? fun k=> ?_
 have hj:=(List.getElem?_eq_some_iff.1 hx).1
 rw [List.getElem?_map,List.getElem?_set]
 by_cases hk:j=k
 · subst hk;rw [if_pos rfl,if_pos hj,hx];rfl
 · rw [if_neg hk]
   cases hy:l[k]? with
   |none=>rfl
   |some y=>simp [h k y (fun e=>hk e.symm) hy]
theorem map_id {α:Type} {l:List α} {f:α→α} (h:∀x,x∈l→f x=x):l.map f=l:=by
 conv=>rhs;rw [←List.map_id l]
 exact List.map_congr_left fun x hx=>by rw [h x hx];rfl
theorem b4x {l:List c3} (h:a7X (fun a b=>a.Ballot=b.Ballot) l) {i j:Nat} {x y:c3} (hi:l[i]?=some x) (hj:l[j]?=some y) (e:x.Ballot=y.Ballot):i=j:=by
 rcases Nat.lt_trichotomy i j with hlt|he|hgt
 · exact absurd e (h j y hj x (List.mem_take_iff_getElem.2 ⟨i,by have:=(List.getElem?_eq_some_iff.1 hi).1;omega,(List.getElem?_eq_some_iff.1 hi).2⟩))
 · exact he
 · exact absurd e.symm (h i x hi y (List.mem_take_iff_getElem.2 ⟨j,by have:=(List.getElem?_eq_some_iff.1 hj).1;omega,(List.getElem?_eq_some_iff.1 hj).2⟩))
theorem b4p {me:Int} {s:b6} (h:F9 me s) {c:b5} (hc:0≤c.From∧c.From≤5):Q0 c s.Bids=some (s.Bids.map (b0d c)):=by
 have hl:=h.nbids
 unfold Q0
 rcases b6V s.Bids (by omega) (fun b=>Q6 b c) (fun b=>b.Night=c.Night∧b.Ballot=c.Ballot) (fun b _=>Ans.ite (by simp) fun _=>Ans.ofb (by simp)) (m:=q0 s.Bids c) rfl with⟨j,x,hx,⟨q1,q2⟩,hm⟩|⟨hn,hm⟩
 · have hv:=h.bids x (List.mem_of_getElem? hx)
   have hmask:=hv.2.2.2.2.2.1
   obtain⟨mw,mb,mh,_⟩:=b5G hmask hc
   have mq:=(b1f (n:=Z6 x.Mask c.From) ⟨mb.1,mb.2.1⟩).1
   have hset:s.Bids.map (b0d c)=s.Bids.set j (b0d c x):=b5T hx fun k y hk hy=>by
    unfold b0d
    rw [if_neg]
    rintro⟨_,e,_⟩
    exact hk (b4x h.ballots hy hx (by rw [e,q2]))
   have hj0:¬((j:Int)<0):=by omega
   rw [hset]
   simp only [hm,Option.bind_some,hj0,decide_false,Bool.false_eq_true,if_false,Z2 hx,mh,mw,mq,Int.toNat_natCast,b0d,q1,q2,true_and]
   by_cases ha:x.Asked=true
   · simp [ha,a2p hx]
   · by_cases hh:b5g x.Mask c.From=true
     · simp [ha,hh,a2p hx]
     · have e1:=a3K (L:=s.Bids) (⟨c.Night,c.Ballot,x.Value,x.Best,Z6 x.Mask c.From,x.Asked⟩:c3) hx
       have e2:=a3K (L:=s.Bids) (⟨c.Night,c.Ballot,x.Value,x.Best,Z6 x.Mask c.From,qr (Z6 x.Mask c.From)⟩:c3) hx
       have e3:=a3K (L:=s.Bids) (⟨c.Night,c.Ballot,x.Value,c.Best,Z6 x.Mask c.From,qr (Z6 x.Mask c.From)⟩:c3) hx
       have ha':x.Asked=false:=by simpa using ha
       have hh':b5g x.Mask c.From=false:=by simpa using hh
       simp only [ha',hh',Bool.false_eq_true,if_false,and_self,if_true]at e1 e2 e3⊢
       simp only [Z2 e1,Option.bind_some,List.set_set,Z2 e2]
       by_cases hb:c.Best>x.Best
       · simp only [hb,decide_true,if_true,Z2 e3,Option.bind_some]
       · simp only [hb,decide_false,Bool.false_eq_true,if_false]
 · rw [map_id (fun x hx=>by
    unfold b0d
    rw [if_neg]
    rintro⟨a,b,_⟩
    exact hn x hx ⟨a,b⟩)]
   simp [hm]
end Go.Proofs.YtcedmbakcchkiaaGreatDoor
namespace Go.Proofs.YtcedmbakcchkiaaGreatDoor
open Go Go.Sx
open Classical
theorem a2a (o n:Int) (y:b8):(a1i o n y<0↔y.Owner<o∨(y.Owner=o∧y.No<n))∧(a1i o n y=0↔y.Owner=o∧y.No=n):=⟨a6P,b9P⟩
theorem c1r {x:Int} (h1:¬x<0) (h2:¬x=0):0<x:=by omega
end Go.Proofs.YtcedmbakcchkiaaGreatDoor
namespace Go.Proofs.YtcedmbakcchkiaaGreatDoor
open Go Go.Sx
open Classical
noncomputable def b6a (s:b6) (c:b5):Option b6:=
 if c.Kind=1 then(if(upd (a4Q c.Night) (a1A c) (b5z c) s.Slots).length≤12 then some ⟨s.Round,upd (a4Q c.Night) (a1A c) (b5z c) s.Slots,s.Bids,s.Heard,s.Leases,s.Loans⟩else none)
 else if c.Kind=2 then some ⟨s.Round,s.Slots,s.Bids.map (b0d c),s.Heard,s.Leases,s.Loans⟩
 else if c.Kind=3 then(if(upd (a4Q c.Night) (a1A c) (c0b c) s.Slots).length≤12 then some ⟨s.Round,upd (a4Q c.Night) (a1A c) (c0b c) s.Slots,s.Bids,s.Heard,s.Leases,s.Loans⟩else none)
 else if c.Kind=4 then(if(upd (a2U c.Ballot c.Night) (X3 c) (b2f c) s.Heard).length≤60 then some ⟨s.Round,s.Slots,s.Bids,upd (a2U c.Ballot c.Night) (X3 c) (b2f c) s.Heard,s.Leases,s.Loans⟩else none)
 else if c.Kind=5 then(if(upd (a1i c.From c.No) (a2J c) id s.Loans).length≤60 then some ⟨s.Round,s.Slots,s.Bids,s.Heard,s.Leases,upd (a1i c.From c.No) (a2J c) id s.Loans⟩else none)
 else some ⟨s.Round,s.Slots,s.Bids,s.Heard,s.Leases.map (b3r c),s.Loans⟩
noncomputable def b0T (x:a6) (c:b5):a6×Int:=
 if A9 x then(if a7Y c∧c.To=x.Me then(match b6a x.Now c with|some s=>(⟨x.Me,s,x.Safe⟩,0)|none=>(Z0,2))else(Z0,91))else(Z0,90)
theorem a8Y (x:a6):M7 x=some (if A9 x then .inr (x.Now.Slots,x.Now.Bids,x.Now.Heard,x.Now.Leases,x.Now.Loans,x.Safe.Slots,x.Safe.Bids,x.Safe.Heard,x.Safe.Leases,x.Safe.Loans,x.Me,x.Now.Round,x.Safe.Round)else .inl 90):=by
 have e:=b2o x
 unfold Err at e
 unfold M7
 rw [e]
 by_cases h:A9 x
 · rw [if_pos h,if_pos h,a1x h.1,a1x h.2];rfl
 · rw [if_neg h,if_neg h];rfl
theorem a7Y.kinds {c:b5} (h:a7Y c):c.Kind=1∨c.Kind=2∨c.Kind=3∨c.Kind=4∨c.Kind=5∨c.Kind=6:=by
 rcases h.kind with h|h|h|h|h|h<;>simp [h.1]
theorem b6d (x:a6) (c:b5):K1 x c=some (b0T x c):=by
 unfold K1 b0T
 rw [a8Y]
 by_cases h:A9 x
 · rw [if_pos h,if_pos h]
   simp only [Option.bind_some,(isCall_a c).eq]
   by_cases hc:a7Y c
   · by_cases hto:c.To=x.Me
     · have e1:=b4Y h.1 c
       have e2:=b4p h.1 hc.from_
       have e3:=b6O h.1 c
       have e4:=b3t h.1 hc.from_
       have e5:=b8C h.1 c
       have e6:=c0o h.1 c
       unfold fits at e1 e3 e4 e5
       simp only [hc,hto,and_self,if_true,decide_true,Bool.not_true,Bool.false_eq_true,if_false,bne_self_eq_false]
       rcases hc.kinds with k|k|k|k|k|k
       all_goals simp only [k,Int.reduceBEq,Bool.false_eq_true,if_false,if_true,e1,e2,e3,e4,e5,e6,Option.bind_some,b6a,Int.reduceEq]
       · split<;>rfl
       · split<;>rfl
       · split<;>rfl
       · split<;>rfl
     · simp [hc,hto,Z0,S0]
   · simp [hc,Z0,S0]
 · rw [if_neg h,if_neg h];rfl
end Go.Proofs.YtcedmbakcchkiaaGreatDoor
namespace Go.Proofs.YtcedmbakcchkiaaGreatDoor
open Go Go.Sx
open Classical
def a5D (l:List a7) (y:a7):Prop:=∃o,o∈l∧o.Thing=y.Thing∧a3n o y
noncomputable def a6S (x:a6) (thing to_ from_ until_:Int):a6×Int:=
 if A9 x then(if 1≤thing∧thing≤99 then(if 0≤to_∧to_≤5 then(if 0≤from_∧from_≤144001439 then(if 0≤until_∧until_≤144001439 then
  (if thing % 6=x.Me then(if to_=x.Me then(Z0,1)else if from_>until_ then(Z0,95)else
   if a5D x.Now.Leases ⟨(x.Now.Leases.length:Int)+1,thing,to_,from_,until_⟩then(Z0,93)else if x.Now.Leases.length=40 then(Z0,2)else
   (⟨x.Me,⟨x.Now.Round,x.Now.Slots,x.Now.Bids,x.Now.Heard,x.Now.Leases++ [⟨(x.Now.Leases.length:Int)+1,thing,to_,from_,until_⟩],x.Now.Loans⟩,x.Safe⟩,0))else(Z0,92))else(Z0,95))else(Z0,95))else(Z0,1))else(Z0,1))else(Z0,90)
theorem b8Q (p:a6) (h:A9 p) (y:a7):Ans (S6 ⟨p⟩ y) (a5D p.Now.Leases y):=by
 have:=h.1.nleases
 exact(P4 p.Now.Leases (by omega) (fun o=>X4 o y) (fun o=>o.Thing=y.Thing∧a3n o y) fun o _=>Ans.ite (by simp) fun _=>(b8b _ _).id).id
theorem a8r (x:a6) (thing to_ from_ until_:Int):D0 x thing to_ from_ until_=some (a6S x thing to_ from_ until_):=by
 unfold D0 a6S
 rw [a8Y]
 by_cases h:A9 x
 · rw [if_pos h,if_pos h]
   have hn:=h.1.nleases
   have hw:W ((x.Now.Leases.length:Int)+1)=(x.Now.Leases.length:Int)+1:=a0p (by omega)
   have hp:(⟨⟨x.Me,⟨x.Now.Round,x.Now.Slots,x.Now.Bids,x.Now.Heard,x.Now.Leases,x.Now.Loans⟩,⟨x.Safe.Round,x.Safe.Slots,x.Safe.Bids,x.Safe.Heard,x.Safe.Leases,x.Safe.Loans⟩⟩⟩:F3)=⟨x⟩:=rfl
   have hd:c8 thing=some (thing.tmod 6):=rfl
   simp only [Option.bind_some,(a1Y thing).eq,(Y0 to_).eq,(P2 from_).eq,(P2 until_).eq,hw,hp,(b8Q x h _).eq,hd]
   by_cases h1:1≤thing∧thing≤99
   · have ht:thing.tmod 6=thing % 6:=a5u (by omega)
     by_cases h2:0≤to_∧to_≤5
     · by_cases h3:0≤from_∧from_≤144001439
       · by_cases h4:0≤until_∧until_≤144001439
         · simp only [h1,h2,h3,h4,and_self,decide_true,Bool.not_true,Bool.false_eq_true,if_false,if_true,ht]
           by_cases h5:thing % 6=x.Me
           · by_cases h6:to_=x.Me
             · simp [h5,h6,Z0,S0]
             · by_cases h7:from_>until_
               · simp [h5,h6,h7,Z0,S0]
               · by_cases h8:a5D x.Now.Leases ⟨(x.Now.Leases.length:Int)+1,thing,to_,from_,until_⟩
                 · simp [h5,h6,h7,h8,Z0,S0]
                 · rw [b0e (by simp;omega)]
                   simp only [h5,h6,h7,h8,bne_self_eq_false,Bool.false_eq_true,if_false,if_true,decide_false,beq_eq_false_iff_ne.2 h6]
                   by_cases h9:x.Now.Leases.length=40
                   · rw [if_pos h9,if_pos (by rw [h9];rfl)];rfl
                   · rw [if_neg h9,if_neg (by rw [beq_iff_eq];omega)]
           · simp [h5,Z0,S0]
         · simp [h1,h2,h3,h4,Z0,S0]
       · simp [h1,h2,h3,Z0,S0]
     · simp [h1,h2,Z0,S0]
   · simp [h1,Z0,S0]
 · rw [if_neg h,if_neg h];rfl
def b7u (o n m:Int) (y:b8):b8:=if y.Owner=o∧y.No=n∧y.Back=false then⟨y.Owner,y.No,y.Thing,y.From,min y.Until (max m y.From),true⟩else y
noncomputable def a8M (x:a6) (o n m:Int):a6×Int:=
 if A9 x then(if 0≤o∧o≤5 then(if 0≤m∧m≤144001439 then(if∃y,y∈x.Now.Loans∧y.Owner=o∧y.No=n∧y.Back=false then
  (⟨x.Me,⟨x.Now.Round,x.Now.Slots,x.Now.Bids,x.Now.Heard,x.Now.Leases,x.Now.Loans.map (b7u o n m)⟩,x.Safe⟩,0)else(Z0,94))else(Z0,95))else(Z0,1))else(Z0,90)
theorem b0u {me:Int} {s:b6} (h:F9 me s) {o n:Int} {i:Nat} (hi:Cut (a1i o n) s.Loans i):∀(k:Nat) (y:b8),s.Loans[k]?=some y→y.Owner=o→y.No=n→k=i:=by
 intro k y hy ho hno
 have h0:a1i o n y=0:=(a2a o n y).2.2 ⟨ho,hno⟩
 rcases Nat.lt_trichotomy k i with g|g|g
 · have:=c1m hi g hy;omega
 · exact g
 · have:=c0U hi h.rloans (f:=a5W) (fun a b hab ha=>by
    refine c1r ?_ ?_
    · rw [(a2a _ _ _).1]at*;unfold a5W at hab;omega
    · rw [(a2a _ _ _).1]at ha;rw [(a2a _ _ _).2];unfold a5W at hab;omega) k y g hy
   omega
theorem b6q (x:a6) (o n m:Int):a0i x o n m=some (a8M x o n m):=by
 unfold a0i a8M
 rw [a8Y]
 by_cases h:A9 x
 · rw [if_pos h,if_pos h]
   simp only [Option.bind_some,(Y0 o).eq,(P2 m).eq]
   by_cases h1:0≤o∧o≤5
   · by_cases h2:0≤m∧m≤144001439
     · obtain⟨i,hi,e⟩:=a9z h.1 (⟨o,n,0,0,0,false⟩:b8)
       simp only [h1,h2,and_self,decide_true,Bool.not_true,Bool.false_eq_true,if_false,if_true,e,Option.bind_some]
       have hi:Cut (a1i o n) x.Now.Loans i:=hi
       by_cases hx:∃y,x.Now.Loans[i]?=some y∧a1i o n y=0
       · obtain⟨y,hy,h0⟩:=hx
         have hex:decide (∃y,x.Now.Loans[i]?=some y∧a1i o n y=0)=true:=decide_eq_true ⟨y,hy,h0⟩
         obtain⟨q1,q2⟩:=(a2a o n y).2.1 h0
         rw [show(!decide (∃y,x.Now.Loans[i]?=some y∧a1i o n y=0))=false by rw [hex];rfl]
         simp only [Bool.false_eq_true,if_false,Z2 hy,Option.bind_some]
         by_cases hb:y.Back=true
         · have hno:¬∃y,y∈x.Now.Loans∧y.Owner=o∧y.No=n∧y.Back=false:=by
            rintro⟨z,hz,z1,z2,z3⟩
            obtain⟨k,hk,rfl⟩:=List.getElem_of_mem hz
            have hki:=b0u h.1 hi k _ (List.getElem?_eq_getElem hk) z1 z2
            rw [←hki,List.getElem?_eq_getElem hk]at hy
            rw [Option.some.inj hy,hb]at z3
            cases z3
           rw [if_pos hb,if_neg hno]
           rfl
         · have hb':y.Back=false:=by simpa using hb
           have hyes:∃y,y∈x.Now.Loans∧y.Owner=o∧y.No=n∧y.Back=false:=⟨y,List.mem_of_getElem? hy,q1,q2,hb'⟩
           rw [if_neg hb,if_pos hyes]
           have hm:x.Now.Loans.map (b7u o n m)=x.Now.Loans.set i (b7u o n m y):=b5T hy fun k z hk hz=>by
            unfold b7u
            rw [if_neg]
            rintro⟨z1,z2,_⟩
            exact hk (b0u h.1 hi k z hz z1 z2)
           have e1:=a3K (L:=x.Now.Loans) (⟨y.Owner,y.No,y.Thing,y.From,min y.Until (max m y.From),y.Back⟩:b8) hy
           rw [hm]
           simp only [b4H,b1X,Int.toNat_natCast,Z2 e1,Option.bind_some,List.set_set]
           unfold b7u
           rw [if_pos ⟨q1,q2,hb'⟩]
       · have hex:decide (∃y,x.Now.Loans[i]?=some y∧a1i o n y=0)=false:=decide_eq_false hx
         rw [show(!decide (∃y,x.Now.Loans[i]?=some y∧a1i o n y=0))=true by rw [hex];rfl]
         have hno:¬∃y,y∈x.Now.Loans∧y.Owner=o∧y.No=n∧y.Back=false:=by
          rintro⟨z,hz,z1,z2,z3⟩
          obtain⟨k,hk,rfl⟩:=List.getElem_of_mem hz
          have hki:=b0u h.1 hi k _ (List.getElem?_eq_getElem hk) z1 z2
          exact hx ⟨_,by rw [←hki];exact List.getElem?_eq_getElem hk,(a2a o n _).2.2 ⟨z1,z2⟩⟩
         simp only [if_true]
         rw [if_neg hno]
         rfl
     · simp [h1,h2,Z0,S0]
   · simp [h1,Z0,S0]
 · rw [if_neg h,if_neg h];rfl
end Go.Proofs.YtcedmbakcchkiaaGreatDoor
namespace Go.Proofs.YtcedmbakcchkiaaGreatDoor
open Go Go.Sx
open Classical
theorem b6T {α R:Type} {body:Int→Option (Sum Int (Sum Int R))} (l:List α) (hl:l.length≤1000) (q:α→Bool) (r:α→R) (h:∀(i:Nat) x,l[i]?=some x→body (i:Int)=some (if q x=true then .inr (.inr (r x))else .inl ((i+1:Nat):Int)))
 (he:body (l.length:Int)=some (.inr (.inl (l.length:Int)))):u3 body 0=some (match l.find? q with|some x=> .inr (r x)|none=> .inl (l.length:Int)):=by
 have:=b0Y (R:=R) (body:=body) l (by omega) (fun k (_:Unit)=>(k:Int)) (fun _ x=>if q x=true then .inr (r x)else .inl ()) .inr (fun _=> .inl (l.length:Int)) (fun _ _=>True) (fun pre x post s hp _=>by
  refine⟨?_,fun _ _=>trivial⟩
  rw [h pre.length x (by rw [hp];simp)]
  by_cases hq:q x=true<;>simp [hq]) (fun _ _=>he) () trivial
 rw [show((0:Nat):Int)=0 from rfl]at this
 rw [this]
 have key:∀l:List α,b0G (fun(_:Unit) x=>if q x=true then Sum.inr (r x)else Sum.inl ()) l ()=match l.find? q with|some x=> .inr (r x)|none=> .inl ():=by
  intro l
  induction l with
  |nil=>rfl
  |cons x l ih=>
   unfold b0G
   by_cases hq:q x=true
   · simp [hq]
   · simp [hq,ih]
 rw [key]
 cases l.find? q<;>rfl
def b6u (thing from_ until_ t m:Int):Prop:=thing=t∧from_≤m∧m<until_
def b8p (x:a6) (t m:Int):Prop:=if t % 6=x.Me then¬∃l,l∈x.Now.Leases∧b6u l.Thing l.From l.Until t m else∃l,l∈x.Now.Loans∧b6u l.Thing l.From l.Until t m
theorem c2a {x:a6} (h:A9 x) {t:Int} (ht:1≤t∧t≤99) (m:Int):Ans (V8 ⟨x⟩ t m) (b8p x t m):=by
 have n1:=h.1.nleases;have n2:=h.1.nloans
 have hd:c8 t=some (t % 6):=by show some (t.tmod 6)=_;rw [a5u (by omega)]
 unfold V8 b8p
 simp only [hd,Option.bind_some]
 by_cases g:t % 6=x.Me
 · rw [if_pos g,if_pos (by rw [beq_iff_eq];exact g)]
   exact(P4 x.Now.Leases (by omega) (fun l=>Y9 l t m) (fun l=>b6u l.Thing l.From l.Until t m) fun l _=>Ans.ite (by simp) fun _=>Ans.ite (by simp) fun _=> .of).not
 · rw [if_neg g,if_neg (by rw [beq_iff_eq];exact g)]
   exact(P4 x.Now.Loans (by omega) (fun l=>Z1 l t m) (fun l=>b6u l.Thing l.From l.Until t m) fun l _=>Ans.ite (by simp) fun _=>Ans.ite (by simp) fun _=> .of).id
noncomputable def b6S (x:a6) (t m:Int):Bool×Int:=if A9 x then(if 1≤t∧t≤99 then(if 0≤m∧m≤144001439 then(decide (b8p x t m),0)else(false,95))else(false,1))else(false,90)
theorem c0Y (x:a6) (t m:Int):v6 x t m=some (b6S x t m):=by
 unfold v6 b6S
 rw [b2G,(a1Y t).eq,(P2 m).eq]
 by_cases h:A9 x
 · simp only [h,if_true,Option.bind_some,a8l,bne_self_eq_false,Bool.false_eq_true,if_false]
   by_cases h1:1≤t∧t≤99
   · by_cases h2:0≤m∧m≤144001439
     · simp only [h1,h2,and_self,decide_true,Bool.not_true,Bool.false_eq_true,if_false,if_true,(c2a h h1 m).eq,Option.bind_some]
     · simp [h1,h2]
   · simp [h1]
 · simp [h,a8l]
end Go.Proofs.YtcedmbakcchkiaaGreatDoor
namespace Go.Proofs.YtcedmbakcchkiaaGreatDoor
open Go Go.Sx
open Classical
def okF (l:List a7) (thing long f:Int):Prop:=f+long≤144001439∧¬a5D l ⟨0,thing,0,f,f+long⟩
def b5F (T:Int→Prop) (ok:Int→Prop) (r:Int×Int):Prop:=((∀f,T f→¬ok f)∧r=(0,3))∨∃f,T f∧ok f∧(∀g,T g→ok g→f≤g)∧r=(f,0)
theorem b5F.one {T:Int→Prop} {ok:Int→Prop} {r s:Int×Int} (h1:b5F T ok r) (h2:b5F T ok s):r=s:=by
 rcases h1 with⟨a,rfl⟩|⟨f,a,b,c,rfl⟩
 · rcases h2 with⟨a',rfl⟩|⟨f',a',b',c',rfl⟩
   · rfl
   · exact absurd b' (a f' a')
 · rcases h2 with⟨a',rfl⟩|⟨f',a',b',c',rfl⟩
   · exact absurd b (a' f a)
   · have h1:=c f' a' b'
     have h2:=c' f a b
     have:f=f':=by omega
     rw [this]
def a3c (l:List a7) (thing from_ f:Int):Prop:=f=from_∨∃y,y∈l∧y.Thing=thing∧y.Until>from_∧f=y.Until
def b7G (l:List a7) (from_ f:Int):Prop:=f=from_∨∃y,y∈l∧¬y.Until<from_∧f=y.Until
theorem b7l (l:List a7) (thing from_:Int) {f:Int} (hf:from_≤f):∃g,a3c l thing from_ g∧g≤f∧∀y,y∈l→y.Thing=thing→y.Until>from_→y.Until≤f→y.Until≤g:=by
 induction l with
 |nil=>exact⟨from_, .inl rfl,hf,fun y hy=>by simp at hy⟩
 |cons x l ih=>
  obtain⟨g,h1,h2,h3⟩:=ih
  have up:∀ {g},a3c l thing from_ g→a3c (x::l) thing from_ g:=fun h=>by
   rcases h with h|⟨y,hy,a,b,c⟩
   · exact .inl h
   · exact .inr ⟨y,List.mem_cons_of_mem _ hy,a,b,c⟩
  by_cases hx:x.Thing=thing∧x.Until>from_∧x.Until≤f∧g<x.Until
  · refine⟨x.Until, .inr ⟨x,List.mem_cons_self,hx.1,hx.2.1,rfl⟩,hx.2.2.1,fun y hy a b c=> ?_⟩
    rcases List.mem_cons.1 hy with rfl|hy
    · exact Int.le_refl _
    · have:=h3 y hy a b c;omega
  · refine⟨g,up h1,h2,fun y hy a b c=> ?_⟩
    rcases List.mem_cons.1 hy with rfl|hy
    · by_cases hg:g<y.Until
      · exact absurd ⟨a,b,c,hg⟩ hx
      · omega
    · exact h3 y hy a b c
theorem b9x {l:List a7} {thing from_ f:Int} (h:a3c l thing from_ f):b7G l from_ f:=by
 rcases h with h|⟨y,hy,a,b,c⟩
 · exact .inl h
 · exact .inr ⟨y,hy,by omega,c⟩
theorem b7d {l:List a7} {from_ f:Int} (h:b7G l from_ f):from_≤f:=by
 rcases h with h|⟨y,hy,a,b⟩<;>omega
theorem b1A {l:List a7} {thing from_ f:Int} (h:a3c l thing from_ f):from_≤f:=b7d (b9x h)
theorem b1I {l:List a7} {thing from_ long f:Int} (hf:from_≤f) (hok:okF l thing long f):∃g,a3c l thing from_ g∧g≤f∧okF l thing long g:=by
 obtain⟨g,h1,h2,h3⟩:=b7l l thing from_ hf
 refine⟨g,h1,h2,⟨by have:=hok.1;omega, ?_⟩⟩
 rintro⟨o,ho,ht,hm⟩
 refine hok.2 ⟨o,ho,ht, ?_⟩
 unfold a3n at hm⊢
 simp only at hm⊢
 have hg:=b1A h1
 by_cases hu:o.Until≤f
 · have:=h3 o ho ht (by omega) hu
   omega
 · omega
end Go.Proofs.YtcedmbakcchkiaaGreatDoor
namespace Go.Proofs.YtcedmbakcchkiaaGreatDoor
open Go Go.Sx
open Classical
def a6g (thing from_:Int) (y:a7):List Int:=if y.Thing=thing∧y.Until>from_ then [y.Until]else []
theorem b3w (thing from_:Int) (y:a7):(a6g thing from_ y).length≤1:=by unfold a6g;split<;>simp
noncomputable def b3L (l:List a7) (thing from_ long:Int):Int×Int:=match(a0Q (from_::l.flatMap (a6g thing from_))).find? (fun f=>decide (okF l thing long f))with|some f=>(f,0)|none=>(0,3)
theorem b1s {l:List a7} {thing from_ f:Int}:f∈from_::l.flatMap (a6g thing from_)↔a3c l thing from_ f:=by
 rw [List.mem_cons,List.mem_flatMap]
 unfold a3c a6g
 constructor
 · rintro(h|⟨y,hy,h⟩)
   · exact .inl h
   · split at h
     · rename_i hc
       exact .inr ⟨y,hy,hc.1,hc.2,by simpa using h⟩
     · simp at h
 · rintro(h|⟨y,hy,a,b,c⟩)
   · exact .inl h
   · exact .inr ⟨y,hy,by rw [if_pos ⟨a,b⟩];simp [c]⟩
theorem c0v (l:List a7) (thing from_ long:Int):b5F (a3c l thing from_) (okF l thing long) (b3L l thing from_ long):=by
 unfold b3L
 have hs:=b2y (from_::l.flatMap (a6g thing from_))
 have hm:∀f,f∈a0Q (from_::l.flatMap (a6g thing from_))↔a3c l thing from_ f:=fun f=>b0N.trans b1s
 generalize a0Q (from_::l.flatMap (a6g thing from_))=s at hs hm
 cases hf:s.find? (fun f=>decide (okF l thing long f))with
 |none=>
  refine .inl ⟨fun f h1 h2=> ?_,rfl⟩
  have:=List.find?_eq_none.1 hf f ((hm f).2 h1)
  simp [h2]at this
 |some f=>
  obtain⟨h1,l1,l2,rfl,h2⟩:=List.find?_eq_some_iff_append.1 hf
  refine .inr ⟨f,(hm f).1 (by simp),by simpa using h1,fun g hg hok=> ?_,rfl⟩
  have hg:=(hm g).2 hg
  rw [List.pairwise_append,List.pairwise_cons]at hs
  rcases List.mem_append.1 hg with hg|hg
  · have:=h2 g hg
    simp [hok]at this
  · rcases List.mem_cons.1 hg with rfl|hg
    · exact Int.le_refl _
    · exact hs.2.1.1 g hg
noncomputable def b5R (x:a6) (thing from_ until_:Int):Int×Int:=
 if A9 x then(if 1≤thing∧thing≤99 then(if 0≤from_∧from_≤144001439 then(if 0≤until_∧until_≤144001439 then(if thing % 6=x.Me then(if from_>until_ then(0,95)else b3L x.Now.Leases thing from_ (until_-from_))else(0,92))else(0,95))else(0,95))else(0,1))else(0,90)
theorem c0r (x:a6) (thing from_ until_:Int):M2 x thing from_ until_=some (b5R x thing from_ until_):=by
 unfold M2 b5R
 rw [b2G,(a1Y thing).eq,(P2 from_).eq,(P2 until_).eq]
 by_cases h:A9 x
 · simp only [h,if_true,Option.bind_some,a8l,bne_self_eq_false,Bool.false_eq_true,if_false]
   by_cases h1:1≤thing∧thing≤99
   · have hd:c8 thing=some (thing % 6):=by show some (thing.tmod 6)=_;rw [a5u (by omega)]
     by_cases h2:0≤from_∧from_≤144001439
     · by_cases h3:0≤until_∧until_≤144001439
       · simp only [h1,h2,h3,and_self,decide_true,Bool.not_true,Bool.false_eq_true,if_false,if_true,hd,Option.bind_some]
         by_cases h4:thing % 6=x.Me
         · have h4':(thing % 6 !=x.Me)=false:=by rw [bne_eq_false_iff_eq];exact h4
           simp only [h4,h4',bne_self_eq_false,Bool.false_eq_true,if_false,if_true]
           by_cases h5:from_>until_
           · simp only [h5,decide_true,if_true]
           · simp only [h5,decide_false,Bool.false_eq_true,if_false]
             have hn:=h.1.nleases
             have hl:=b8G (body:=M8 thing from_ ⟨x⟩) x.Now.Leases (by omega) (fun k a=>((k:Int),a)) (a6g thing from_) [from_] (by simp) (fun y=>by have:=b3w thing from_ y;omega) (fun pre y post a hp ha=>by
              have hw:W ((pre.length:Int)+1)=((pre.length+1:Nat):Int):=W_s (by rw [hp]at hn;simp at hn;omega)
              unfold M8 a6g
              simp only [hp,a9i,decide_true,if_true,a6U,Option.bind_some,hw]
              by_cases g1:y.Thing=thing<;>by_cases g2:y.Until>from_<;>simp [g1,g2,gd]<;>omega) (fun a=>by simp [M8])
             simp only [show((0:Nat):Int)=0 from rfl,List.singleton_append]at hl
             have hfl:=a0S (a6g thing from_) 1 (b3w thing from_) x.Now.Leases
             rw [hl]
             simp only [Option.bind_some]
             unfold J3
             rw [b0e (by simp only [List.length_cons];omega)]
             simp only [Option.bind_some]
             have hmem:∀f,f∈a0Q (from_::x.Now.Leases.flatMap (a6g thing from_))→0≤f∧f≤144001439:=fun f hf=>by
              rcases b1s.1 (b0N.1 hf)with hh|⟨y,hy,a,b,c⟩
              · omega
              · have:=(h.1.leases y hy).2.2.2.2.2.1;omega
             have hlen:(a0Q (from_::x.Now.Leases.flatMap (a6g thing from_))).length≤1000:=by
              unfold a0Q
              rw [List.length_mergeSort]
              simp only [List.length_cons];omega
             unfold b3L
             generalize a0Q (from_::x.Now.Leases.flatMap (a6g thing from_))=s at hmem hlen
             rw [b6T s hlen (fun f=>decide (okF x.Now.Leases thing (until_-from_) f)) (fun f=>(f,(0:Int))) (fun i f hf=>by
              have hi:=(List.getElem?_eq_some_iff.1 hf).1
              have hlt:((i:Int)<(s.length:Int)):=by omega
              have hb:=hmem f (List.mem_of_getElem? hf)
              have hw:W (W (f+until_)-from_)=f+(until_-from_):=by rw [a0p (z:=f+until_) (by omega),a0p (by omega)];omega
              unfold R2
              simp only [hlt,decide_true,if_true,Z2 hf,Option.bind_some,hw,(P2 _).eq,(b8Q x h _).eq,W_s (show i<9223372036854775807 by omega)]
              by_cases g1:f+(until_-from_)≤144001439
              · have g1':0≤f+(until_-from_)∧f+(until_-from_)≤144001439:=by omega
                by_cases g2:a5D x.Now.Leases ⟨0,thing,0,f,f+(until_-from_)⟩
                · have:¬okF x.Now.Leases thing (until_-from_) f:=fun hk=>hk.2 g2
                  simp [g1',g2,this]
                · have:okF x.Now.Leases thing (until_-from_) f:=⟨g1,g2⟩
                  simp [g1',g2,this]
              · have g1':¬(0≤f+(until_-from_)∧f+(until_-from_)≤144001439):=by omega
                have:¬okF x.Now.Leases thing (until_-from_) f:=fun hk=>g1 hk.1
                simp only [g1',this,decide_false,Bool.false_eq_true,if_false]) (by simp [R2])]
             cases s.find? (fun f=>decide (okF x.Now.Leases thing (until_-from_) f))<;>rfl
         · have h4':(thing % 6 !=x.Me)=true:=by rw [bne_iff_ne];exact h4
           simp only [h4,h4',if_true,if_false]
       · simp [h1,h2,h3]
     · simp [h1,h2]
   · simp [h1]
 · simp [h,a8l]
end Go.Proofs.YtcedmbakcchkiaaGreatDoor
namespace Go.Proofs.YtcedmbakcchkiaaGreatDoor
open Go Go.Sx
open Classical
theorem a9s {m:Int} (n:Int) (hm:0<m∧m≤144001439):M6 n m=some (n % m):=by
 unfold M6
 simp only [gd,ne_eq,show¬m=0 by omega,not_false_eq_true,if_true,Option.some.injEq]
 have h3:=Int.tmod_eq_emod (a:=n) (b:=m)
 have h4:=Int.emod_nonneg n (show m≠0 by omega)
 have h5:=Int.emod_lt_of_pos n hm.1
 have h6:n.tmod m=n % m∨n.tmod m=n % m-m:=by
  rw [h3];split
  · exact .inl (by omega)
  · exact .inr (by omega)
 rcases h6 with h6|h6
 · rw [h6,a0p (by omega),Int.tmod_eq_emod_of_nonneg (by omega),Int.add_emod_right,Int.emod_eq_of_lt h4 h5]
 · rw [h6,a0p (by omega),show n % m-m+m=n % m by omega,Int.tmod_eq_emod_of_nonneg h4,Int.emod_eq_of_lt h4 h5]
structure Dl (D T to_ f u:Int):Prop where
 hD:0≤D∧D≤5
 hT:1≤T∧T≤99
 hTD:T % 6=D
 hto:0≤to_∧to_≤5
 hf:0≤f∧f≤390
 hu:f≤u∧u≤f+110
theorem b5q (a:a0j):∃T to_ f u,W9 a=some ⟨T,to_,f,u⟩∧Dl (a.Depot % 6) T to_ f u:=by
 unfold W9
 rw [a9L,a9L,a9s _ (by omega),a9s _ (by omega),a9s _ (by omega)]
 simp only [Option.bind_some]
 rw [a0p (z:=1+a.Thing % 3) (by omega),a0p (z:=6*(1+a.Thing % 3)) (by omega),a0p (z:=a.Depot % 6+6*(1+a.Thing % 3)) (by omega),a0p (z:=a.From % 40*10) (by omega),a0p (z:=a.Long % 12*10) (by omega),a0p (z:=a.From % 40*10+a.Long % 12*10) (by omega)]
 exact⟨_,_,_,_,rfl,by omega,by omega,by omega,by omega,by omega,by omega⟩
theorem a5a {α:Type} {f:α→α→Prop} {l:List α} (h:l.length≤1):Q4 f l:=fun i a b _ hb=>by
 have:=(List.getElem?_eq_some_iff.1 hb).1;omega
theorem b0K {α:Type} {f:α→α→Prop} {l:List α} (h:l.length≤1):a7X f l:=fun i x hx y hy=>by
 have:=(List.getElem?_eq_some_iff.1 hx).1
 obtain rfl:i=0:=by omega
 simp at hy
theorem vst {me:Int} {L:List a7} {M:List b8} (hd:0≤me∧me≤5) (l1:L.length≤1) (m1:M.length≤1) (hL:∀l,l∈L→a6h me l∧l.No=1) (hM:∀l,l∈M→a9w me l):F9 me ⟨0, [], [], [],L,M⟩ where
 dep:=hd
 round:=⟨Int.le_refl _,by show(0:Int)≤9999;omega⟩
 nslots:=by simp
 slots:=fun x hx=>by cases hx
 nbids:=by simp
 bids:=fun x hx=>by cases hx
 nheard:=by simp
 heard:=fun x hx=>by cases hx
 nleases:=by show(L.length:Int)≤40;omega
 leases:=fun x hx=>(hL x hx).1
 nloans:=by show(M.length:Int)≤60;omega
 loans:=hM
 rslots:=a5a (by simp)
 rbids:=a5a (by simp)
 rheard:=a5a (by simp)
 rloans:=a5a m1
 ballots:=b0K (by simp)
 nos:=fun i x hx=>by
  have hx:L[i]?=some x:=hx
  have:=(List.getElem?_eq_some_iff.1 hx).1
  obtain rfl:i=0:=by omega
  have:=(hL x (List.mem_of_getElem? hx)).2
  simp [this]
 meets:=b0K l1
theorem vs0 {me:Int} (hd:0≤me∧me≤5):F9 me S0:=vst hd (by simp) (by simp) (fun x hx=>by cases hx) (fun x hx=>by cases hx)
def sL (T to_ f u:Int):b6:=⟨0, [], [], [], [⟨1,T,to_,f,u⟩], []⟩
def sM (D T f u:Int) (b:Bool):b6:=⟨0, [], [], [], [], [⟨D,1,T,f,u,b⟩]⟩
section
variable {D T to_ f u : Int}
theorem Dl.vL (h:Dl D T to_ f u) (hne:to_≠D) {v:Int} (hv:f≤v∧v≤u):F9 D (sL T to_ f v):=by
 obtain⟨_,_,_,_,_,_⟩:=h
 refine vst (by omega) (by simp) (by simp) (fun l hl=> ?_) (fun x hx=>by cases hx)
 rw [List.mem_singleton]at hl
 subst hl
 refine⟨⟨?_, ?_, ?_, ?_, ?_, ?_, ?_⟩,rfl⟩<;>simp only<;>omega
theorem Dl.vM (h:Dl D T to_ f u) (hne:to_≠D) {v:Int} (hv:f≤v∧v≤u) (b:Bool):F9 to_ (sM D T f v b):=by
 obtain⟨_,_,_,_,_,_⟩:=h
 refine vst (by omega) (by simp) (by simp) (fun x hx=>by cases hx) (fun l hl=> ?_)
 rw [List.mem_singleton]at hl
 subst hl
 refine⟨?_, ?_, ?_, ?_, ?_, ?_, ?_, ?_⟩<;>simp only<;>omega
theorem c0u (h:Dl D T to_ f u) (hne:to_≠D):a6S ⟨D,S0,S0⟩ T to_ f u=(⟨D,sL T to_ f u,S0⟩,0):=by
 have v:=vs0 h.hD
 obtain⟨h1,h2,h3,h4,h5,h6⟩:=h
 unfold a6S
 rw [if_pos ⟨v,v⟩,if_pos h2,if_pos h4,if_pos (by omega),if_pos (by omega),if_pos h3,if_neg hne,if_neg (by omega),if_neg (by rintro⟨o,ho,_⟩;cases ho),if_neg (by simp [S0])]
 rfl
theorem b7p (h:Dl D T to_ f u) (he:to_=D):a6S ⟨D,S0,S0⟩ T to_ f u=(Z0,1):=by
 have v:=vs0 h.hD
 obtain⟨h1,h2,h3,h4,h5,h6⟩:=h
 unfold a6S
 rw [if_pos ⟨v,v⟩,if_pos h2,if_pos h4,if_pos (by omega),if_pos (by omega),if_pos h3,if_pos he]
theorem b3H {me:Int} {s t:b6} (hs:F9 me s) (ht:F9 me t):b2u ⟨me,s,t⟩=(⟨me,s,s⟩,0):=by
 unfold b2u
 rw [if_pos ⟨hs,ht⟩]
theorem b3D {me:Int} {s t:b6} (hs:F9 me s) (ht:F9 me t) {to_:Int} (h:0≤to_∧to_≤5):b2M ⟨me,s,t⟩ to_=(a9W me to_ t,0):=by
 unfold b2M
 rw [if_pos ⟨hs,ht⟩,if_pos h]
def gC (D T to_ f u:Int):b5:=⟨5,D,to_,0,0,0,0,1,T,f,u⟩
def bC (D T to_ u:Int):b5:=⟨6,to_,D,0,0,0,0,1,T,0,u⟩
theorem c3N:a9W D to_ (sL T to_ f u)= [gC D T to_ f u]:=by simp [a9W,sL,a5U,gC]
theorem c3t:a9W to_ D (sM D T f u true)= [bC D T to_ u]:=by simp [a9W,sM,b0q,bC]
theorem c2K (h:Dl D T to_ f u) (hne:to_≠D):b0T ⟨to_,S0,S0⟩ (gC D T to_ f u)=(⟨to_,sM D T f u false,S0⟩,0):=by
 have v:=vs0 h.hto
 obtain⟨h1,h2,h3,h4,h5,h6⟩:=h
 have hc:a7Y (gC D T to_ f u):=⟨h1,h4,by
  refine .inr (.inr (.inr (.inr (.inl ⟨rfl,⟨?_, ?_, ?_, ?_,rfl,rfl,rfl,rfl⟩, ?_, ?_, ?_⟩))))<;>simp only [gC]<;>omega⟩
 unfold b0T
 rw [if_pos ⟨v,v⟩,if_pos ⟨hc,rfl⟩]
 simp [b6a,gC,S0,upd,a2J,sM]
theorem c3P (h:Dl D T to_ f u) (hne:to_≠D) {b:Int} (hb:f≤b∧b≤f+129):a8M ⟨to_,sM D T f u false,S0⟩ D 1 b=(⟨to_,sM D T f (min u b) true,S0⟩,0):=by
 have v:=vs0 h.hto
 have w:=h.vM hne ⟨h.hu.1,Int.le_refl _⟩ false
 obtain⟨h1,h2,h3,h4,h5,h6⟩:=h
 unfold a8M
 rw [if_pos ⟨w,v⟩,if_pos h1,if_pos (by omega),if_pos ⟨_,List.mem_singleton.2 rfl,rfl,rfl,rfl⟩]
 have e:max b f=b:=by omega
 simp [sM,b7u,e]
theorem c2S (h:Dl D T to_ f u) (hne:to_≠D) {b:Int} (hb:f≤b):b0T ⟨D,sL T to_ f u,sL T to_ f u⟩ (bC D T to_ (min u b))=(⟨D,sL T to_ f (min u b),sL T to_ f u⟩,0):=by
 have w:=h.vL hne ⟨h.hu.1,Int.le_refl _⟩
 obtain⟨h1,h2,h3,h4,h5,h6⟩:=h
 have hc:a7Y (bC D T to_ (min u b)):=⟨h4,h1,by
  refine .inr (.inr (.inr (.inr (.inr ⟨rfl,⟨?_, ?_, ?_, ?_,rfl,rfl,rfl,rfl⟩, ?_,rfl⟩))))<;>simp only [bC]<;>omega⟩
 unfold b0T
 rw [if_pos ⟨w,w⟩,if_pos ⟨hc,rfl⟩]
 have e:min u (max (min u b) f)=min u b:=by omega
 simp [b6a,bC,sL,b3r,e]
theorem b5y {me:Int} {t:b6} (hv:F9 me (sL T to_ f u)) (ht:F9 me t) (hT:1≤T∧T≤99) (hm:T % 6=me) {m:Int} (h:0≤m∧m≤144001439):b6S ⟨me,sL T to_ f u,t⟩ T m=(decide (¬(f≤m∧m<u)),0):=by
 unfold b6S
 rw [if_pos ⟨hv,ht⟩,if_pos hT,if_pos h]
 congr 1
 rw [decide_eq_decide]
 unfold b8p
 rw [if_pos hm]
 simp [sL,b6u]
theorem b5D {me:Int} {t:b6} {b:Bool} (hv:F9 me (sM D T f u b)) (ht:F9 me t) (hT:1≤T∧T≤99) (hm:T % 6≠me) {m:Int} (h:0≤m∧m≤144001439):b6S ⟨me,sM D T f u b,t⟩ T m=(decide (f≤m∧m<u),0):=by
 unfold b6S
 rw [if_pos ⟨hv,ht⟩,if_pos hT,if_pos h]
 congr 1
 rw [decide_eq_decide]
 unfold b8p
 rw [if_neg hm]
 simp [sM,b6u]
end
theorem b9O {x:a6} (hv:A9 x) {T to_ g h:Int} (hT:1≤T∧T≤99) (hto:0≤to_∧to_≤5) (hm:T % 6=x.Me) (hne:to_≠x.Me) (hn:x.Now.Leases.length≤1) (hg:0≤g∧g≤h∧h≤144001439):(a6S x T to_ g h).2=if a5D x.Now.Leases ⟨0,T,0,g,h⟩then 93 else 0:=by
 have e:a5D x.Now.Leases ⟨(x.Now.Leases.length:Int)+1,T,to_,g,h⟩↔a5D x.Now.Leases ⟨0,T,0,g,h⟩:=Iff.rfl
 unfold a6S
 rw [if_pos hv,if_pos hT,if_pos hto,if_pos (by omega),if_pos (by omega),if_pos hm,if_neg hne,if_neg (by omega)]
 by_cases hl:a5D x.Now.Leases ⟨0,T,0,g,h⟩
 · rw [if_pos (e.2 hl),if_pos hl]
 · rw [if_neg (fun q=>hl (e.1 q)),if_neg hl,if_neg (by omega)]
end Go.Proofs.YtcedmbakcchkiaaGreatDoor
namespace Go.Proofs.YtcedmbakcchkiaaGreatDoor
open Go Go.Sx
set_option maxRecDepth 100000
def SB0:b6:=⟨0, [], [], [], [], []⟩
def SB1:b6:=⟨1, [], [⟨4,7,77,0,14,false⟩], [], [], []⟩
def SB2:b6:=⟨1, [], [⟨4,7,77,0,46,true⟩], [], [], []⟩
def SL:a6:=⟨2,⟨0, [], [], [], [⟨1,8,0,100,200⟩], []⟩,SB0⟩
theorem sn1:a7B=some (⟨1,SB1,SB0⟩,true):=by decide+kernel
theorem sn2:K1 ⟨1,SB1,SB0⟩ ⟨2,5,1,4,7,0,0,0,0,0,0⟩=some (⟨1,SB2,SB0⟩,0):=by decide+kernel
theorem sn3:N5 ⟨1,SB2,SB0⟩=some (⟨1,SB2,SB2⟩,0):=by decide+kernel
theorem sn4:N4 ⟨1,SB2,SB2⟩ 2=some ([⟨3,1,2,4,7,0,77,0,0,0,0⟩],0):=by decide+kernel
theorem sn5:L7 2=some (⟨2,SB0,SB0⟩,0):=by decide+kernel
theorem sn6:D0 ⟨2,SB0,SB0⟩ 8 0 100 200=some (SL,0):=by decide+kernel
theorem sn7:v6 SL 8 150=some (false,0):=by decide+kernel
theorem sn8:v6 SL 8 200=some (true,0):=by decide+kernel
theorem sn9:D0 SL 8 1 150 250=some (⟨0,SB0,SB0⟩,93):=by decide+kernel
theorem sna:J3 [150,200]=some [150,200]:=by
 have:a0Q [150,200]= [150,200]:=List.mergeSort_of_pairwise (by simp)
 unfold J3
 rw [this];rfl
theorem snb:P7 SL=some (some ⟨SL⟩,0):=by decide+kernel
theorem snc:u3 (M8 8 150 ⟨SL⟩) (0, [150])=some (1, [150,200]):=by decide+kernel
theorem snd:(Option.bind (u3 (R2 8 150 250 ⟨SL⟩ [150,200]) 0) fun e=>match e with| .inl _=>some ((0:Int),(3:Int))| .inr r=>some r)=some (200,0):=by decide+kernel
theorem sne:u6 8=some true:=by decide+kernel
theorem snf:c9 150=some true:=by decide+kernel
theorem sng:c9 250=some true:=by decide+kernel
theorem snh:M2 SL 8 150 250=some (200,0):=by
 unfold M2
 rw [snb]
 have h2:((SL.Me !=SL.Me)=true)=False:=by simp
 simp only [Option.bind_some,a8l,sne,snf,sng,snc,sna,show((0:Int) !=0)=false from rfl,Bool.false_eq_true,if_false,Bool.not_true,c8,show((8:Int).tmod 6 !=SL.Me)=false from rfl,show decide ((150:Int)>250)=false from rfl]
 exact snd
theorem sni:a0Z SB1=some (⟨#[114,111,117,110,100,32,49,10,98,105,100,32,52,32,55,32,55,55,32,48,32,49,52,32,48,10]⟩,0):=by decide+kernel
theorem snj:a0f [⟨3,1,2,4,7,0,77,0,0,0,0⟩] [⟨3,1,2,4,7,0,77,0,0,0,0⟩]=some true:=by decide+kernel
theorem b2C:a1z=some true:=by
 unfold a1z
 rw [sn1,Option.bind_some]
 dsimp only
 rw [sn2,Option.bind_some]
 dsimp only
 rw [sn3,Option.bind_some]
 dsimp only
 rw [sn4,Option.bind_some]
 dsimp only
 rw [if_neg (by decide),if_neg (by decide),if_neg (by decide),if_neg (by decide),if_neg (by decide),if_neg (by decide)]
 rw [show idx SB1.Bids 0=some ⟨4,7,77,0,14,false⟩ from rfl,Option.bind_some,if_pos (by decide)]
 rw [show idx SB2.Bids 0=some ⟨4,7,77,0,46,true⟩ from rfl,Option.bind_some]
 rw [snj,Option.bind_some,sn5,Option.bind_some]
 dsimp only
 rw [sn6,Option.bind_some]
 dsimp only
 rw [sn7,Option.bind_some]
 dsimp only
 rw [sn8,Option.bind_some]
 dsimp only
 rw [sn9,Option.bind_some]
 dsimp only
 rw [snh,Option.bind_some]
 dsimp only
 rw [sni,Option.bind_some]
 dsimp only
 rw [if_pos (by decide),if_pos (by decide),if_pos (by decide),if_pos (by decide),if_pos (by decide),if_pos (by decide),if_pos (by decide),if_pos (by decide),if_pos (by decide),if_pos (by decide),if_pos (by decide),if_pos (by decide)]
 rw [beq_self_eq_true]
end Go.Proofs.YtcedmbakcchkiaaGreatDoor
namespace Go.Proofs.YtcedmbakcchkiaaGreatDoor
open Go Go.Sx
open Classical
theorem b4T {D T to_ f u r:Int} (h:Dl D T to_ f u) (hne:to_≠D) (hr:0≤r∧r≤129):∃j,u3 (H5 ⟨T,to_,f,u⟩ ⟨D,sL T to_ f u,sL T to_ f u⟩ ⟨to_,sM D T f u false,S0⟩ r ⟨to_,sM D T f (min u (f+r)) true,sM D T f (min u (f+r)) true⟩ ⟨D,sL T to_ f (min u (f+r)),sL T to_ f u⟩) (if(W (f-3))>0 then(W (f-3))else 0)=some (.inl j):=by
 have v1:=h.vL hne ⟨h.hu.1,Int.le_refl _⟩
 have v2:=h.vM hne ⟨h.hu.1,Int.le_refl _⟩ false
 have v3:=h.vM hne (v:=min u (f+r)) (by have:=h.hu;omega) true
 have v4:=h.vL hne (v:=min u (f+r)) (by have:=h.hu;omega)
 have v0:=vs0 h.hto
 obtain⟨h1,h2,h3,h4,h5,h6⟩:=h
 have e0:W (f-3)=f-3:=a0p (by omega)
 have e1:W (u+3)=u+3:=a0p (by omega)
 have e2:W (f+r)=f+r:=a0p (by omega)
 have es:(if f-3>0 then f-3 else 0)=((max 0 (f-3)).toNat:Int):=by split<;>omega
 rw [e0,es]
 have hs:=a1u (body:=H5 ⟨T,to_,f,u⟩ ⟨D,sL T to_ f u,sL T to_ f u⟩ ⟨to_,sM D T f u false,S0⟩ r ⟨to_,sM D T f (min u (f+r)) true,sM D T f (min u (f+r)) true⟩ ⟨D,sL T to_ f (min u (f+r)),sL T to_ f u⟩) (u+3).toNat (by omega) (fun _=>none) (max 0 (f-3)).toNat (by omega) (fun i i1 i2=>by
  have hm:0≤(i:Int)∧(i:Int)≤144001439:=by omega
  have hw:=W_s (show i<9223372036854775807 by omega)
  unfold H5
  simp only [e1,e2,c0Y,b5y v1 v1 h2 h3 hm,b5D v2 v0 h2 (by omega) hm,b5D v3 v3 h2 (by omega) hm,b5y v4 v1 h2 h3 hm,Option.bind_some,show((i:Int)<u+3)=True from eq_true (by omega),decide_true,if_true,bne_self_eq_false,Bool.false_eq_true,if_false,hw,b1X]
  have hmin:min u (f+r)=min (f+r) u:=by omega
  rw [hmin]
  by_cases g1:f≤(i:Int)
  · by_cases g2:(i:Int)<u
    · by_cases g3:(i:Int)<min (f+r) u
      · simp [g1,g2,g3]
      · simp [g1,g2,g3]
    · have g3:¬(i:Int)<min (f+r) u:=by omega
      simp [g1,g2,g3]
  · simp [g1]) (by
  unfold H5
  simp only [e1,show(((u+3).toNat:Nat):Int)=u+3 by omega,Int.lt_irrefl,decide_false,Bool.false_eq_true,if_false])
 rw [hs,a2d _ _ (fun _ _ _=>rfl)]
 exact⟨_,rfl⟩
theorem a9j (a:a0j) (b_:a0j) (at_:Int) (_:a0j.G a) (_:a0j.G b_) (_:InK .i64 at_):a0O a b_ at_=some true:=by
 obtain⟨T,to_,f,u,ha,h⟩:=b5q a
 obtain⟨T',to',f',u',hb,h'⟩:=b5q b_
 unfold a0O
 rw [ha,a9L]
 simp only [Option.bind_some]
 rw [b7X,if_pos h.hD]
 simp only [Option.bind_some]
 by_cases hne:to_=a.Depot % 6
 · rw [if_pos (by simpa using hne),a8r,b7p h hne]
   simp only [Option.bind_some,beq_self_eq_true,if_true,b2C]
 · have v1:=h.vL hne ⟨h.hu.1,Int.le_refl _⟩
   have v0:=vs0 h.hD
   have w0:=vs0 h.hto
   have hr:0≤at_ % 130∧at_ % 130≤129:=by omega
   have hbk:W (f+at_ % 130)=f+at_ % 130:=a0p (by have:=h.hf;omega)
   have v3:=h.vM hne (v:=min u (f+at_ % 130)) (by have:=h.hu;omega) true
   have v4:=h.vL hne (v:=min u (f+at_ % 130)) (by have:=h.hu;omega)
   obtain⟨j,hj⟩:=b4T h hne hr
   rw [if_neg (by simpa using hne),b7X,if_pos h.hto]
   simp only [Option.bind_some]
   rw [a8r,c0u h hne]
   simp only [Option.bind_some]
   rw [b3O,b3H v1 v0]
   simp only [Option.bind_some]
   rw [b2U,b3D v1 v1 h.hto,c3N]
   simp only [Option.bind_some,bne_self_eq_false,Bool.false_eq_true,if_false,List.length_singleton,show((1:Nat):Int)=1 from rfl]
   rw [show idx [gC (a.Depot % 6) T to_ f u] 0=some (gC (a.Depot % 6) T to_ f u) from rfl]
   simp only [Option.bind_some]
   rw [b6d,c2K h hne]
   simp only [Option.bind_some]
   rw [a9s at_ (by omega)]
   simp only [Option.bind_some]
   rw [hbk,b6q,c3P h hne (by omega)]
   simp only [Option.bind_some]
   rw [b3O,b3H v3 w0]
   simp only [Option.bind_some]
   rw [b2U,b3D v3 v3 h.hD,c3t]
   simp only [Option.bind_some,bne_self_eq_false,Bool.false_eq_true,if_false,List.length_singleton,show((1:Nat):Int)=1 from rfl]
   rw [show idx [bC (a.Depot % 6) T to_ (min u (f+at_ % 130))] 0=some (bC (a.Depot % 6) T to_ (min u (f+at_ % 130))) from rfl]
   simp only [Option.bind_some]
   rw [b6d,c2S h hne (by omega)]
   simp only [Option.bind_some,bne_self_eq_false,Bool.false_eq_true,if_false]
   rw [hj]
   simp only [Option.bind_some]
   rw [hb]
   simp only [Option.bind_some]
   obtain⟨k1,k2,k3,k4,k5,k6⟩:=h'
   rw [c0r]
   have hfr:b5R ⟨a.Depot % 6,sL T to_ f (min u (f+at_ % 130)),sL T to_ f u⟩ T f' u'=b3L [⟨1,T,to_,f,min u (f+at_ % 130)⟩] T f' (u'-f'):=by
    unfold b5R
    rw [if_pos ⟨v4,v1⟩,if_pos h.hT,if_pos (by omega),if_pos (by omega),if_pos h.hTD,if_neg (by omega)]
    rfl
   rw [hfr]
   have hF:=c0v [⟨1,T,to_,f,min u (f+at_ % 130)⟩] T f' (u'-f')
   have vw:A9 ⟨a.Depot % 6,sL T to_ f (min u (f+at_ % 130)),sL T to_ f u⟩:=⟨v4,v1⟩
   have hl:∀g k:Int,0≤g∧g≤k∧k≤144001439→(a6S ⟨a.Depot % 6,sL T to_ f (min u (f+at_ % 130)),sL T to_ f u⟩ T to_ g k).2=if a5D [⟨1,T,to_,f,min u (f+at_ % 130)⟩] ⟨0,T,0,g,k⟩then 93 else 0:=fun g k=>b9O (g:=g) (h:=k) vw h.hT h.hto h.hTD hne (Nat.le_refl 1)
   obtain⟨l1,l2,l3,l4,l5,l6⟩:=h
   rcases hF with⟨q,_⟩|⟨g,q1,q2,q3,hr'⟩
   · exfalso
     obtain⟨g,g1,_,g3⟩:=b1I (l:= [⟨1,T,to_,f,min u (f+at_ % 130)⟩]) (thing:=T) (from_:=f') (long:=u'-f') (f:=max f' u) (by omega) ⟨by omega,by
      rintro⟨o,ho,_,hm⟩
      rw [List.mem_singleton]at ho
      subst ho
      unfold a3n at hm
      simp only at hm
      omega⟩
     exact q g g1 g3
   · rw [hr']
     have hge:=b1A q1
     have hgle:g≤700:=by
      rcases q1 with q1|⟨y,hy,_,_,q1⟩
      · omega
      · rw [List.mem_singleton]at hy
        subst hy
        simp only at q1
        omega
     simp only [Option.bind_some,bne_self_eq_false,Bool.false_eq_true,if_false]
     rw [if_neg (by rw [decide_eq_true_eq];omega)]
     have w1:W (W (g+u')-f')=g+(u'-f'):=by rw [a0p (z:=g+u') (by omega),a0p (by omega)];omega
     rw [w1,a8r]
     have hl1:=hl g (g+(u'-f')) (by omega)
     rw [if_neg q2.2]at hl1
     simp only [Option.bind_some,hl1,bne_self_eq_false,Bool.false_eq_true,if_false]
     by_cases hgt:g>f'
     · have w2:W (g-f')=g-f':=a0p (by omega)
       have p1:=Int.emod_nonneg at_ (show g-f'≠0 by omega)
       have p2:=Int.emod_lt_of_pos at_ (show 0<g-f' by omega)
       have w3:W (f'+at_ % (g-f'))=f'+at_ % (g-f'):=a0p (by omega)
       have w4:W (W (f'+at_ % (g-f')+u')-f')=f'+at_ % (g-f')+(u'-f'):=by rw [a0p (z:=f'+at_ % (g-f')+u') (by omega),a0p (by omega)];omega
       rw [if_pos (by rw [decide_eq_true_eq];exact hgt),w2,a9s at_ (by omega)]
       simp only [Option.bind_some]
       rw [w3,w4,a8r]
       have hl2:=hl (f'+at_ % (g-f')) (f'+at_ % (g-f')+(u'-f')) (by omega)
       rw [if_pos (Classical.byContradiction fun hno=>by
        obtain⟨g',g1,g2,g3⟩:=b1I (l:= [⟨1,T,to_,f,min u (f+at_ % 130)⟩]) (thing:=T) (from_:=f') (long:=u'-f') (f:=f'+at_ % (g-f')) (by omega) ⟨by omega,hno⟩
        have:=q3 g' g1 g3
        omega)]at hl2
       simp only [Option.bind_some,hl2,beq_self_eq_true,if_true,b2C]
     · rw [if_neg (by rw [decide_eq_true_eq];exact hgt)]
       simp only [b2C,Option.bind_some]
end Go.Proofs.YtcedmbakcchkiaaGreatDoor
