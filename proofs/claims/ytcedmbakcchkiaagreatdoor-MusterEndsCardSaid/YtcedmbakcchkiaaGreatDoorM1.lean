/- What may be read at the types of the statement's parameters; plain facts. -/
import Derived.Test.YtcedmbakcchkiaaGreatDoorL2
set_option linter.unusedVariables false
set_option linter.unusedSimpArgs false
namespace Go.Proofs.YtcedmbakcchkiaaGreatDoor
open Go Go.RowKit Go.Sx
def N9.G (x:N9):Prop:=InK .i64 x.Kind∧InK .i64 x.Depot∧InK .i64 x.Night∧InK .i64 x.Value∧InK .i64 x.Thing∧InK .i64 x.To∧InK .i64 x.From∧InK .i64 x.Long∧InK .i64 x.Pick
theorem c5S:M4 Tryz.prog 63 N9.c N9.G:=
 (M4.struct Tryz.underlying63 (a0v.cons (s:=1) (M4.int Tryz.underlying3) (a0v.cons (s:=1) (M4.int Tryz.underlying3) (a0v.cons (s:=1) (M4.int Tryz.underlying3) (a0v.cons (s:=1) (M4.int Tryz.underlying3) (a0v.cons (s:=1) (M4.int Tryz.underlying3) (a0v.cons (s:=1) (M4.int Tryz.underlying3) (a0v.cons (s:=1) (M4.int Tryz.underlying3) (a0v.cons (s:=1) (M4.int Tryz.underlying3) (a0v.last (s:=1) (M4.int Tryz.underlying3) rfl (by kernel_rfl) rfl) rfl (by kernel_rfl)) rfl (by kernel_rfl)) rfl (by kernel_rfl)) rfl (by kernel_rfl)) rfl (by kernel_rfl)) rfl (by kernel_rfl)) rfl (by kernel_rfl)) rfl (by kernel_rfl)) (by kernel_rfl)).iso (fun x=>(⟨x.1,x.2.1,x.2.2.1,x.2.2.2.1,x.2.2.2.2.1,x.2.2.2.2.2.1,x.2.2.2.2.2.2.1,x.2.2.2.2.2.2.2.1,x.2.2.2.2.2.2.2.2⟩:N9)) (fun _=>rfl) (fun _ h=>h)
theorem c5i:M4 Tryz.prog 70 (fun l:(List N9)=> [.lst 9 l.length (l.flatMap N9.c)]) (fun l=>(l.length*72≤reachBytes∧l.length≤maxLen∧∀y:N9,y∈l→N9.G y)):=
 M4.slice Tryz.underlying70 c5S (by kernel_rfl) (by kernel_rfl) (fun _=>rfl) (fun _=>rfl) (by decide)
theorem c5G:M4 Tryz.prog 52 (fun(x:(Int×Int×Int))=> [DI x.1,DI x.2.1,DI x.2.2]) (fun x:(Int×Int×Int)=>(InK .i64 x.1∧InK .i64 x.2.1∧InK .i64 x.2.2)):=
 (M4.arr Tryz.underlying52 (a5I.cons (s:=1) (M4.int Tryz.underlying3) (a5I.cons (s:=1) (M4.int Tryz.underlying3) (a5I.last (s:=1) (M4.int Tryz.underlying3) rfl (by kernel_rfl) rfl) rfl (by kernel_rfl)) rfl (by kernel_rfl)) (by kernel_rfl)).iso (fun x=>x) (fun _=>rfl) (fun _ h=>h)
end Go.Proofs.YtcedmbakcchkiaaGreatDoor
namespace Go.Proofs.YtcedmbakcchkiaaGreatDoor
open Go Go.Sx
theorem a2G {z:Int} (h: -9223372036854775808≤z∧z≤9223372036854775807):W z=z:=b7U h
theorem W_s {k:Nat} (h:k<9223372036854775807):W ((k:Int)+1)=((k+1:Nat):Int):=c4p h
def b2p {R:Type} (q:Nat→Option R):Nat→Nat→Sum Nat R
 |k,0=> .inl k
 |k,m+1=>match q k with|none=>b2p q (k+1) m|some r=> .inr r
theorem a3R {R:Type} {body:Int→Option (Sum Int (Sum Int R))} (n:Nat) (hn:n≤9223372036854775807) (q:Nat→Option R) (k:Nat) (hk:k≤n)
 (h:∀i,k≤i→i<n→body (i:Int)=some (match q i with|none=> .inl ((i+1:Nat):Int)|some r=> .inr (.inr r)))
 (he:body (n:Int)=some (.inr (.inl (n:Int)))):
 s9 body (k:Int)=some (match b2p q k (n-k)with| .inl j=> .inl (j:Int)| .inr r=> .inr r):=by
 have key:∀(m k N:Nat),k+m=n→m<N→(∀i,k≤i→i<n→body (i:Int)=some (match q i with|none=> .inl ((i+1:Nat):Int)|some r=> .inr (.inr r)))→
  a0I body N (k:Int)=some (match b2p q k m with| .inl j=> .inl (j:Int)| .inr r=> .inr r):=by
  intro m
  induction m with
  |zero=>
   intro k N hkm hN _
   cases N with
   |zero=>omega
   |succ N=>
    have:k=n:=by omega
    subst this
    simp only [a0I,he,b2p]
  |succ m ih=>
   intro k N hkm hN hb
   cases N with
   |zero=>omega
   |succ N=>
    simp only [a0I,hb k (Nat.le_refl _) (by omega),b2p]
    cases hq:q k with
    |none=>exact ih (k+1) N (by omega) (by omega) (fun i h1 h2=>hb i (by omega) h2)
    |some r=>rfl
 exact key (n-k) k a3k (by omega) (by unfold a3k;omega) h
theorem a5j {R:Type} {q:Nat→Option R}:∀(m k:Nat),(∀i,k≤i→i<k+m→q i=none)→b2p q k m= .inl (k+m)
 |0,k,_=>rfl
 |m+1,k,h=>by
  simp only [b2p,h k (Nat.le_refl _) (by omega)]
  rw [a5j m (k+1) (fun i h1 h2=>h i (by omega) (by omega))]
  congr 1;omega
theorem a7q {R:Type} {q:Nat→Option R}:∀(m k i:Nat),k≤i→i<k+m→q i≠none→∃j r,k≤j∧j<k+m∧q j=some r∧b2p q k m= .inr r
 |0,k,i,h1,h2,_=>by omega
 |m+1,k,i,h1,h2,h3=>by
  cases hq:q k with
  |some r=>exact⟨k,r,Nat.le_refl _,by omega,hq,by simp only [b2p,hq]⟩
  |none=>
   have:k≠i:=fun e=>h3 (e▸hq)
   obtain⟨j,r,a,b,c,d⟩:=a7q m (k+1) i (by omega) (by omega) h3
   exact⟨j,r,by omega,by omega,c,by simp only [b2p,hq,d]⟩
theorem c0U {body:Int→Option (Sum Int (Sum Int Bool))} (n:Nat) (hn:n≤9223372036854775807) (q:Nat→Prop) [DecidablePred q] (k:Nat) (hk:k≤n)
 (h:∀i,k≤i→i<n→body (i:Int)=some (if q i then .inl ((i+1:Nat):Int)else .inr (.inr false)))
 (he:body (n:Int)=some (.inr (.inl (n:Int)))) (ans:Bool) (hb:ans=true↔∀i,k≤i→i<n→q i):
 (s9 body (k:Int)).bind (fun e=>match e with| .inl _=>some true| .inr r=>some r)=some ans:=by
 rw [a3R n hn (fun i=>if q i then none else some false) k hk (fun i h1 h2=>by rw [h i h1 h2];by_cases hq:q i<;>simp [hq]) he]
 by_cases hall:∀i,k≤i→i<n→q i
 · rw [a5j _ _ (fun i h1 h2=>by simp [hall i h1 (by omega)])]
   simp only [Option.bind_some,hb.2 hall]
 · have:∃i,k≤i∧i<n∧¬q i:=by
    refine Classical.byContradiction fun hn2=>hall fun i h1 h2=>Classical.byContradiction fun h3=>hn2 ⟨i,h1,h2,h3⟩
   obtain⟨i,h1,h2,h3⟩:=this
   obtain⟨j,r,a,b,c,d⟩:=a7q (q:=fun i=>if q i then none else some false) (n-k) k i h1 (by omega) (by simp [h3])
   have hr:r=false:=by
    by_cases hqj:q j
    · simp [hqj]at c
    · simpa [hqj]using c.symm
   rw [d,hr]
   have:ans=false:=by cases ans with|true=>exact absurd (hb.1 rfl) hall|false=>rfl
   simp only [Option.bind_some,this]
theorem b9C {body:Int→Option (Sum Int (Sum Int Bool))} (n:Nat) (hn:n≤9223372036854775807) (q:Nat→Prop) (k:Nat) (hk:k≤n)
 (h:∀i,k≤i→i<n→(q i∧body (i:Int)=some (.inl ((i+1:Nat):Int)))∨(¬q i∧body (i:Int)=some (.inr (.inr false))))
 (he:body (n:Int)=some (.inr (.inl (n:Int)))) (ans:Bool) (hb:ans=true↔∀i,k≤i→i<n→q i):
 (s9 body (k:Int)).bind (fun e=>match e with| .inl _=>some true| .inr r=>some r)=some ans:=by
 letI:DecidablePred q:=fun _=>Classical.propDecidable _
 exact c0U n hn q k hk (fun i h1 h2=>by rcases h i h1 h2 with⟨a,b⟩|⟨a,b⟩<;>simp only [b,a,if_true,if_false]) he ans hb
theorem b4Z {α:Type} (l:List α) (hl:l.length≤9223372036854775807) (P:α→Option Bool) (p:α→Bool) (hP:∀x,x∈l→P x=some (p x)):
 (Option.bind (Option.bind (s9 (fun(v:Int)=>if(decide (v<(l.length:Int)))=true then Option.bind (idx l v) fun e=>Option.bind (P e) fun x=>if x=true then some (.inr (.inr v))else some (.inl (W (v+1)))else some (.inr (.inl v))) 0)
  fun(e:Sum Int Int)=>match e with| .inl _=>some (-1)| .inr r=>some r) fun x=>some (decide (x≥0)))=some (l.any p):=by
 have hs:=a3R (body:=fun(v:Int)=>if(decide (v<(l.length:Int)))=true then Option.bind (idx l v) fun e=>Option.bind (P e) fun x=>if x=true then some (.inr (.inr v))else some (.inl (W (v+1)))else some (.inr (.inl v)))
  l.length hl (fun i=>match l[i]? with|some x=>if p x then some (i:Int)else none|none=>none) 0 (Nat.zero_le _) (fun i _ h2=>by
   have hx:idx l (i:Int)=some l[i]:=by simp [idx,h2]
   have hlt:((i:Int)<(l.length:Int)):=by omega
   simp only [hlt,decide_true,if_true,hx,Option.bind_some,hP _ (List.getElem_mem h2),List.getElem?_eq_getElem h2]
   by_cases hp:p l[i]=true
   · simp [hp]
   · simp [hp];exact W_s (by omega)) (by simp)
 rw [show((0:Int))=((0:Nat):Int) from rfl,hs]
 by_cases hany:l.any p=true
 · rw [hany]
   obtain⟨x,hx,hpx⟩:=List.any_eq_true.1 hany
   obtain⟨i,hi,rfl⟩:=List.getElem_of_mem hx
   obtain⟨j,r,a,b,c,d⟩:=a7q (q:=fun i=>match l[i]? with|some x=>if p x then some (i:Int)else none|none=>none) (l.length-0) 0 i (Nat.zero_le _) (by omega) (by simp [List.getElem?_eq_getElem hi,hpx])
   rw [d]
   have hj:j<l.length:=by omega
   simp only [List.getElem?_eq_getElem hj]at c
   split at c
   · simp only [Option.some.injEq]at c
     subst c
     simp
   · cases c
 · rw [a5j _ _ (fun i _ h2=>by
    have hi:i<l.length:=by omega
    simp only [List.getElem?_eq_getElem hi]
    rw [if_neg]
    intro hp
    exact hany (List.any_eq_true.2 ⟨l[i],List.getElem_mem hi,hp⟩))]
   simp [Bool.not_eq_true _▸hany]
end Go.Proofs.YtcedmbakcchkiaaGreatDoor
namespace Go.Proofs.YtcedmbakcchkiaaGreatDoor
open Go Go.Sx
open Classical
def Ans (m:Option Bool) (P:Prop):Prop:=∃b,m=some b∧(b=true↔P)
theorem Ans.eq {m:Option Bool} {P:Prop} (h:Ans m P):m=some (decide P):=by
 obtain⟨b,rfl,hb⟩:=h
 congr 1
 by_cases hp:P
 · rw [hb.2 hp];simp [hp]
 · have:b=false:=by cases b with|false=>rfl|true=>exact absurd (hb.1 rfl) hp
   rw [this];simp [hp]
theorem Ans.of {P:Prop} [Decidable P]:Ans (some (decide P)) P:=⟨_,rfl,by simp⟩
theorem Ans.ofb {b:Bool} {P:Prop} (h:b=true↔P):Ans (some b) P:=⟨b,rfl,h⟩
theorem Ans.yes {P:Prop} (h:P):Ans (some true) P:=⟨_,rfl,by simp [h]⟩
theorem Ans.no {P:Prop} (h:¬P):Ans (some false) P:=⟨_,rfl,by simp [h]⟩
theorem Ans.iff {m:Option Bool} {P Q:Prop} (h:Ans m P) (e:P↔Q):Ans m Q:=by
 obtain⟨b,hm,hb⟩:=h
 exact⟨b,hm,hb.trans e⟩
theorem Ans.id {m:Option Bool} {P:Prop} (h:Ans m P):Ans (Option.bind m fun x=>some x) P:=by
 obtain⟨b,rfl,hb⟩:=h
 exact⟨b,rfl,hb⟩
theorem Ans.not {m:Option Bool} {P:Prop} (h:Ans m P):Ans (Option.bind m fun x=>some (!x)) (¬P):=by
 obtain⟨b,rfl,hb⟩:=h
 exact⟨!b,rfl,by rw [←hb];simp⟩
theorem Ans.and {m n:Option Bool} {P Q:Prop} (h:Ans m P) (k:P→Ans n Q):Ans (Option.bind m fun x=>if x=true then n else some false) (P∧Q):=by
 obtain⟨b,rfl,hb⟩:=h
 by_cases hp:P
 · obtain⟨c,rfl,hc⟩:=k hp
   exact⟨c,by simp [hb.2 hp],by simp [hp,hc]⟩
 · have:b=false:=by cases b with|false=>rfl|true=>exact absurd (hb.1 rfl) hp
   exact⟨false,by simp [this],by simp [hp]⟩
theorem Ans.nand {m n:Option Bool} {P Q:Prop} (h:Ans m P) (k:P→Ans n Q):Ans (Option.bind m fun x=>if(!x)=true then some false else n) (P∧Q):=by
 obtain⟨b,rfl,hb⟩:=h
 by_cases hp:P
 · obtain⟨c,rfl,hc⟩:=k hp
   exact⟨c,by simp [hb.2 hp],by simp [hp,hc]⟩
 · have:b=false:=by cases b with|false=>rfl|true=>exact absurd (hb.1 rfl) hp
   exact⟨false,by simp [this],by simp [hp]⟩
theorem Ans.ite {n:Option Bool} {b:Bool} {P Q:Prop} (h:b=true↔P) (k:P→Ans n Q):Ans (if b=true then n else some false) (P∧Q):=Ans.and (m:=some b) (Ans.ofb h) k
def jn (i:Int) (b:Bool):Option (Sum Int (Sum Int Bool)):=if b=true then some (.inl (W (i+1)))else some (.inr (.inr false))
def Rnd (i:Int) (m:Option (Sum Int (Sum Int Bool))) (P:Prop):Prop:=∃b,m=jn i b∧(b=true↔P)
theorem Rnd.go {i:Int} {P:Prop} (h:P):Rnd i (some (.inl (W (i+1)))) P:=⟨true,rfl,by simp [h]⟩
theorem Rnd.end {i:Int} {P:Prop} (h:¬P):Rnd i (some (.inr (.inr false))) P:=⟨false,rfl,by simp [h]⟩
theorem Rnd.iff {i:Int} {m:Option (Sum Int (Sum Int Bool))} {P Q:Prop} (h:Rnd i m P) (e:P↔Q):Rnd i m Q:=by
 obtain⟨b,hm,hb⟩:=h
 exact⟨b,hm,hb.trans e⟩
theorem Rnd.nand {i:Int} {m:Option Bool} {n:Option (Sum Int (Sum Int Bool))} {P Q:Prop} (h:Ans m P) (k:P→Rnd i n Q):Rnd i (Option.bind m fun x=>if(!x)=true then some (.inr (.inr false))else n) (P∧Q):=by
 obtain⟨b,rfl,hb⟩:=h
 by_cases hp:P
 · obtain⟨c,rfl,hc⟩:=k hp
   exact⟨c,by simp [hb.2 hp],by simp [hp,hc]⟩
 · have:b=false:=by cases b with|false=>rfl|true=>exact absurd (hb.1 rfl) hp
   exact⟨false,by simp [this];rfl,by simp [hp]⟩
theorem Rnd.and {i:Int} {m:Option Bool} {n:Option (Sum Int (Sum Int Bool))} {P Q:Prop} (h:Ans m P) (k:¬P→Rnd i n Q):Rnd i (Option.bind m fun x=>if x=true then some (.inr (.inr false))else n) (¬P∧Q):=by
 obtain⟨b,rfl,hb⟩:=h
 by_cases hp:P
 · exact⟨false,by simp [hb.2 hp];rfl,by simp [hp]⟩
 · obtain⟨c,rfl,hc⟩:=k hp
   have:b=false:=by cases b with|false=>rfl|true=>exact absurd (hb.1 rfl) hp
   exact⟨c,by simp [this],by simp [hp,hc]⟩
theorem Rnd.ite {i:Int} {b:Bool} {n:Option (Sum Int (Sum Int Bool))} {P Q:Prop} (h:b=true↔¬P) (k:P→Rnd i n Q):Rnd i (if b=true then some (.inr (.inr false))else n) (P∧Q):=by
 by_cases hp:P
 · obtain⟨c,rfl,hc⟩:=k hp
   have:b=false:=by cases b with|false=>rfl|true=>exact absurd hp (h.1 rfl)
   exact⟨c,by simp [this],by simp [hp,hc]⟩
 · exact⟨false,by simp [h.2 hp];rfl,by simp [hp]⟩
theorem Rnd.get {i:Int} {α:Type} {l:List α} {j:Nat} (hj:j<l.length) {n:α→Option (Sum Int (Sum Int Bool))} {P:Prop} (h:Rnd i (n l[j]) P):Rnd i (Option.bind (idx l (j:Int)) n) P:=by
 have:Sx.idx l (j:Int)=some l[j]:=by simp [Sx.idx,hj]
 rw [this];exact h
theorem b5o {body:Int→Option (Sum Int (Sum Int Bool))} (n:Nat) (hn:n≤9223372036854775807) (q:Nat→Prop) (k:Nat) (hk:k≤n) (h:∀i:Nat,k≤i→i<n→Rnd (i:Int) (body (i:Int)) (q i))
 (he:body (n:Int)=some (.inr (.inl (n:Int)))):
 Ans ((s9 body (k:Int)).bind fun e=>match e with| .inl _=>some true| .inr r=>some r) (∀i,k≤i→i<n→q i):=by
 refine⟨decide (∀i,k≤i→i<n→q i), ?_,by simp⟩
 refine b9C n hn q k hk (fun i h1 h2=> ?_) he _ (by simp)
 obtain⟨b,hb,hq⟩:=h i h1 h2
 have hw:W ((i:Int)+1)=((i+1:Nat):Int):=W_s (by omega)
 cases b with
 |true=>exact .inl ⟨hq.1 rfl,by rw [hb];simp [jn,hw]⟩
 |false=>exact .inr ⟨fun h=>by simpa using hq.2 h,by rw [hb];rfl⟩
def Lp (m:Option (Sum Int Bool)) (P:Prop):Prop:=(P∧∃j,m=some (.inl j))∨(¬P∧m=some (.inr false))
theorem Lp.iff {m:Option (Sum Int Bool)} {P Q:Prop} (h:Lp m P) (e:P↔Q):Lp m Q:=by
 rcases h with⟨h,h'⟩|⟨h,h'⟩
 · exact .inl ⟨e.1 h,h'⟩
 · exact .inr ⟨fun q=>h (e.2 q),h'⟩
theorem Ans.loop {m:Option (Sum Int Bool)} {n:Option Bool} {P Q:Prop} (h:Lp m P) (k:P→Ans n Q):Ans (m.bind fun e=>match e with| .inl _=>n| .inr r=>some r) (P∧Q):=by
 rcases h with⟨h,j,rfl⟩|⟨h,rfl⟩
 · obtain⟨b,hb,hq⟩:=k h
   exact⟨b,hb,by simp [h,hq]⟩
 · exact⟨false,rfl,by simp [h]⟩
theorem Ans.lp {m:Option (Sum Int Bool)} {P:Prop} (h:Lp m P):Ans (m.bind fun e=>match e with| .inl _=>some true| .inr r=>some r) P:=(Ans.loop (Q:=True) h fun _=> .yes trivial).iff (by simp)
theorem b8x {body:Int→Option (Sum Int (Sum Int Bool))} (n:Nat) (hn:n≤9223372036854775807) (q:Nat→Prop) (h:∀i:Nat,i<n→Rnd (i:Int) (body (i:Int)) (q i))
 (he:body (n:Int)=some (.inr (.inl (n:Int)))):Lp (s9 body 0) (∀i,i<n→q i):=by
 by_cases hall:∀i,i<n→q i
 · have hs:=a3R (body:=body) n hn (fun _=>(none:Option Bool)) 0 (Nat.zero_le _) (fun i _ h2=>by
    obtain⟨b,hb,hq⟩:=h i h2
    rw [hb,hq.2 (hall i h2)];simp only [jn,if_true];rw [W_s (by omega)]) he
   rw [a5j _ _ (fun _ _ _=>rfl)]at hs
   exact .inl ⟨hall,_,hs⟩
 · refine .inr ⟨hall, ?_⟩
   have h2:=b5o n hn q 0 (Nat.zero_le _) (fun i _ h2=>h i h2) he
   have h3:=h2.eq
   rw [decide_eq_false (fun h=>hall fun i hi=>h i (Nat.zero_le _) hi)]at h3
   rw [show((0:Int))=((0:Nat):Int) from rfl]
   cases hl:s9 body ((0:Nat):Int)with
   |none=>rw [hl]at h3;cases h3
   |some e=>
    rw [hl]at h3
    cases e with
    |inl x=>simp at h3
    |inr r=>simp at h3;rw [h3]
theorem Rnd.loop {j:Int} {m:Option (Sum Int Bool)} {P:Prop} (h:Lp m P):Rnd j (m.bind fun e=>match e with| .inl _=>some (.inl (W (j+1)))| .inr r=>some (.inr (.inr r))) P:=by
 rcases h with⟨h,_,rfl⟩|⟨h,rfl⟩
 · exact .go h
 · exact .end h
theorem a0Z {α:Type} (l:List α) (hl:l.length≤9223372036854775807) (P:α→Option Bool) (Q:α→Prop) (hP:∀x,x∈l→Ans (P x) (Q x)):
 Ans (Option.bind (Option.bind (s9 (fun(v:Int)=>if(decide (v<(l.length:Int)))=true then Option.bind (idx l v) fun e=>Option.bind (P e) fun x=>if x=true then some (.inr (.inr v))else some (.inl (W (v+1)))else some (.inr (.inl v))) 0)
  fun(e:Sum Int Int)=>match e with| .inl _=>some (-1)| .inr r=>some r) fun x=>some (decide (x≥0))) (∃x,x∈l∧Q x):=
 ⟨_,b4Z l hl P (fun x=>decide (Q x)) (fun x hx=>(hP x hx).eq),by simp⟩
theorem b1z {α:Type} {l:List α} {most:Int} {C:Option Bool} {ok:α→Prop} (hC:l.length≤9223372036854775807→Ans C (∃x,x∈l∧¬ok x)) (hm:most≤9223372036854775807):
 Ans (if(decide ((l.length:Int)≤most))=true then Option.bind C fun x=>some (!x)else some false) ((l.length:Int)≤most∧∀x,x∈l→ok x):=
 Ans.ite (by simp) fun h=>(hC (by omega)).not.iff (by simp)
def I4 {α:Type} (f:α→α→Prop) (l:List α):Prop:=∀i a b,l[i]?=some a→l[i+1]?=some b→f a b
theorem b0N {α:Type} (l:List α) (hl:l.length≤9223372036854775807) (cmp:α→α→Option Int) (c:α→α→Int) (f:α→α→Prop) (hc:∀a b,cmp a b=some (c a b)) (hf:∀a b,c a b<0↔f a b):
 Ans (Option.bind (s9 (fun(i:Int)=>if(decide (i<(l.length:Int)))=true then Option.bind (idx l (W (i-1))) fun a=>Option.bind (idx l i) fun b=>Option.bind (cmp a b) fun x=>
  if(decide (x≥0))=true then some (.inr (.inr false))else some (.inl (W (i+1)))else some (.inr (.inl i))) 1) fun(e:Sum Int Bool)=>match e with| .inl _=>some true| .inr r=>some r) (I4 f l):=by
 by_cases h0:l.length=0
 · refine⟨true, ?_,by simp;intro i a b h1 _;rw [List.getElem?_eq_none (by omega)]at h1;cases h1⟩
   have:=a3R (R:=Bool) (body:=fun(i:Int)=>if(decide (i<(l.length:Int)))=true then Option.bind (idx l (W (i-1))) fun a=>Option.bind (idx l i) fun b=>Option.bind (cmp a b) fun x=>
    if(decide (x≥0))=true then some (.inr (.inr false))else some (.inl (W (i+1)))else some (.inr (.inl i))) 1 (by omega) (fun _=>none) 1 (Nat.le_refl _) (fun i h1 h2=>by omega) (by simp [h0])
   exact(congrArg (fun o=>Option.bind o _) this).trans rfl
 · refine(b5o (body:=fun(i:Int)=>if(decide (i<(l.length:Int)))=true then Option.bind (idx l (W (i-1))) fun a=>Option.bind (idx l i) fun b=>Option.bind (cmp a b) fun x=>
    if(decide (x≥0))=true then some (.inr (.inr false))else some (.inl (W (i+1)))else some (.inr (.inl i))) l.length hl (fun i=>∀a b,l[i-1]?=some a→l[i]?=some b→f a b) 1 (by omega) (fun i h1 h2=> ?_) (by simp)).iff ?_
   · have e1:W ((i:Int)-1)=((i-1:Nat):Int):=by rw [a2G (by omega)];omega
     have e2:idx l ((i-1:Nat):Int)=some (l[i-1]'(by omega)):=by simp [idx,show i-1<l.length by omega]
     have e3:idx l ((i:Nat):Int)=some (l[i]'h2):=by simp [idx,h2]
     have hlt:((i:Int)<(l.length:Int)):=by omega
     simp only [hlt,decide_true,if_true,e1,e2,e3,Option.bind_some,hc]
     rw [List.getElem?_eq_getElem (show i-1<l.length by omega),List.getElem?_eq_getElem h2]
     refine(Rnd.ite (P:=c (l[i-1]'(by omega)) (l[i]'h2)<0) (Q:=True) (by simp) fun _=> .go trivial).iff ?_
     rw [and_true,hf]
     exact⟨fun h a b ha hb=>by cases ha;cases hb;exact h,fun h=>h _ _ rfl rfl⟩
   · constructor
     · intro h i a b ha hb'
       have:i+1<l.length:=by
        rcases Nat.lt_or_ge (i+1) l.length with h|h
        · exact h
        · rw [List.getElem?_eq_none h]at hb';cases hb'
       exact h (i+1) (by omega) this a b (by simpa using ha) hb'
     · intro h i h1 h2 a b ha hb'
       exact h (i-1) a b ha (by rw [Nat.sub_add_cancel h1];exact hb')
theorem c3t {α:Type} (l:List α) (ok:α→Prop) (f:α→α→Prop):(∀i,0≤i→i<l.length→(∀x,l[i]?=some x→ok x)∧(0<i→∀a,l[i-1]?=some a→∀b,l[i]?=some b→f a b))↔(∀x,x∈l→ok x)∧I4 f l:=by
 constructor
 · intro h
   refine⟨fun x hx=> ?_,fun i a b ha hb=> ?_⟩
   · obtain⟨i,hi,rfl⟩:=List.getElem_of_mem hx
     exact(h i (Nat.zero_le _) hi).1 _ (List.getElem?_eq_getElem hi)
   · have:i+1<l.length:=by
      rcases Nat.lt_or_ge (i+1) l.length with h|h
      · exact h
      · rw [List.getElem?_eq_none h]at hb;cases hb
     exact(h (i+1) (Nat.zero_le _) this).2 (by omega) a (by simpa using ha) b hb
 · intro⟨h1,h2⟩ i _ hi
   refine⟨fun x hx=>h1 x (List.mem_of_getElem? hx),fun h0 a ha b hb=>h2 (i-1) a b ha (by rw [Nat.sub_add_cancel h0];exact hb)⟩
theorem Y0 (n lo hi:Int):Ans (k9 n lo hi) (lo≤n∧n≤hi):=Ans.ite (by simp) fun _=>Ans.ofb (by simp)
end Go.Proofs.YtcedmbakcchkiaaGreatDoor
namespace Go.Proofs.YtcedmbakcchkiaaGreatDoor
open Go Go.Sx
open Classical
theorem a2i (n:Int):Ans (B3 n) (0≤n∧n≤5):=(Y0 _ _ _).id
theorem a3V (n:Int):Ans (u6 n) (0≤n∧n≤100000):=(Y0 _ _ _).id
theorem a5q (n:Int):Ans (m9 n) (1≤n∧n≤1000000):=(Y0 _ _ _).id
theorem a7W (n:Int):Ans (C9 n) (6≤n∧n≤59999):=(Y0 _ _ _).id
theorem a7i (n:Int):Ans (C8 n) (1≤n∧n≤99):=(Y0 _ _ _).id
theorem a2Q (n:Int):Ans (j6 n) (0≤n∧n≤144001439):=(Y0 _ _ _).id
theorem b8h (n:Int):Ans (Z2 n) (0≤n∧n≤63):=(Y0 _ _ _).id
def qr (n:Int):Bool:=(a3N n).getD false
set_option maxRecDepth 10000 in theorem quorum_f : ∀ n : Fin 64, N7 (n.val : Int) = some (qr (n.val : Int)) ∧ a3N (n.val : Int) = some (qr (n.val : Int)) := by decide +kernel
theorem a9S {n:Int} (h:0≤n∧n≤63):N7 n=some (qr n)∧a3N n=some (qr n):=by
 have:=quorum_f ⟨n.toNat,by omega⟩
 simpa [Int.toNat_of_nonneg h.1]using this
theorem b0d {n:Int} (h:0≤n):n.tmod 6=n % 6:=Int.tmod_eq_emod_of_nonneg h
def a1v (s:d0):Prop:=(0≤s.Night∧s.Night≤100000)∧(6≤s.Promised∧s.Promised≤59999)∧((s.Ballot=0∧s.Value=0)∨((6≤s.Ballot∧s.Ballot≤s.Promised)∧(1≤s.Value∧s.Value≤1000000)))
def a7M (me r:Int) (b:d9):Prop:=(0≤b.Night∧b.Night≤100000)∧(6≤b.Ballot∧b.Ballot≤6*r+me)∧b.Ballot % 6=me∧(1≤b.Value∧b.Value≤1000000)∧(0≤b.Best∧b.Best≤b.Ballot-1)∧(0≤b.Mask∧b.Mask≤63)∧b.Asked=qr b.Mask
def b1i (h:c9):Prop:=(6≤h.Ballot∧h.Ballot≤59999)∧(0≤h.Night∧h.Night≤100000)∧(1≤h.Value∧h.Value≤1000000)∧h.Mask≠0∧(0≤h.Mask∧h.Mask≤63)
def a4L (me:Int) (l:c0):Prop:=(1≤l.Thing∧l.Thing≤99)∧l.Thing % 6=me∧(0≤l.To∧l.To≤5)∧l.To≠me∧(0≤l.From∧l.From≤144001439)∧(0≤l.Until∧l.Until≤144001439)∧l.From≤l.Until
def a6K (me:Int) (l:d7):Prop:=(0≤l.Owner∧l.Owner≤5)∧l.Owner≠me∧(1≤l.No∧l.No≤40)∧(1≤l.Thing∧l.Thing≤99)∧l.Thing % 6=l.Owner∧(0≤l.From∧l.From≤144001439)∧(0≤l.Until∧l.Until≤144001439)∧l.From≤l.Until
def a6i (a b:c0):Prop:=max a.From b.From<min a.Until b.Until
def a3t (a b:d0):Prop:=a.Night<b.Night
def a3E (a b:d9):Prop:=a.Night<b.Night
def a3O (a b:c9):Prop:=a.Ballot<b.Ballot∨(a.Ballot=b.Ballot∧a.Night<b.Night)
def a1d (a b:d7):Prop:=a.Owner<b.Owner∨(a.Owner=b.Owner∧a.No<b.No)
def a8A {α:Type} (f:α→α→Prop) (l:List α):Prop:=∀(i:Nat) x,l[i]?=some x→∀y,y∈l.take i→¬f y x
structure j5 (me:Int) (s:c8):Prop where
 dep:0≤me∧me≤5
 round:0≤s.Round∧s.Round≤9999
 nslots:(s.Slots.length:Int)≤12
 slots:∀x,x∈s.Slots→a1v x
 nbids:(s.Bids.length:Int)≤12
 bids:∀x,x∈s.Bids→a7M me s.Round x
 nheard:(s.Heard.length:Int)≤60
 heard:∀x,x∈s.Heard→b1i x
 nleases:(s.Leases.length:Int)≤40
 leases:∀x,x∈s.Leases→a4L me x
 nloans:(s.Loans.length:Int)≤60
 loans:∀x,x∈s.Loans→a6K me x
 rslots:I4 a3t s.Slots
 rbids:I4 a3E s.Bids
 rheard:I4 a3O s.Heard
 rloans:I4 a1d s.Loans
 ballots:a8A (fun a b=>a.Ballot=b.Ballot) s.Bids
 nos:∀(i:Nat) x,s.Leases[i]?=some x→x.No=(i:Int)+1
 meets:a8A (fun a b=>a.Thing=b.Thing∧a6i a b) s.Leases
theorem c0D (s:d0):Ans (a1J s) (a1v s):=by
 have e1:=(a3V s.Night).eq
 have e2:=(a7W s.Promised).eq
 have e3:=(a5q s.Value).eq
 have e4:=(Y0 s.Ballot 6 s.Promised).eq
 unfold a1J
 simp only [e1,e2,e3,e4,Option.bind_some]
 refine⟨decide (a1v s), ?_,by simp⟩
 unfold a1v
 by_cases h1:s.Ballot=0<;>by_cases h2:s.Value=0<;>by_cases h3:(0≤s.Night∧s.Night≤100000)<;>by_cases h4:(6≤s.Promised∧s.Promised≤59999)<;>by_cases h5:(6≤s.Ballot∧s.Ballot≤s.Promised)<;>simp [h1,h2,h3,h4,h5]<;>omega
theorem b1M (f u:Int):Ans (W9 f u) ((0≤f∧f≤144001439)∧(0≤u∧u≤144001439)∧f≤u):=
 Ans.and (a2Q f) fun _=>Ans.and (a2Q u) fun _=> .of
theorem c4D {me:Int} {s:c8} (hm:0≤me∧me≤5) (hr:0≤s.Round∧s.Round≤9999) (b:d9):Ans (a0r b s me) (a7M me s.Round b):=by
 have w:W (W (6*s.Round)+me)=6*s.Round+me:=by rw [a2G (z:=6*s.Round) (by omega),a2G (by omega)]
 unfold a0r
 rw [w]
 refine Ans.and (a3V _) fun h1=>Ans.and (Y0 _ _ _) fun h2=> ?_
 rw [a2G (z:=b.Ballot-1) (by omega)]
 show Ans (if(b.Ballot.tmod 6==me)=true then _ else some false) _
 refine Ans.ite (by rw [b0d (by omega)];simp) fun h3=>Ans.and (a5q _) fun h4=>Ans.and (Y0 _ _ _) fun h5=>Ans.and (b8h _) fun h6=> ?_
 rw [(a9S h6).1]
 exact Ans.ofb (by simp)
theorem c2E (h:c9):Ans (a1W h) (b1i h):=
 Ans.and (a7W _) fun _=>Ans.and (a3V _) fun _=>Ans.and (a5q _) fun _=>Ans.ite (by simp) fun _=>(b8h _).id
theorem c3x (me:Int) (l:c0):Ans (a0n l me) (a4L me l):=by
 unfold a0n
 refine Ans.and (a7i _) fun h1=> ?_
 show Ans (if(l.Thing.tmod 6==me)=true then _ else some false) _
 exact Ans.ite (by rw [b0d (by omega)];simp) fun h3=>Ans.and (a2i _) fun _=>Ans.ite (by simp) fun _=>(b1M _ _).id
theorem c4c (me:Int) (l:d7):Ans (a0l l me) (a6K me l):=by
 unfold a0l
 refine Ans.and (a2i _) fun _=>Ans.ite (by simp) fun _=>Ans.and (Y0 _ _ _) fun _=>Ans.and (a7i _) fun h1=> ?_
 show Ans (if(l.Thing.tmod 6==l.Owner)=true then _ else some false) _
 exact Ans.ite (by rw [b0d (by omega)];simp) fun h3=>(b1M _ _).id
theorem c2X (l:List d0):Ans (L4 l 12) ((l.length:Int)≤12∧∀x,x∈l→a1v x):=
 b1z (fun hl=>a0Z l hl K4 _ fun x _=>(c0D x).not) (by omega)
theorem c4r {me:Int} {s:c8} (hm:0≤me∧me≤5) (hr:0≤s.Round∧s.Round≤9999) (l:List d9):Ans (K5 l 12 s me) ((l.length:Int)≤12∧∀x,x∈l→a7M me s.Round x):=
 b1z (fun hl=>a0Z l hl (fun x=>H7 x s me) _ fun x _=>(c4D hm hr x).not) (by omega)
theorem c0X (l:List c9):Ans (H9 l 60) ((l.length:Int)≤60∧∀x,x∈l→b1i x):=
 b1z (fun hl=>a0Z l hl F7 _ fun x _=>(c2E x).not) (by omega)
theorem c1M (me:Int) (l:List c0):Ans (H8 l 40 me) ((l.length:Int)≤40∧∀x,x∈l→a4L me x):=
 b1z (fun hl=>a0Z l hl (fun x=>F6 x me) _ fun x _=>(c3x me x).not) (by omega)
theorem c2u (me:Int) (l:List d7):Ans (J4 l 60 me) ((l.length:Int)≤60∧∀x,x∈l→a6K me x):=
 b1z (fun hl=>a0Z l hl (fun x=>G7 x me) _ fun x _=>(c4c me x).not) (by omega)
def a9Q (x y:Int):Int:=if x<y then-1 else if x>y then 1 else 0
theorem b4w (x y:Int):J6 x y=some (a9Q x y):=by
 unfold a9Q
 simp only [J6,a1L,Option.bind_some,bne_self_eq_false,if_false]
 by_cases h1:x<y<;>by_cases h2:x>y<;>simp [h1,h2]
theorem a4F {x y:Int}:a9Q x y<0↔x<y:=by
 unfold a9Q;split
 · simp;assumption
 · split<;>simp<;>omega
theorem a4Q {x y:Int}:a9Q x y=0↔x=y:=by
 unfold a9Q;split
 · simp;omega
 · split<;>simp<;>omega
def b2P (a b c d:Int):Int:=if a9Q a b=0 then a9Q c d else a9Q a b
theorem a7o {a b c d:Int}:b2P a b c d<0↔a<b∨(a=b∧c<d):=by
 unfold b2P
 split
 · rename_i h;rw [a4Q]at h;rw [a4F];omega
 · rename_i h;rw [a4Q]at h;rw [a4F];omega
theorem b8d {a b c d:Int}:b2P a b c d=0↔a=b∧c=d:=by
 unfold b2P
 split
 · rename_i h;rw [a4Q]at h;rw [a4Q];omega
 · rename_i h;have h':=h;rw [a4Q]at h;rw [a4Q];omega
theorem c3z (a b:Int):a2y [a,b]=some (if a=0 then b else a):=by
 have hs:=a3R (R:=Int) (body:=a0G [a,b]) 2 (by omega) (fun i=>if i=0 then(if a=0 then none else some a)else(if b=0 then none else some b)) 0 (Nat.zero_le _) (fun i _ h2=>by
  have:i=0∨i=1:=by omega
  unfold a0G
  rcases this with rfl|rfl
  · by_cases h:a=0<;>simp [idx,h];exact W_s (by omega)
  · by_cases h:b=0<;>simp [idx,h];exact W_s (by omega)) (by simp [a0G])
 unfold a2y
 rw [show((0:Int))=((0:Nat):Int) from rfl,hs]
 by_cases h:a=0<;>by_cases h':b=0<;>simp [b2p,h,h']
theorem a6g (a b:d0):J5 a b=some (a9Q a.Night b.Night):=by simp only [J5,b4w,Option.bind_some]
theorem a6J (a b:d9):L1 a b=some (a9Q a.Night b.Night):=by simp only [L1,b4w,Option.bind_some]
theorem a5Z (a b:c9):J2 a b=some (b2P a.Ballot b.Ballot a.Night b.Night):=by simp only [J2,b4w,Option.bind_some,c3z,b2P]
theorem a6a (a b:d7):J3 a b=some (b2P a.Owner b.Owner a.No b.No):=by simp only [J3,b4w,Option.bind_some,c3z,b2P]
theorem c1B (l:List d0) (hl:l.length≤9223372036854775807):Ans (E9 l) (I4 a3t l):=b0N l hl _ _ _ a6g fun _ _=>a4F
theorem c2i (l:List d9) (hl:l.length≤9223372036854775807):Ans (G9 l) (I4 a3E l):=b0N l hl _ _ _ a6J fun _ _=>a4F
theorem c0n (l:List c9) (hl:l.length≤9223372036854775807):Ans (D9 l) (I4 a3O l):=b0N l hl _ _ _ a5Z fun _ _=>a7o
theorem c1O (l:List d7) (hl:l.length≤9223372036854775807):Ans (F2 l) (I4 a1d l):=b0N l hl _ _ _ a6a fun _ _=>a7o
theorem b4O (a b:Int):(if b>a then b else a)=max a b:=by split<;>omega
theorem b7l (a b:Int):(if b<a then b else a)=min a b:=by split<;>omega
theorem c0H (a b:c0):Ans (a1z a b) (a6i a b):=by
 unfold a1z a6i
 rw [b4O,b7l];exact .of
theorem c5o {α:Type} (l:List α) (k:Nat):sub l 0 k=l.take k:=by simp [sub]
theorem b8H (s:c8) (hl:s.Bids.length≤9223372036854775807):Lp (s9 (S3 s) 0) (a8A (fun a b=>a.Ballot=b.Ballot) s.Bids):=by
 refine(b8x s.Bids.length hl (fun i=>∀x,s.Bids[i]?=some x→∀y,y∈s.Bids.take i→¬y.Ballot=x.Ballot) (fun i h2=> ?_) (by simp [S3])).iff ?_
 · have hlt:((i:Int)<(s.Bids.length:Int)):=by omega
   have hg:0≤(i:Int)∧(i:Int)≤(s.Bids.length:Int):=by omega
   unfold S3
   simp only [hlt,decide_true,if_true]
   refine Rnd.get h2 ?_
   simp only [gd,hg,and_self,if_true,Option.bind_some,c5o,Int.toNat_natCast]
   refine(Rnd.and (a0Z _ (by simp;omega) (fun x=>a1S x s.Bids[i]) (fun y=>y.Ballot=s.Bids[i].Ballot) fun x _=>Ans.ofb (by simp)) fun _=> .go trivial).iff ?_
   rw [List.getElem?_eq_getElem h2]
   simp
 · exact⟨fun h i x hx=>h i ((List.getElem?_eq_some_iff.1 hx).1) x hx,fun h i _=>h i⟩
theorem c2o (s:c8) (hl:s.Leases.length≤9223372036854775806):Lp (s9 (S1 s) 0) ((∀(i:Nat) x,s.Leases[i]?=some x→x.No=(i:Int)+1)∧a8A (fun a b=>a.Thing=b.Thing∧a6i a b) s.Leases):=by
 refine(b8x s.Leases.length (by omega) (fun i=>∀x,s.Leases[i]?=some x→x.No=(i:Int)+1∧∀y,y∈s.Leases.take i→¬(y.Thing=x.Thing∧a6i y x)) (fun i h2=> ?_) (by simp [S1])).iff ?_
 · have hlt:((i:Int)<(s.Leases.length:Int)):=by omega
   have hg:0≤(i:Int)∧(i:Int)≤(s.Leases.length:Int):=by omega
   unfold S1
   simp only [hlt,decide_true,if_true]
   refine Rnd.get h2 ?_
   refine(Rnd.ite (P:=s.Leases[i].No=(i:Int)+1) (Q:=∀y,y∈s.Leases.take i→¬(y.Thing=s.Leases[i].Thing∧a6i y s.Leases[i])) (by rw [a2G (by omega)];simp) fun _=> ?_).iff (Q:=∀x,s.Leases[i]?=some x→x.No=(i:Int)+1∧∀y,y∈s.Leases.take i→¬(y.Thing=x.Thing∧a6i y x)) ?_
   · simp only [gd,hg,and_self,if_true,Option.bind_some,c5o,Int.toNat_natCast]
     refine(Rnd.and (a0Z _ (by simp;omega) (fun x=>a1V x s.Leases[i]) (fun y=>y.Thing=s.Leases[i].Thing∧a6i y s.Leases[i]) fun x _=>Ans.ite (by simp) fun _=>(c0H _ _).id) fun _=> .go trivial).iff ?_
     simp
   · rw [List.getElem?_eq_getElem h2]
     simp
 · constructor
   · intro h
     exact⟨fun i x hx=>(h i ((List.getElem?_eq_some_iff.1 hx).1) x hx).1,fun i x hx=>(h i ((List.getElem?_eq_some_iff.1 hx).1) x hx).2⟩
   · exact fun h i _ x hx=>⟨h.1 i x hx,h.2 i x hx⟩
theorem b7y {me:Int} {s:c8}:j5 me s↔(0≤me∧me≤5)∧(0≤s.Round∧s.Round≤9999)∧((s.Slots.length:Int)≤12∧∀x,x∈s.Slots→a1v x)∧((s.Bids.length:Int)≤12∧∀x,x∈s.Bids→a7M me s.Round x)∧((s.Heard.length:Int)≤60∧∀x,x∈s.Heard→b1i x)∧((s.Leases.length:Int)≤40∧∀x,x∈s.Leases→a4L me x)∧((s.Loans.length:Int)≤60∧∀x,x∈s.Loans→a6K me x)∧I4 a3t s.Slots∧I4 a3E s.Bids∧I4 a3O s.Heard∧I4 a1d s.Loans∧a8A (fun a b=>a.Ballot=b.Ballot) s.Bids∧((∀(i:Nat) x,s.Leases[i]?=some x→x.No=(i:Int)+1)∧a8A (fun a b=>a.Thing=b.Thing∧a6i a b) s.Leases):=by
 constructor
 · rintro⟨a,b,c1,c2,d1,d2,e1,e2,f1,f2,g1,g2,h1,h2,h3,h4,h5,h6,h7⟩
   exact⟨a,b,⟨c1,c2⟩,⟨d1,d2⟩,⟨e1,e2⟩,⟨f1,f2⟩,⟨g1,g2⟩,h1,h2,h3,h4,h5,h6,h7⟩
 · rintro⟨a,b,⟨c1,c2⟩,⟨d1,d2⟩,⟨e1,e2⟩,⟨f1,f2⟩,⟨g1,g2⟩,h1,h2,h3,h4,h5,h6,h7⟩
   exact⟨a,b,c1,c2,d1,d2,e1,e2,f1,f2,g1,g2,h1,h2,h3,h4,h5,h6,h7⟩
theorem b3x (me:Int) (s:c8):Ans (U2 me s) (j5 me s):=by
 refine Ans.iff ?_ b7y.symm
 unfold U2
 exact Ans.nand (a2i _) fun hm=>Ans.nand (Y0 _ _ _) fun hr=>Ans.nand (c2X _) fun h1=>Ans.nand (c4r hm hr _) fun h2=>Ans.nand (c0X _) fun h3=>Ans.nand (c1M _ _) fun h4=>Ans.nand (c2u _ _) fun h5=>
  Ans.nand (c1B _ (by omega)) fun _=>Ans.nand (c2i _ (by omega)) fun _=>Ans.nand (c0n _ (by omega)) fun _=>Ans.nand (c1O _ (by omega)) fun _=>Ans.loop (b8H s (by omega)) fun _=>Ans.lp (c2o s (by omega))
end Go.Proofs.YtcedmbakcchkiaaGreatDoor
namespace Go.Proofs.YtcedmbakcchkiaaGreatDoor
open Go Go.Sx
open Classical
theorem a8K (n:Int):G4 n 6=some (n % 6):=by
 unfold G4
 simp only [gd,ne_eq,show¬(6:Int)=0 by omega,not_false_eq_true,if_true,Option.some.injEq]
 have h3:=Int.tmod_eq_emod (a:=n) (b:=6)
 have h1: -6<n.tmod 6∧n.tmod 6<6∧(n.tmod 6=n % 6∨n.tmod 6=n % 6-6):=by
  rw [h3];split<;>simp<;>omega
 rw [a2G (by omega),b0d (by omega)]
 omega
theorem O6 {α:Type} {l:List α} {i:Nat} {x:α} (h:l[i]?=some x):idx l (i:Int)=some x:=by simp [idx,h]
theorem a9q {α:Type} {l:List α} {i:Nat} (h:i<l.length):∃x,l[i]?=some x:=⟨_,List.getElem?_eq_getElem h⟩
def Err (m:Option Int) (P:Prop) (e:Int):Prop:=m=some (if P then 0 else e)
theorem Err.nand {m:Option Bool} {n:Option Int} {P Q:Prop} {e:Int} (h:Ans m P) (k:P→Err n Q e):Err (Option.bind m fun x=>if(!x)=true then some e else n) (P∧Q) e:=by
 obtain⟨b,rfl,hb⟩:=h
 unfold Err
 by_cases hp:P
 · have:=k hp
   unfold Err at this
   simp [hb.2 hp,hp,this]
 · have:b=false:=by cases b with|false=>rfl|true=>exact absurd (hb.1 rfl) hp
   simp [this,hp]
theorem Err.one {m:Option Bool} {P:Prop} {e:Int} (h:Ans m P):Err (Option.bind m fun x=>if(!x)=true then some e else some 0) P e:=by
 have:=Err.nand (Q:=True) (n:=some 0) (e:=e) h (fun _=>by simp [Err])
 simpa using this
theorem Err.iff {m:Option Int} {P Q:Prop} {e:Int} (h:Err m P e) (k:P↔Q):Err m Q e:=by
 unfold Err at*;rw [h];simp [k]
def y9 (x:a8):Prop:=j5 x.Me x.Now∧j5 x.Me x.Safe
theorem b4Y (x:a8):Err (a1a x) (y9 x) 90:=Err.nand (b3x _ _) fun _=>Err.one (b3x _ _)
end Go.Proofs.YtcedmbakcchkiaaGreatDoor
namespace Go.Proofs.YtcedmbakcchkiaaGreatDoor
open Go Go.Sx
open Classical
def a3A (c:b8):Prop:=(0≤c.Night∧c.Night≤100000)∧(6≤c.Ballot∧c.Ballot≤59999)∧c.No=0∧c.Thing=0∧c.Start=0∧c.Until=0
def b1Q (c:b8):Prop:=c.From≠c.To∧(1≤c.No∧c.No≤40)∧(1≤c.Thing∧c.Thing≤99)∧(0≤c.Until∧c.Until≤144001439)∧c.Night=0∧c.Ballot=0∧c.Best=0∧c.Value=0
def a7z (v:Int):Prop:=1≤v∧v≤1000000
structure a4q (c:b8):Prop where
 from_:0≤c.From∧c.From≤5
 to_:0≤c.To∧c.To≤5
 kind:(c.Kind=1∧a3A c∧c.Ballot % 6=c.From∧c.Best=0∧c.Value=0)∨(c.Kind=2∧a3A c∧c.Ballot % 6=c.To∧((c.Best=0∧c.Value=0)∨((6≤c.Best∧c.Best≤c.Ballot-1)∧a7z c.Value)))∨
  (c.Kind=3∧a3A c∧c.Ballot % 6=c.From∧c.Best=0∧a7z c.Value)∨(c.Kind=4∧a3A c∧c.Best=0∧a7z c.Value)∨
  (c.Kind=5∧b1Q c∧c.Thing % 6=c.From∧(0≤c.Start∧c.Start≤144001439)∧c.Start≤c.Until)∨(c.Kind=6∧b1Q c∧c.Thing % 6=c.To∧c.Start=0)
theorem b9m (c:b8):a4q c↔(0≤c.From∧c.From≤5)∧(0≤c.To∧c.To≤5)∧((c.Kind=1∧a3A c∧c.Ballot % 6=c.From∧c.Best=0∧c.Value=0)∨(c.Kind=2∧a3A c∧c.Ballot % 6=c.To∧((c.Best=0∧c.Value=0)∨((6≤c.Best∧c.Best≤c.Ballot-1)∧a7z c.Value)))∨
 (c.Kind=3∧a3A c∧c.Ballot % 6=c.From∧c.Best=0∧a7z c.Value)∨(c.Kind=4∧a3A c∧c.Best=0∧a7z c.Value)∨
 (c.Kind=5∧b1Q c∧c.Thing % 6=c.From∧(0≤c.Start∧c.Start≤144001439)∧c.Start≤c.Until)∨(c.Kind=6∧b1Q c∧c.Thing % 6=c.To∧c.Start=0)):=
 ⟨fun⟨a,b,c⟩=>⟨a,b,c⟩,fun⟨a,b,c⟩=>⟨a,b,c⟩⟩
theorem c5p (a b c:Bool):(if a=true then some b else some c)=some ((a&&b)||(!a&&c)):=by cases a<;>simp
structure Rck (c:b8) (w tb tt:Int):Prop where
 w:6≤c.Ballot∧c.Ballot≤59999→w=c.Ballot-1
 tb:0≤c.Ballot→tb=c.Ballot % 6
 tt:0≤c.Thing→tt=c.Thing % 6
theorem c3N (c:b8):Rck c (W (c.Ballot-1)) (c.Ballot.tmod 6) (c.Thing.tmod 6):=⟨fun h=>a2G (by omega),fun h=>b0d h,fun h=>b0d h⟩
set_option maxHeartbeats 1000000 in theorem isCall_a (c : b8) : Ans (a0J c) (a4q c) := by
  refine Ans.iff ?_ (b9m c).symm
  have e1 := (a2i c.From).eq
  have e2 := (a2i c.To).eq
  have e3 := (Y0 c.No 1 40).eq
  have e4 := (a7i c.Thing).eq
  have e5 := (a3V c.Night).eq
  have e6 := (a7W c.Ballot).eq
  have e7 := (a5q c.Value).eq
  have e8 := (Y0 c.Best 6 (W (c.Ballot - 1))).eq
  have e9 := (b1M c.Start c.Until).eq
  have e10 := (a2Q c.Until).eq
  have hr := c3N c
  have hd : ∀ n, j4 n = some (n.tmod 6) := fun _ => rfl
  unfold a0J a4Y
  simp only [e1, e2, e3, e4, e5, e6, e7, e8, e9, e10, hd]
  clear e1 e2 e3 e4 e5 e6 e7 e8 e9 e10 hd
  generalize W (c.Ballot - 1) = w at hr ⊢
  generalize c.Ballot.tmod 6 = tb at hr ⊢
  generalize c.Thing.tmod 6 = tt at hr ⊢
  obtain ⟨h1, h2, h3⟩ := hr
  obtain ⟨Kind, From, To, Night, Ballot, Best, Value, No, Thing, Start, Until⟩ := c
  simp only [a3A, b1Q, a7z] at *
  have hk : Kind = 1 ∨ Kind = 2 ∨ Kind = 3 ∨ Kind = 4 ∨ Kind = 5 ∨ Kind = 6 ∨ (Kind ≠ 1 ∧ Kind ≠ 2 ∧ Kind ≠ 3 ∧ Kind ≠ 4 ∧ Kind ≠ 5 ∧ Kind ≠ 6) := by omega
  rcases hk with rfl | rfl | rfl | rfl | rfl | rfl | ⟨k1, k2, k3, k4, k5, k6⟩
  all_goals try simp only [Int.reduceBEq, Int.reduceBNe, if_true, Bool.false_eq_true, if_false, Option.bind_some, Bool.not_true, Bool.not_false, c5p]
  iterate 6
    · refine ⟨_, rfl, ?_⟩
      simp only [Bool.or_eq_true, Bool.and_eq_true, Bool.not_eq_true', decide_eq_true_eq, decide_eq_false_iff_not, beq_iff_eq, Bool.not_not, beq_eq_false_iff_ne, ne_eq, Bool.and_false, Bool.and_true, Bool.false_or, Bool.or_false, Bool.false_eq_true, bne_iff_ne, bne_eq_false_iff_eq, Bool.true_and, Bool.false_and, true_and, false_and, or_false, false_or, Int.reduceEq, and_true, and_false, or_true, true_or, not_true_eq_false, not_false_eq_true]
      first | omega | (constructor <;> intro h <;> omega) | grind
  have q1 : (Kind == 1) = false := by simp [k1]
  have q2 : (Kind == 2) = false := by simp [k2]
  have q3 : (Kind == 3) = false := by simp [k3]
  have q4 : (Kind == 4) = false := by simp [k4]
  have q5 : (Kind == 5) = false := by simp [k5]
  have q6 : (Kind == 6) = false := by simp [k6]
  simp only [q1, q2, q3, q4, q5, q6, Bool.false_eq_true, if_false, Option.bind_some, Bool.not_false, if_true]
  exact .no (by rintro ⟨_, _, h⟩; omega)
end Go.Proofs.YtcedmbakcchkiaaGreatDoor
namespace Go.Proofs.YtcedmbakcchkiaaGreatDoor
open Go Go.Sx
open Classical
structure c5b (s:c8):Prop where
 a:s.Slots.length≤9223372036854775806
 b:s.Bids.length≤9223372036854775806
 c:s.Heard.length≤9223372036854775806
 d:s.Leases.length≤9223372036854775806
 e:s.Loans.length≤9223372036854775806
theorem Ans.true {m:Option Bool} (h:Ans m True):m=some true:=by rw [h.eq];simp
def S0:c8:=⟨0, [], [], [], [], []⟩
end Go.Proofs.YtcedmbakcchkiaaGreatDoor
namespace Go.Proofs.YtcedmbakcchkiaaGreatDoor
open Go Go.Sx
open Classical
def b7M {α σ R:Type} (f:σ→α→Sum σ R):List α→σ→Sum σ R
 | [],s=> .inl s
 |x::l,s=>match f s x with| .inl s'=>b7M f l s'| .inr r=> .inr r
theorem b9q {α σ S E R:Type} {body:S→Option (Sum S E)} (l:List α) (hl:l.length≤9223372036854775807) (enc:Nat→σ→S) (f:σ→α→Sum σ R) (out:R→E) (fin:σ→E) (P:List α→σ→Prop)
 (h:∀pre x post s,l=pre++x::post→P pre s→body (enc pre.length s)=some (match f s x with| .inl s'=> .inl (enc (pre.length+1) s')| .inr r=> .inr (out r))∧∀s',f s x= .inl s'→P (pre++ [x]) s')
 (he:∀s,P l s→body (enc l.length s)=some (.inr (fin s))) (s0:σ) (h0:P [] s0):
 s9 body (enc 0 s0)=some (match b7M f l s0 with| .inl s=>fin s| .inr r=>out r):=by
 have key:∀(post pre:List α) (s:σ) (n:Nat),l=pre++post→P pre s→post.length<n→a0I body n (enc pre.length s)=some (match b7M f post s with| .inl s=>fin s| .inr r=>out r):=by
  intro post
  induction post with
  |nil=>
   intro pre s n hp hs hn
   cases n with
   |zero=>omega
   |succ n=>
    simp only [List.append_nil]at hp
    subst hp
    simp only [a0I,he s hs,b7M]
  |cons x post ih=>
   intro pre s n hp hs hn
   cases n with
   |zero=>omega
   |succ n=>
    obtain⟨h1,h2⟩:=h pre x post s hp hs
    simp only [a0I,h1,b7M]
    cases hf:f s x with
    |inl s'=>
     have:=ih (pre++ [x]) s' n (by simp [hp]) (h2 s' hf) (by simp at hn;omega)
     simpa using this
    |inr r=>rfl
 exact key l [] s0 a3k rfl h0 (by unfold a3k;omega)
theorem a5R {α β S E:Type} {body:S→Option (List β×Sum S E)} (l:List α) (hl:l.length≤9223372036854775807) (enc:Nat→S) (em:α→List β) (fin:E)
 (h:∀pre x post,l=pre++x::post→body (enc pre.length)=some (em x, .inl (enc (pre.length+1))))
 (he:body (enc l.length)=some ([], .inr fin)):a5W body (enc 0)=some (l.flatMap em,fin):=by
 have key:∀(post pre:List α) (n:Nat),l=pre++post→post.length<n→a3w body n (enc pre.length)=some (post.flatMap em,fin):=by
  intro post
  induction post with
  |nil=>
   intro pre n hp hn
   cases n with
   |zero=>omega
   |succ n=>
    simp only [List.append_nil]at hp
    subst hp
    simp only [a3w,he,List.flatMap_nil]
  |cons x post ih=>
   intro pre n hp hn
   cases n with
   |zero=>omega
   |succ n=>
    have:=ih (pre++ [x]) n (by simp [hp]) (by simp at hn;omega)
    simp only [List.length_append,List.length_cons,List.length_nil,Nat.zero_add]at this
    simp only [a3w,h pre x post hp,this,List.flatMap_cons]
 exact key l [] a3k rfl (by unfold a3k;omega)
theorem b0S {α:Type} {pre post:List α} {x:α}:idx (pre++x::post) (pre.length:Int)=some x:=by
 unfold idx;simp
theorem b4a {α:Type} {pre post:List α} {x:α}:((pre.length:Int)<((pre++x::post).length:Int)):=by simp;omega
theorem a7x {α:Type} {p:Prop} [Decidable p] {k:Option α} (h:p):gd p k=k:=by unfold gd;rw [if_pos h]
theorem j5.short {me:Int} {s:c8} (h:j5 me s):c5b s:=by
 have:=h.nslots;have:=h.nbids;have:=h.nheard;have:=h.nleases;have:=h.nloans
 constructor<;>omega
theorem a2m {me:Int} {s:c8} (h:j5 me s):E5 s=some s:=by
 have:=h.nslots;have:=h.nbids;have:=h.nheard;have:=h.nleases;have:=h.nloans
 unfold E5 K1 L5 G6 G5 J8
 rw [a7x (by omega),a7x (by omega),a7x (by omega),a7x (by omega),a7x (by omega)]
 rfl
theorem b8e (x:a8):S9 x=some (if y9 x then(some ⟨x⟩,0)else(none,90)):=by
 have e:=b4Y x
 unfold Err at e
 unfold S9
 rw [e]
 by_cases h:y9 x
 · rw [if_pos h,if_pos h,a2m h.1,a2m h.2];rfl
 · rw [if_neg h,if_neg h];rfl
theorem b5i (x:a8):a0x x=some (if y9 x then .inr (x.Me,x.Now.Round,x.Now.Slots,x.Now.Bids,x.Now.Heard,x.Now.Leases,x.Now.Loans,x.Safe.Round,x.Safe.Slots,x.Safe.Bids,x.Safe.Heard,x.Safe.Leases,x.Safe.Loans)else .inl 90):=by
 have e:=b4Y x
 unfold Err at e
 unfold a0x
 rw [e]
 by_cases h:y9 x
 · rw [if_pos h,if_pos h,a2m h.1,a2m h.2];rfl
 · rw [if_neg h,if_neg h];rfl
def Z0:a8:=⟨0,S0,S0⟩
noncomputable def a9D (x:a8):a8×Int:=if y9 x then(⟨x.Me,x.Now,x.Now⟩,0)else(Z0,90)
noncomputable def b8o (x:a8):a8×Int:=if y9 x then(⟨x.Me,x.Safe,x.Safe⟩,0)else(Z0,90)
theorem b5V (x:a8):R1 x=some (a9D x):=by
 unfold R1 a9D
 rw [b5i]
 by_cases h:y9 x
 · rw [if_pos h,if_pos h]
   simp only [Option.bind_some]
   rw [a2m h.1];rfl
 · rw [if_neg h,if_neg h];rfl
theorem c3s (x:a8):a3h x=some (b8o x):=by
 unfold a3h b8o
 rw [b5i]
 by_cases h:y9 x
 · rw [if_pos h,if_pos h]
   simp only [Option.bind_some]
   rw [a2m h.2];rfl
 · rw [if_neg h,if_neg h];rfl
def b6c (me to_:Int) (b:d9):List b8:=if b.Asked=true then [⟨3,me,to_,b.Night,b.Ballot,0,b.Value,0,0,0,0⟩]else [⟨1,me,to_,b.Night,b.Ballot,0,0,0,0,0,0⟩]
def a9j (me to_:Int) (s:d0):List b8:=(if s.Promised % 6=to_∧s.Promised>s.Ballot then [⟨2,me,to_,s.Night,s.Promised,s.Ballot,s.Value,0,0,0,0⟩]else [])++(if s.Ballot≠0 then [⟨4,me,to_,s.Night,s.Ballot,0,s.Value,0,0,0,0⟩]else [])
def a8k (me to_:Int) (l:c0):List b8:=if l.To=to_ then [⟨5,me,to_,0,0,0,0,l.No,l.Thing,l.From,l.Until⟩]else []
def b1Y (me to_:Int) (l:d7):List b8:=if l.Owner=to_∧l.Back=true then [⟨6,me,to_,0,0,0,0,l.No,l.Thing,0,l.Until⟩]else []
def a5T (me to_:Int) (s:c8):List b8:=s.Bids.flatMap (b6c me to_)++(s.Slots.flatMap (a9j me to_)++(s.Leases.flatMap (a8k me to_)++s.Loans.flatMap (b1Y me to_)))
theorem a2p {α β:Type} (f:α→List β) (n:Nat) (h:∀x,(f x).length≤n):∀l:List α,(l.flatMap f).length≤n*l.length
 | []=>by simp
 |x::l=>by
  have:=a2p f n h l
  have:=h x
  simp only [List.flatMap_cons,List.length_append,List.length_cons,Nat.mul_add];omega
theorem c1p (me t:Int) (x:d9):(b6c me t x).length≤2:=by unfold b6c;split<;>simp
theorem b9I (me t:Int) (x:d0):(a9j me t x).length≤2:=by unfold a9j;split<;>split<;>simp
theorem b6W (me t:Int) (x:c0):(a8k me t x).length≤2:=by unfold a8k;split<;>simp
theorem b9p (me t:Int) (x:d7):(b1Y me t x).length≤2:=by unfold b1Y;split<;>simp
theorem a8Z {me:Int} {s:c8} (h:j5 me s) (to_:Int):(a5T me to_ s).length≤1000:=by
 have:=h.nslots;have:=h.nbids;have:=h.nheard;have:=h.nleases;have:=h.nloans
 have:=a2p _ 2 (c1p me to_) s.Bids
 have:=a2p _ 2 (b9I me to_) s.Slots
 have:=a2p _ 2 (b6W me to_) s.Leases
 have:=a2p _ 2 (b9p me to_) s.Loans
 unfold a5T
 simp only [List.length_append]
 omega
theorem c4g (x:a8) (h:y9 x) (to_:Int):X7 ⟨x⟩ to_=some (a5T x.Me to_ x.Safe,()):=by
 obtain⟨_,h⟩:=h
 have hs:=h.short
 have l1:a5W (N5 ⟨x⟩ to_) ((0:Nat):Int)=some (x.Safe.Bids.flatMap (b6c x.Me to_),(x.Safe.Bids.length:Int)):=by
  refine a5R (enc:=fun k=>(k:Int)) x.Safe.Bids (by have:=hs.b;omega) (b6c x.Me to_) (x.Safe.Bids.length:Int) (fun pre y post hp=> ?_) (by simp [N5])
  have hw:W ((pre.length:Int)+1)=((pre.length+1:Nat):Int):=W_s (by have:=hs.b;rw [hp]at this;simp at this;omega)
  unfold N5 b6c
  simp only [hp,b4a,decide_true,if_true,b0S,Option.bind_some,hw,emit]
  split<;>rfl
 have l2:a5W (N2 ⟨x⟩ to_) ((0:Nat):Int)=some (x.Safe.Slots.flatMap (a9j x.Me to_),(x.Safe.Slots.length:Int)):=by
  have key:∀y,y∈x.Safe.Slots→y.Promised.tmod 6=y.Promised % 6:=fun y hy=>b0d (by have:=(h.slots y hy).2.1;omega)
  refine a5R (enc:=fun k=>(k:Int)) x.Safe.Slots (by have:=hs.a;omega) (a9j x.Me to_) (x.Safe.Slots.length:Int) (fun pre y post hp=> ?_) (by simp [N2])
  have hw:W ((pre.length:Int)+1)=((pre.length+1:Nat):Int):=W_s (by have:=hs.a;rw [hp]at this;simp at this;omega)
  have ht:=key y (by rw [hp];simp)
  unfold N2 a9j j4
  simp only [hp,b4a,decide_true,if_true,b0S,Option.bind_some,hw,emit,ht]
  by_cases g1:y.Promised % 6=to_<;>by_cases g2:y.Promised>y.Ballot<;>simp [g1,g2]<;>by_cases g3:y.Ballot=0<;>simp [g3]
 have l3:a5W (O2 ⟨x⟩ to_) ((0:Nat):Int)=some (x.Safe.Leases.flatMap (a8k x.Me to_),(x.Safe.Leases.length:Int)):=by
  refine a5R (enc:=fun k=>(k:Int)) x.Safe.Leases (by have:=hs.d;omega) (a8k x.Me to_) (x.Safe.Leases.length:Int) (fun pre y post hp=> ?_) (by simp [O2])
  have hw:W ((pre.length:Int)+1)=((pre.length+1:Nat):Int):=W_s (by have:=hs.d;rw [hp]at this;simp at this;omega)
  unfold O2 a8k
  simp only [hp,b4a,decide_true,if_true,b0S,Option.bind_some,hw,emit]
  by_cases g1:y.To=to_<;>simp [g1]
 have l4:a5W (N6 ⟨x⟩ to_) ((0:Nat):Int)=some (x.Safe.Loans.flatMap (b1Y x.Me to_),(x.Safe.Loans.length:Int)):=by
  refine a5R (enc:=fun k=>(k:Int)) x.Safe.Loans (by have:=hs.e;omega) (b1Y x.Me to_) (x.Safe.Loans.length:Int) (fun pre y post hp=> ?_) (by simp [N6])
  have hw:W ((pre.length:Int)+1)=((pre.length+1:Nat):Int):=W_s (by have:=hs.e;rw [hp]at this;simp at this;omega)
  unfold N6 b1Y
  simp only [hp,b4a,decide_true,if_true,b0S,Option.bind_some,hw,emit]
  by_cases g1:y.Owner=to_<;>by_cases g2:y.Back=true<;>simp [g1,g2]
 unfold X7
 rw [show((0:Nat):Int)=0 from rfl]at l1 l2 l3 l4
 simp only [l1,l2,l3,l4,b2y]
 unfold a5T
 simp
theorem b7I (l:List b8) (hl:l.length≤1000):a0p j1 l []=some (.inl l):=by
 have key:∀(l a:List b8),a.length+l.length≤1000→a0p j1 l a=some (.inl (a++l)):=by
  intro l
  induction l with
  |nil=>intro a _;simp [a0p]
  |cons y l ih=>
   intro a h
   simp only [List.length_cons]at h
   have:j1 a y=some (.inl (a++ [y])):=by
    unfold j1
    rw [a7x (by simp;omega)]
   simp only [a0p,this]
   rw [ih _ (by simp;omega)]
   simp
 simpa using key l [] (by simpa using hl)
noncomputable def b4U (x:a8) (to_:Int):List b8×Int:=if y9 x then(if 0≤to_∧to_≤5 then(a5T x.Me to_ x.Safe,0)else([],1))else([],90)
theorem b5m (x:a8) (to_:Int):U7 x to_=some (b4U x to_):=by
 unfold U7 b4U
 rw [b8e,(a2i to_).eq]
 by_cases h:y9 x
 · simp only [h,if_true,Option.bind_some,b2G,bne_self_eq_false,Bool.false_eq_true,if_false]
   by_cases h2:0≤to_∧to_≤5
   · have e:a2w ⟨x⟩ to_=some (⟨x⟩,to_):=rfl
     have e2:B6 ⟨x⟩ to_=some (a5T x.Me to_ x.Safe):=by
      unfold B6 w7
      rw [c4g x h]
      simp only [Option.bind_some]
      rw [b7I _ (a8Z h.2 to_)]
      rfl
     simp only [h2,and_self,decide_true,Bool.not_true,Bool.false_eq_true,if_false,if_true,e,Option.bind_some,e2]
   · simp only [h2,decide_false,Bool.not_false,if_true,if_false]
 · simp [h,b2G]
end Go.Proofs.YtcedmbakcchkiaaGreatDoor
namespace Go.Proofs.YtcedmbakcchkiaaGreatDoor
open Go Go.Sx
open Classical
theorem c3V {z:Int} (h:0≤z∧z≤18446744073709551615):IntKind.u64.wrap z=z:=by
 simp only [IntKind.wrap,IntKind.signed,IntKind.bits]
 simp
 omega
theorem c6r (i j:Nat) (h:i+j≤9223372036854775807):W ((IntKind.u64.wrap (W ((i:Int)+(j:Int)))).fdiv (2^(min (1:Int).toNat IntKind.u64.bits)))=(((i+j) / 2:Nat):Int):=by
 have e:(2:Int)^(min (1:Int).toNat IntKind.u64.bits)=2:=by decide
 rw [e,a2G (z:=(i:Int)+j) (by omega),c3V (by omega),Int.fdiv_eq_ediv_of_nonneg _ (by omega)]
 have e2:((i:Int)+j) / 2=(((i+j) / 2:Nat):Int):=by simp
 rw [e2,a2G (by omega)]
structure Cut {α:Type} (c:α→Int) (l:List α) (i:Nat):Prop where
 le:i≤l.length
 lo:∀k (h:k<l.length),k<i→c l[k]<0
 hi:∀k (h:k<l.length),i≤k→¬c l[k]<0
def bsB {α:Type} (l:List α) (cm:α→Option Int):(Int×Int)→Option (Sum (Int×Int) (Int×Int)):=fun(i,j)=>
 if(decide (i<j))=true then
  Option.bind (idx l (W ((IntKind.u64.wrap (W (i+j))).fdiv (2^(min (1:Int).toNat IntKind.u64.bits))))) fun e=>
  Option.bind (cm e) fun x=>
  if(decide (x<0))=true then
   some (.inl ((W ((W ((IntKind.u64.wrap (W (i+j))).fdiv (2^(min (1:Int).toNat IntKind.u64.bits))))+1)),j))
  else
   some (.inl (i,(W ((IntKind.u64.wrap (W (i+j))).fdiv (2^(min (1:Int).toNat IntKind.u64.bits))))))
 else
  some (.inr (i,j))
def bsM {α:Type} (l:List α) (cm:α→Option Int):Option (Int×Bool):=
 Option.bind (s9 (bsB l cm) (0,(l.length:Int))) fun(i,_)=>
 if(decide (i<(l.length:Int)))=true then
  Option.bind (idx l i) fun e=>
  Option.bind (cm e) fun x=>
  some (i,(x==0))
 else
  some (i,false)
theorem a5O {α:Type} (l:List α) (c:α→Int) (hl:l.length≤1000) (hm:∀i j (hi:i<l.length) (hj:j<l.length),i≤j→c l[j]<0→c l[i]<0) (cm:α→Option Int) (hc:∀x,x∈l→cm x=some (c x)):
 ∃i,Cut c l i∧bsM l cm=some ((i:Int),decide (∃x,l[i]?=some x∧c x=0)):=by
 obtain⟨e,he,i,rfl,hi⟩:=a3Y (body:=bsB l cm) (fun st:Int×Int=>∃i j:Nat,st=((i:Int),(j:Int))∧i≤j∧j≤l.length∧(∀k (hk:k<l.length),k<i→c l[k]<0)∧(∀k (hk:k<l.length),j≤k→¬c l[k]<0))
  (fun st=>(st.2-st.1).toNat) (fun st=>∃i:Nat,st=((i:Int),(i:Int))∧Cut c l i) (by
  rintro⟨_,_⟩ ⟨i,j,he,hij,hj,ha,hb⟩
  cases he
  unfold bsB
  by_cases hlt:i<j
  · right
    have c1:(i:Int)<(j:Int):=by omega
    have hmid:(i+j) / 2<l.length:=by omega
    have hx:idx l (((i+j) / 2:Nat):Int)=some l[(i+j) / 2]:=O6 (List.getElem?_eq_getElem hmid)
    simp only [c1,decide_true,if_true,c6r i j (by omega),hx,Option.bind_some,hc _ (List.getElem_mem hmid)]
    by_cases hcc:c l[(i+j) / 2]<0
    · refine⟨((((i+j) / 2+1:Nat):Int),(j:Int)), ?_,⟨(i+j) / 2+1,j,rfl,by omega,hj,fun k hk hki=> ?_,hb⟩,by simp only;omega⟩
      · simp only [hcc,decide_true,if_true]
        rw [a2G (z:=(((i+j) / 2:Nat):Int)+1) (by omega)];rfl
      · exact hm k ((i+j) / 2) hk hmid (by omega) hcc
    · refine⟨((i:Int),(((i+j) / 2:Nat):Int)), ?_,⟨i,(i+j) / 2,rfl,by omega,by omega,ha,fun k hk hki h=>hcc (hm _ _ hmid hk hki h)⟩,by simp only;omega⟩
      simp only [hcc,decide_false,Bool.false_eq_true,if_false]
  · left
    have c1:¬(i:Int)<(j:Int):=by omega
    obtain rfl:i=j:=by omega
    exact⟨_,by simp only [c1,decide_false,Bool.false_eq_true,if_false],i,rfl,hj,ha,hb⟩) (0,(l.length:Int)) ⟨0,l.length,rfl,by omega,by omega,by omega,by omega⟩ (by simp only [a3k];omega)
 refine⟨i,hi, ?_⟩
 unfold bsM
 rw [he]
 have hle:=hi.le
 by_cases h:i<l.length
 · have c1:(i:Int)<(l.length:Int):=by omega
   have hx:idx l (i:Int)=some l[i]:=by simp [idx,h]
   simp only [Option.bind_some,c1,decide_true,if_true,hx,hc _ (List.getElem_mem h),List.getElem?_eq_getElem h,Option.some.injEq,exists_eq_left']
   congr 2
 · have c1:¬(i:Int)<(l.length:Int):=by omega
   simp only [Option.bind_some,c1,decide_false,Bool.false_eq_true,if_false,List.getElem?_eq_none (show l.length≤i by omega)]
   simp
noncomputable def upd {α:Type} (c:α→Int) (new:α) (f:α→α):List α→List α
 | []=> [f new]
 |x::l=>if c x<0 then x::upd c new f l else if c x=0 then f x::l else f new::x::l
theorem b4E {α:Type} {c:α→Int} {new:α} {f:α→α}:∀ {l:List α} {i:Nat},Cut c l i→upd c new f l=l.take i++(match l.drop i with| []=> [f new]|x::r=>if c x=0 then f x::r else f new::x::r)
 | [],i,h=>by simp [upd]
 |x::l,0,h=>by
  have:=h.hi 0 (by simp) (Nat.le_refl _)
  simp only [List.getElem_cons_zero]at this
  simp [upd,this]
 |x::l,i+1,h=>by
  have h0:=h.lo 0 (by simp) (by omega)
  simp only [List.getElem_cons_zero]at h0
  have ih:=b4E (c:=c) (new:=new) (f:=f) (l:=l) (i:=i) ⟨by have:=h.le;simpa using this,fun k hk hki=>h.lo (k+1) (by simpa using hk) (by omega),fun k hk hki=>h.hi (k+1) (by simpa using hk) (by omega)⟩
  simp only [upd,h0,if_true,ih,List.take_succ_cons,List.drop_succ_cons,List.cons_append]
theorem b4K {α:Type} {l:List α} {i:Nat} {x:α} (h:l[i]?=some x):l.drop i=x::l.drop (i+1):=by
 obtain⟨hi,rfl⟩:=List.getElem?_eq_some_iff.1 h
 exact List.drop_eq_getElem_cons hi
theorem b3u {α:Type} {c:α→Int} {l:List α} {i:Nat} (h:Cut c l i) {x:α} (hx:l[i]?=some x) (h0:c x=0) (new:α) (f:α→α):l.set i (f x)=upd c new f l∧(upd c new f l).length=l.length:=by
 have e:l.set i (f x)=upd c new f l:=by
  rw [b4E h,b4K hx]
  simp only [h0,if_true]
  have hi:=(List.getElem?_eq_some_iff.1 hx).1
  rw [List.set_eq_take_append_cons_drop,if_pos hi]
 exact⟨e,by rw [←e];simp⟩
theorem b1a {α:Type} {c:α→Int} {l:List α} {i:Nat} (h:Cut c l i) (hn:¬∃x,l[i]?=some x∧c x=0) (new:α) (f:α→α):(l.take i++new::l.drop i)[i]?=some new∧(l.take i++new::l.drop i).set i (f new)=upd c new f l∧(upd c new f l).length=l.length+1:=by
 have hle:=h.le
 have hlen:(l.take i).length=i:=by simp;omega
 have e:(l.take i++new::l.drop i).set i (f new)=upd c new f l:=by
  rw [b4E h,List.set_append_right _ _ (by omega),hlen,Nat.sub_self,List.set_cons_zero]
  cases hd:l.drop i with
  |nil=>rfl
  |cons y r=>
   have hy:l[i]?=some y:=by rw [←List.head?_drop,hd];rfl
   have:¬c y=0:=fun h0=>hn ⟨y,hy,h0⟩
   simp only [this,if_false]
 refine⟨by rw [List.getElem?_append_right (by omega),hlen];simp,e, ?_⟩
 rw [←e]
 simp
 omega
theorem b0Y {α:Type} (s:List α) (i:Nat) (v:α) (b:Nat) (hl:s.length≤1000) (hb:b≤1000) (hi:i≤s.length):
 (gd (0≤(i:Int)∧(i:Int).toNat≤s.length)<|if(([v].length:Int)==0)=true then some s else if((i:Int)==(s.length:Int))=true then gd ((s.length+ [v].length)*b≤140737488355328∧s.length+ [v].length≤9223372036854775807)<|some (s++ [v])else
  gd (0≤(i:Int)∧(i:Int).toNat<s.length∧0< [v].length∧(s.length+ [v].length)*b≤140737488355328∧s.length+ [v].length≤9223372036854775807) (some (s.take (i:Int).toNat++ [v]++s.drop (i:Int).toNat)))=some (s.take i++v::s.drop i):=by
 have hm:(s.length+ [v].length)*b≤140737488355328:=by
  have:(s.length+ [v].length)*b≤1001*1000:=Nat.mul_le_mul (by simp;omega) hb
  omega
 have h2:s.length+ [v].length≤9223372036854775807:=by simp;omega
 rw [a7x (by omega)]
 have e1:(([v].length:Int)==0)=false:=rfl
 simp only [e1,Bool.false_eq_true,if_false]
 by_cases h:i=s.length
 · subst h
   simp only [beq_self_eq_true,if_true]
   rw [a7x ⟨hm,h2⟩]
   simp
 · have e2:((i:Int)==(s.length:Int))=false:=by rw [beq_eq_false_iff_ne];omega
   simp only [e2,Bool.false_eq_true,if_false]
   rw [a7x ⟨by omega,by omega,by simp,hm,h2⟩]
   simp
theorem b0K {α:Type} {l:List α} {f:α→α→Prop} {c:α→Int} (h:I4 f l) (hc:∀a b,f a b→c b<0→c a<0):∀i j (hi:i<l.length) (hj:j<l.length),i≤j→c l[j]<0→c l[i]<0:=by
 intro i j hi hj hij
 induction j with
 |zero=>
  obtain rfl:i=0:=by omega
  exact id
 |succ j ih=>
  intro h1
  by_cases e:i=j+1
  · subst e;exact h1
  · exact ih (by omega) (by omega) (hc _ _ (h j _ _ (List.getElem?_eq_getElem _) (List.getElem?_eq_getElem hj)) h1)
def S4 (n:Int) (s:d0):Int:=a9Q s.Night n
def b2X (n:Int) (b:d9):Int:=a9Q b.Night n
def a0B (b n:Int) (h:c9):Int:=b2P h.Ballot b h.Night n
def a0b (o n:Int) (l:d7):Int:=b2P l.Owner o l.No n
theorem b7g {me:Int} {s:c8} (h:j5 me s) (t:d0):∃i,Cut (S4 t.Night) s.Slots i∧B5 s.Slots t=some ((i:Int),decide (∃x,s.Slots[i]?=some x∧S4 t.Night x=0)):=by
 obtain⟨i,hi,e⟩:=a5O s.Slots (S4 t.Night) (by have:=h.nslots;omega) (b0K h.rslots fun a b hab hb=>by unfold S4 at*;rw [a4F]at*;unfold a3t at hab;omega) (fun x=>J5 x t) (fun x _=>a6g x t)
 refine⟨i,hi, ?_⟩
 unfold B5
 rw [show n7 s.Slots t=_ from e]
 rfl
theorem b9N {me:Int} {s:c8} (h:j5 me s) (t:d9):∃i,Cut (b2X t.Night) s.Bids i∧B7 s.Bids t=some ((i:Int),decide (∃x,s.Bids[i]?=some x∧b2X t.Night x=0)):=by
 obtain⟨i,hi,e⟩:=a5O s.Bids (b2X t.Night) (by have:=h.nbids;omega) (b0K h.rbids fun a b hab hb=>by unfold b2X at*;rw [a4F]at*;unfold a3E at hab;omega) (fun x=>L1 x t) (fun x _=>a6J x t)
 refine⟨i,hi, ?_⟩
 unfold B7
 rw [show o8 s.Bids t=_ from e]
 rfl
theorem b5k {me:Int} {s:c8} (h:j5 me s) (t:c9):∃i,Cut (a0B t.Ballot t.Night) s.Heard i∧B1 s.Heard t=some ((i:Int),decide (∃x,s.Heard[i]?=some x∧a0B t.Ballot t.Night x=0)):=by
 obtain⟨i,hi,e⟩:=a5O s.Heard (a0B t.Ballot t.Night) (by have:=h.nheard;omega) (b0K h.rheard fun a b hab hb=>by unfold a0B at*;rw [a7o]at*;unfold a3O at hab;omega) (fun x=>J2 x t) (fun x _=>a5Z x t)
 refine⟨i,hi, ?_⟩
 unfold B1
 rw [show l9 s.Heard t=_ from e]
 rfl
theorem b2i {me:Int} {s:c8} (h:j5 me s) (t:d7):∃i,Cut (a0b t.Owner t.No) s.Loans i∧s8 s.Loans t=some ((i:Int),decide (∃x,s.Loans[i]?=some x∧a0b t.Owner t.No x=0)):=by
 obtain⟨i,hi,e⟩:=a5O s.Loans (a0b t.Owner t.No) (by have:=h.nloans;omega) (b0K h.rloans fun a b hab hb=>by unfold a0b at*;rw [a7o]at*;unfold a1d at hab;omega) (fun x=>J3 x t) (fun x _=>a6a x t)
 refine⟨i,hi, ?_⟩
 unfold s8
 rw [show n6 s.Loans t=_ from e]
 rfl
end Go.Proofs.YtcedmbakcchkiaaGreatDoor
namespace Go.Proofs.YtcedmbakcchkiaaGreatDoor
open Go Go.Sx
open Classical
theorem a9b {S E:Type} {body:S→Option (Sum S E)} (st:Nat→S) (n:Nat) (hn:n≤9223372036854775807) (fin:E) (h:∀k,k<n→body (st k)=some (.inl (st (k+1)))) (he:body (st n)=some (.inr fin)):s9 body (st 0)=some fin:=by
 have key:∀(m k N:Nat),k+m=n→m<N→a0I body N (st k)=some fin:=by
  intro m
  induction m with
  |zero=>
   intro k N hk hN
   cases N with
   |zero=>omega
   |succ N=>
    obtain rfl:k=n:=by omega
    simp only [a0I,he]
  |succ m ih=>
   intro k N hk hN
   cases N with
   |zero=>omega
   |succ N=>
    simp only [a0I,h k (by omega)]
    exact ih (k+1) N (by omega) (by omega)
 exact key n 0 a3k (by omega) (by unfold a3k;omega)
theorem a7p {α:Type} {l:List α} {k:Nat} {x:α} (h:l[k]?=some x):l.take (k+1)=l.take k++ [x]:=by
 rw [List.take_add_one,h];rfl
theorem c3T {α:Type} {c:α→Int} {l:List α} {i:Nat} {f:α→α→Prop} (h:Cut c l i) (hr:I4 f l) (hf:∀a b,f a b→¬c a<0→0<c b):∀k y,i<k→l[k]?=some y→0<c y:=by
 intro k y hk hy
 obtain⟨hl,rfl⟩:=List.getElem?_eq_some_iff.1 hy
 obtain⟨m,rfl⟩:∃m,k=m+1:=⟨k-1,by omega⟩
 exact hf _ _ (hr m _ _ (List.getElem?_eq_getElem (by omega)) (List.getElem?_eq_getElem hl)) (h.hi m (by omega) (by omega))
theorem c4k {α:Type} {c:α→Int} {l:List α} {i k:Nat} {y:α} (h:Cut c l i) (hk:k<i) (hy:l[k]?=some y):c y<0:=by
 obtain⟨hl,rfl⟩:=List.getElem?_eq_some_iff.1 hy
 exact h.lo k hl hk
end Go.Proofs.YtcedmbakcchkiaaGreatDoor
namespace Go.Proofs.YtcedmbakcchkiaaGreatDoor
open Go Go.Sx
open Classical
def S8 (m d:Int):Int:=(Q1 m d).getD 0
def a1s (m d:Int):Bool:=(X6 m d).getD false
def b5J (d:Int):Int:=(a5e d).getD 0
set_option maxRecDepth 100000 in theorem mask_f : ∀ (m : Fin 64) (d : Fin 6), Q1 (m.val : Int) (d.val : Int) = some (S8 m.val d.val) ∧ (0 ≤ S8 m.val d.val ∧ S8 m.val d.val ≤ 63 ∧ S8 m.val d.val ≠ 0) ∧ X6 (m.val : Int) (d.val : Int) = some (a1s m.val d.val) ∧ a5e (d.val : Int) = some (b5J d.val) ∧
    ((W ((BitVec.ofInt IntKind.i64.bits (m.val : Int) &&& BitVec.ofInt IntKind.i64.bits (b5J d.val)).toNat : Int)) != 0) = a1s m.val d.val ∧ (W ((BitVec.ofInt IntKind.i64.bits (m.val : Int) ||| BitVec.ofInt IntKind.i64.bits (b5J d.val)).toNat : Int)) = S8 m.val d.val ∧ b5J d.val = S8 0 d.val := by decide +kernel
theorem a8o {m d:Int} (hm:0≤m∧m≤63) (hd:0≤d∧d≤5):Q1 m d=some (S8 m d)∧(0≤S8 m d∧S8 m d≤63∧S8 m d≠0)∧X6 m d=some (a1s m d)∧a5e d=some (b5J d)∧
 ((W ((BitVec.ofInt IntKind.i64.bits m&&&BitVec.ofInt IntKind.i64.bits (b5J d)).toNat:Int)) !=0)=a1s m d∧(W ((BitVec.ofInt IntKind.i64.bits m|||BitVec.ofInt IntKind.i64.bits (b5J d)).toNat:Int))=S8 m d∧b5J d=S8 0 d:=by
 have:=mask_f ⟨m.toNat,by omega⟩ ⟨d.toNat,by omega⟩
 simp only [Int.toNat_of_nonneg hm.1,Int.toNat_of_nonneg hd.1]at this
 exact this
def a0d (c:b8) (s:d0):d0:=if c.Ballot>s.Promised then⟨s.Night,c.Ballot,s.Ballot,s.Value⟩else s
def a3y (c:b8) (s:d0):d0:=if c.Ballot≥s.Promised then⟨s.Night,c.Ballot,c.Ballot,c.Value⟩else s
def U5 (c:b8) (h:c9):c9:=if h.Value=c.Value then⟨h.Night,h.Ballot,h.Value,S8 h.Mask c.From⟩else h
def Z9 (c:b8) (b:d9):d9:=if b.Night=c.Night∧b.Ballot=c.Ballot∧b.Asked=false∧a1s b.Mask c.From=false then⟨b.Night,b.Ballot,if c.Best>b.Best then c.Value else b.Value,if c.Best>b.Best then c.Best else b.Best,S8 b.Mask c.From,qr (S8 b.Mask c.From)⟩else b
def a2h (c:b8) (l:c0):c0:=if l.No=c.No∧l.Thing=c.Thing∧l.To=c.From then⟨l.No,l.Thing,l.To,l.From,min l.Until (max c.Until l.From)⟩else l
def C4 (c:b8):d0:=⟨c.Night,0,0,0⟩
def L7 (c:b8):c9:=⟨c.Night,c.Ballot,c.Value,0⟩
def V2 (c:b8):d7:=⟨c.From,c.No,c.Thing,c.Start,c.Until,false⟩
inductive c0v {α:Type} (m:Option (Sum (List α×Int) Unit)) (c:α→Int) (new:α) (l:List α) (most:Nat):Prop
 |fits (i:Nat) (L:List α) (e:α) (hm:m=some (.inl (L,(i:Int)))) (he:L[i]?=some e) (hs:∀f,L.set i (f e)=upd c new f l) (hl:∀f,(upd c new f l).length≤most)
 |full (hm:m=some (.inr ())) (hl:∀f,¬(upd c new f l).length≤most)
theorem b0Q {α:Type} {c:α→Int} {l:List α} {new:α} {most:Nat} {i:Nat} {pl:Option (Int×Bool)} {ins:Int→Option (List α)} (hc:Cut c l i) (hl:l.length≤most) (hp:pl=some ((i:Int),decide (∃x,l[i]?=some x∧c x=0))) (hi:ins (i:Int)=some (l.take i++new::l.drop i)):
 c0v (Option.bind pl fun(x1,x2)=>if x2=true then some (.inl (l,x1))else if((l.length:Int)==(most:Int))=true then some (.inr ())else Option.bind (ins x1) fun x=>some (.inl (x,x1))) c new l most:=by
 subst hp
 by_cases h:∃x,l[i]?=some x∧c x=0
 · obtain⟨x,hx,h0⟩:=h
   refine .fits i l x ?_ hx (fun f=>(b3u hc hx h0 new f).1) (fun f=>by rw [(b3u hc hx h0 new f).2];exact hl)
   simp only [Option.bind_some]
   rw [if_pos (decide_eq_true ⟨x,hx,h0⟩)]
 · by_cases hf:l.length=most
   · refine .full ?_ (fun f=>by rw [(b1a hc h new f).2.2];omega)
     simp only [Option.bind_some]
     rw [if_neg (by simpa using h),if_pos (by rw [hf];simp)]
   · refine .fits i _ new ?_ (b1a hc h new id).1 (fun f=>(b1a hc h new f).2.1) (fun f=>by rw [(b1a hc h new f).2.2];omega)
     simp only [Option.bind_some]
     rw [if_neg (by simpa using h),if_neg (by rw [beq_iff_eq];omega),hi]
     rfl
theorem b3k {me:Int} {s:c8} (h:j5 me s) (c:b8):c0v (a1F c s.Slots) (S4 c.Night) (C4 c) s.Slots 12:=by
 obtain⟨i,hi,e⟩:=b7g h (C4 c)
 have hn:s.Slots.length≤12:=by have:=h.nslots;omega
 exact b0Q (ins:=fun i=>O5 s.Slots i [C4 c]) hi hn e (b0Y s.Slots i (C4 c) 32 (by have:=h.nslots;omega) (by omega) hi.le)
theorem b6t {me:Int} {s:c8} (h:j5 me s) (c:b8):c0v (a1r c s.Heard) (a0B c.Ballot c.Night) (L7 c) s.Heard 60:=by
 obtain⟨i,hi,e⟩:=b5k h (L7 c)
 have hn:s.Heard.length≤60:=by have:=h.nheard;omega
 exact b0Q (ins:=fun i=>M7 s.Heard i [L7 c]) hi hn e (b0Y s.Heard i (L7 c) 32 (by have:=h.nheard;omega) (by omega) hi.le)
theorem b9Q {me:Int} {s:c8} (h:j5 me s) (c:b8):c0v (a1B c s.Loans) (a0b c.From c.No) (V2 c) s.Loans 60:=by
 obtain⟨i,hi,e⟩:=b2i h (V2 c)
 have hn:s.Loans.length≤60:=by have:=h.nloans;omega
 exact b0Q (ins:=fun i=>O4 s.Loans i [V2 c]) hi hn e (b0Y s.Loans i (V2 c) 48 (by have:=h.nloans;omega) (by omega) hi.le)
theorem a5H {α:Type} {L:List α} {i:Nat} {e:α} (x:α) (h:L[i]?=some e):(L.set i x)[i]?=some x:=by
 have:=(List.getElem?_eq_some_iff.1 h).1
 simp [this]
def fits {α:Type} (l l0:List α) (most:Nat):List α×Bool:=if l.length≤most then(l,true)else(l0,false)
theorem b6A {me:Int} {s:c8} (h:j5 me s) (c:b8):Y6 c s.Slots=some (fits (upd (S4 c.Night) (C4 c) (a0d c) s.Slots) s.Slots 12):=by
 unfold Y6 V5 fits
 rcases b3k h c with⟨i,L,e,hm,he,hs,hl⟩|⟨hm,hl⟩
 · rw [if_pos (hl _),←hs]
   simp only [hm,Option.bind_some,O6 he,a0d]
   by_cases hb:c.Ballot>e.Promised
   · simp [hb]
   · have:=hs id
     have h2:L.set i e=L:=by
      obtain⟨hi,rfl⟩:=List.getElem?_eq_some_iff.1 he
      exact List.set_getElem_self hi
     simp [hb,h2]
 · rw [if_neg (hl _)]
   simp only [hm,Option.bind_some]
theorem a2z {α:Type} {L:List α} {i:Nat} {e:α} (he:L[i]?=some e):L.set i e=L:=by
 obtain⟨hi,rfl⟩:=List.getElem?_eq_some_iff.1 he
 exact List.set_getElem_self hi
theorem b8P {me:Int} {s:c8} (h:j5 me s) (c:b8):a0a c s.Slots=some (fits (upd (S4 c.Night) (C4 c) (a3y c) s.Slots) s.Slots 12):=by
 unfold a0a V5 fits
 rcases b3k h c with⟨i,L,e,hm,he,hs,hl⟩|⟨hm,hl⟩
 · rw [if_pos (hl _),←hs]
   simp only [hm,Option.bind_some,O6 he,a3y]
   by_cases hb:c.Ballot≥e.Promised
   · simp only [hb,decide_true,if_true,Int.toNat_natCast,O6 (a5H _ he),Option.bind_some]
     have e1:=a5H (L:=L) (⟨e.Night,c.Ballot,e.Ballot,e.Value⟩:d0) he
     have e2:=a5H (L:=L) (⟨e.Night,c.Ballot,c.Ballot,e.Value⟩:d0) he
     simp only [O6 e1,Option.bind_some,List.set_set,O6 e2]
   · simp [hb,a2z he]
 · rw [if_neg (hl _)]
   simp only [hm,Option.bind_some]
theorem b5P {me:Int} {s:c8} (h:j5 me s) {c:b8} (hc:0≤c.From∧c.From≤5):V8 c s.Heard=some (fits (upd (a0B c.Ballot c.Night) (L7 c) (U5 c) s.Heard) s.Heard 60):=by
 unfold V8 fits
 rcases b6t h c with⟨i,L,e,hm,he,hs,hl⟩|⟨hm,hl⟩
 · rw [if_pos (hl _)]
   have hmask:0≤e.Mask∧e.Mask≤63:=by
    have hL:L=upd (a0B c.Ballot c.Night) (L7 c) id s.Heard:=by rw [←hs id];exact(a2z he).symm
    have hmem:e∈L:=List.mem_of_getElem? he
    rw [hL]at hmem
    have key:∀l:List c9,(∀x,x∈l→0≤x.Mask∧x.Mask≤63)→e∈upd (a0B c.Ballot c.Night) (L7 c) id l→0≤e.Mask∧e.Mask≤63:=by
     intro l
     induction l with
     |nil=>
      intro _ he
      simp only [upd,List.mem_singleton,id]at he
      subst he;simp [L7]
     |cons x l ih=>
      intro hx he
      unfold upd at he
      split at he
      · rcases List.mem_cons.1 he with rfl|he
        · exact hx _ List.mem_cons_self
        · exact ih (fun y hy=>hx y (List.mem_cons_of_mem _ hy)) he
      · split at he
        · exact hx _ he
        · rcases List.mem_cons.1 he with rfl|he
          · simp [L7]
          · exact hx _ he
    exact key _ (fun x hx=>(h.heard x hx).2.2.2.2) hmem
   have hw:=(a8o hmask hc).1
   rw [←hs]
   simp only [hm,Option.bind_some,O6 he,U5]
   by_cases hb:e.Value=c.Value
   · simp [hb,hw]
   · simp [hb,a2z he]
 · rw [if_neg (hl _)]
   simp only [hm,Option.bind_some]
theorem c1d {me:Int} {s:c8} (h:j5 me s) (c:b8):a0w c s.Loans=some (fits (upd (a0b c.From c.No) (V2 c) id s.Loans) s.Loans 60):=by
 unfold a0w fits
 rcases b9Q h c with⟨i,L,e,hm,he,hs,hl⟩|⟨hm,hl⟩
 · rw [if_pos (hl _),←hs]
   simp only [hm,Option.bind_some,id,a2z he]
 · rw [if_neg (hl _)]
   simp only [hm,Option.bind_some]
theorem c0z {α:Type} {body:(Int×List α)→Option (Sum (Int×List α) (Int×List α))} (l:List α) (hl:l.length≤1000) (f:α→α)
 (h:∀(k:Nat) (v:List α) (x:α),v.length=l.length→l[k]?=some x→v[k]?=some x→body ((k:Int),v)=some (.inl (((k+1:Nat):Int),v.set k (f x))))
 (he:∀v:List α,v.length=l.length→body ((l.length:Int),v)=some (.inr ((l.length:Int),v))):s9 body (0,l)=some ((l.length:Int),l.map f):=by
 have:=a9b (body:=body) (fun k=>((k:Int),(l.take k).map f++l.drop k)) l.length (by omega) ((l.length:Int),l.map f) (fun k hk=>by
  obtain⟨x,hx⟩:=a9q hk
  have hlen:((l.take k).map f).length=k:=by simp;omega
  have hv:((l.take k).map f++l.drop k)[k]?=some x:=by
   rw [List.getElem?_append_right (by omega),hlen,Nat.sub_self,List.getElem?_drop]
   exact hx
  rw [h k _ x (by simp;omega) hx hv]
  congr 3
  rw [List.set_append_right _ _ (by omega),hlen,Nat.sub_self,b4K hx,List.set_cons_zero,a7p hx]
  simp) (by
  rw [he _ (by simp)]
  simp)
 simpa using this
theorem c2S {me:Int} {s:c8} (h:j5 me s) (c:b8):a0N c s.Leases=some (s.Leases.map (a2h c)):=by
 have hl:=h.nleases
 unfold a0N
 rw [c0z s.Leases (by omega) (a2h c) (fun k v x hv hx hvx=>by
  have hk:=(List.getElem?_eq_some_iff.1 hx).1
  have hlt:((k:Int)<(s.Leases.length:Int)):=by omega
  have hw:W ((k:Int)+1)=((k+1:Nat):Int):=W_s (by omega)
  unfold Q4 a2h
  simp only [hlt,decide_true,if_true,O6 hvx,Option.bind_some,hw,b4O,b7l,Int.toNat_natCast]
  by_cases g1:x.No=c.No<;>by_cases g2:x.Thing=c.Thing<;>by_cases g3:x.To=c.From<;>simp [g1,g2,g3,a2z hvx]) (fun v hv=>by simp [Q4])]
 rfl
end Go.Proofs.YtcedmbakcchkiaaGreatDoor
namespace Go.Proofs.YtcedmbakcchkiaaGreatDoor
open Go Go.Sx
open Classical
theorem b9y {α:Type} (l:List α) (hl:l.length≤9223372036854775807) (P:α→Option Bool) (Q:α→Prop) (hP:∀x,x∈l→Ans (P x) (Q x)) {m:Option Int}
 (hm:m=Option.bind (s9 (fun(v:Int)=>if(decide (v<(l.length:Int)))=true then Option.bind (idx l v) fun e=>Option.bind (P e) fun x=>if x=true then some (.inr (.inr v))else some (.inl (W (v+1)))else some (.inr (.inl v))) 0)
  fun(e:Sum Int Int)=>match e with| .inl _=>some (-1)| .inr r=>some r):(∃(j:Nat) (x:α),l[j]?=some x∧Q x∧m=some (j:Int))∨((∀x,x∈l→¬Q x)∧m=some (-1)):=by
 have hs:=a3R (body:=fun(v:Int)=>if(decide (v<(l.length:Int)))=true then Option.bind (idx l v) fun e=>Option.bind (P e) fun x=>if x=true then some (.inr (.inr v))else some (.inl (W (v+1)))else some (.inr (.inl v)))
  l.length hl (fun i=>match l[i]? with|some x=>if Q x then some (i:Int)else none|none=>none) 0 (Nat.zero_le _) (fun i _ h2=>by
   have hlt:((i:Int)<(l.length:Int)):=by omega
   simp only [hlt,decide_true,if_true,O6 (List.getElem?_eq_getElem h2),Option.bind_some,(hP _ (List.getElem_mem h2)).eq,List.getElem?_eq_getElem h2]
   by_cases hp:Q l[i]
   · simp [hp]
   · simp [hp];exact W_s (by omega)) (by simp)
 rw [show((0:Nat):Int)=0 from rfl]at hs
 rw [hm,hs]
 by_cases hany:∃x,x∈l∧Q x
 · obtain⟨x,hx,hpx⟩:=hany
   obtain⟨i,hi,rfl⟩:=List.getElem_of_mem hx
   obtain⟨j,r,a,b,c,d⟩:=a7q (q:=fun i=>match l[i]? with|some x=>if Q x then some (i:Int)else none|none=>none) (l.length-0) 0 i (Nat.zero_le _) (by omega) (by simp [List.getElem?_eq_getElem hi,hpx])
   have hj:j<l.length:=by omega
   simp only [List.getElem?_eq_getElem hj]at c
   split at c
   · rename_i hq
     simp only [Option.some.injEq]at c
     subst c
     exact .inl ⟨j,l[j],List.getElem?_eq_getElem hj,hq,by rw [d];rfl⟩
   · cases c
 · right
   refine⟨fun x hx hq=>hany ⟨x,hx,hq⟩, ?_⟩
   rw [a5j _ _ (fun i _ h2=>by
    have hi:i<l.length:=by omega
    simp only [List.getElem?_eq_getElem hi]
    rw [if_neg (fun hq=>hany ⟨_,List.getElem_mem hi,hq⟩)])]
   rfl
theorem b8n {α:Type} {l:List α} {f:α→α} {j:Nat} {x:α} (hx:l[j]?=some x) (h:∀k y,k≠j→l[k]?=some y→f y=y):l.map f=l.set j (f x):=by
 refine List.ext_getElem? fun k=> ?_
 have hj:=(List.getElem?_eq_some_iff.1 hx).1
 rw [List.getElem?_map,List.getElem?_set]
 by_cases hk:j=k
 · subst hk;rw [if_pos rfl,if_pos hj,hx];rfl
 · rw [if_neg hk]
   cases hy:l[k]? with
   |none=>rfl
   |some y=>simp [h k y (fun e=>hk e.symm) hy]
theorem map_id {α:Type} {l:List α} {f:α→α} (h:∀x,x∈l→f x=x):l.map f=l:=by
 conv=>rhs;rw [←List.map_id l]
 exact List.map_congr_left fun x hx=>by rw [h x hx];rfl
theorem b7t {l:List d9} (h:a8A (fun a b=>a.Ballot=b.Ballot) l) {i j:Nat} {x y:d9} (hi:l[i]?=some x) (hj:l[j]?=some y) (e:x.Ballot=y.Ballot):i=j:=by
 rcases Nat.lt_trichotomy i j with hlt|he|hgt
 · exact absurd e (h j y hj x (List.mem_take_iff_getElem.2 ⟨i,by have:=(List.getElem?_eq_some_iff.1 hi).1;omega,(List.getElem?_eq_some_iff.1 hi).2⟩))
 · exact he
 · exact absurd e.symm (h i x hi y (List.mem_take_iff_getElem.2 ⟨j,by have:=(List.getElem?_eq_some_iff.1 hj).1;omega,(List.getElem?_eq_some_iff.1 hj).2⟩))
theorem b7G {me:Int} {s:c8} (h:j5 me s) {c:b8} (hc:0≤c.From∧c.From≤5):Y7 c s.Bids=some (s.Bids.map (Z9 c)):=by
 have hl:=h.nbids
 unfold Y7
 rcases b9y s.Bids (by omega) (fun b=>a0e b c) (fun b=>b.Night=c.Night∧b.Ballot=c.Ballot) (fun b _=>Ans.ite (by simp) fun _=>Ans.ofb (by simp)) (m:=A9 s.Bids c) rfl with⟨j,x,hx,⟨q1,q2⟩,hm⟩|⟨hn,hm⟩
 · have hv:=h.bids x (List.mem_of_getElem? hx)
   have hmask:=hv.2.2.2.2.2.1
   obtain⟨mw,mb,mh,_⟩:=a8o hmask hc
   have mq:=(a9S (n:=S8 x.Mask c.From) ⟨mb.1,mb.2.1⟩).1
   have hset:s.Bids.map (Z9 c)=s.Bids.set j (Z9 c x):=b8n hx fun k y hk hy=>by
    unfold Z9
    rw [if_neg]
    rintro⟨_,e,_⟩
    exact hk (b7t h.ballots hy hx (by rw [e,q2]))
   have hj0:¬((j:Int)<0):=by omega
   rw [hset]
   simp only [hm,Option.bind_some,hj0,decide_false,Bool.false_eq_true,if_false,O6 hx,mh,mw,mq,Int.toNat_natCast,Z9,q1,q2,true_and]
   by_cases ha:x.Asked=true
   · simp [ha,a2z hx]
   · by_cases hh:a1s x.Mask c.From=true
     · simp [ha,hh,a2z hx]
     · have e1:=a5H (L:=s.Bids) (⟨c.Night,c.Ballot,x.Value,x.Best,S8 x.Mask c.From,x.Asked⟩:d9) hx
       have e2:=a5H (L:=s.Bids) (⟨c.Night,c.Ballot,x.Value,x.Best,S8 x.Mask c.From,qr (S8 x.Mask c.From)⟩:d9) hx
       have e3:=a5H (L:=s.Bids) (⟨c.Night,c.Ballot,x.Value,c.Best,S8 x.Mask c.From,qr (S8 x.Mask c.From)⟩:d9) hx
       have ha':x.Asked=false:=by simpa using ha
       have hh':a1s x.Mask c.From=false:=by simpa using hh
       simp only [ha',hh',Bool.false_eq_true,if_false,and_self,if_true]at e1 e2 e3⊢
       simp only [O6 e1,Option.bind_some,List.set_set,O6 e2]
       by_cases hb:c.Best>x.Best
       · simp only [hb,decide_true,if_true,O6 e3,Option.bind_some]
       · simp only [hb,decide_false,Bool.false_eq_true,if_false]
 · rw [map_id (fun x hx=>by
    unfold Z9
    rw [if_neg]
    rintro⟨a,b,_⟩
    exact hn x hx ⟨a,b⟩)]
   simp [hm]
end Go.Proofs.YtcedmbakcchkiaaGreatDoor
namespace Go.Proofs.YtcedmbakcchkiaaGreatDoor
open Go Go.Sx
open Classical
theorem a4z (b n:Int) (y:c9):(a0B b n y<0↔y.Ballot<b∨(y.Ballot=b∧y.Night<n))∧(a0B b n y=0↔y.Ballot=b∧y.Night=n):=⟨a7o,b8d⟩
theorem a1l (o n:Int) (y:d7):(a0b o n y<0↔y.Owner<o∨(y.Owner=o∧y.No<n))∧(a0b o n y=0↔y.Owner=o∧y.No=n):=⟨a7o,b8d⟩
theorem c3Q {x:Int} (h1:¬x<0) (h2:¬x=0):0<x:=by omega
end Go.Proofs.YtcedmbakcchkiaaGreatDoor
namespace Go.Proofs.YtcedmbakcchkiaaGreatDoor
open Go Go.Sx
open Classical
noncomputable def N0 (s:c8) (c:b8):Option c8:=
 if c.Kind=1 then(if(upd (S4 c.Night) (C4 c) (a0d c) s.Slots).length≤12 then some ⟨s.Round,upd (S4 c.Night) (C4 c) (a0d c) s.Slots,s.Bids,s.Heard,s.Leases,s.Loans⟩else none)
 else if c.Kind=2 then some ⟨s.Round,s.Slots,s.Bids.map (Z9 c),s.Heard,s.Leases,s.Loans⟩
 else if c.Kind=3 then(if(upd (S4 c.Night) (C4 c) (a3y c) s.Slots).length≤12 then some ⟨s.Round,upd (S4 c.Night) (C4 c) (a3y c) s.Slots,s.Bids,s.Heard,s.Leases,s.Loans⟩else none)
 else if c.Kind=4 then(if(upd (a0B c.Ballot c.Night) (L7 c) (U5 c) s.Heard).length≤60 then some ⟨s.Round,s.Slots,s.Bids,upd (a0B c.Ballot c.Night) (L7 c) (U5 c) s.Heard,s.Leases,s.Loans⟩else none)
 else if c.Kind=5 then(if(upd (a0b c.From c.No) (V2 c) id s.Loans).length≤60 then some ⟨s.Round,s.Slots,s.Bids,s.Heard,s.Leases,upd (a0b c.From c.No) (V2 c) id s.Loans⟩else none)
 else some ⟨s.Round,s.Slots,s.Bids,s.Heard,s.Leases.map (a2h c),s.Loans⟩
noncomputable def b2g (x:a8) (c:b8):a8×Int:=
 if y9 x then(if a4q c∧c.To=x.Me then(match N0 x.Now c with|some s=>(⟨x.Me,s,x.Safe⟩,0)|none=>(Z0,2))else(Z0,91))else(Z0,90)
theorem a8H (x:a8):U3 x=some (if y9 x then .inr (x.Now.Slots,x.Now.Bids,x.Now.Heard,x.Now.Leases,x.Now.Loans,x.Safe.Slots,x.Safe.Bids,x.Safe.Heard,x.Safe.Leases,x.Safe.Loans,x.Me,x.Now.Round,x.Safe.Round)else .inl 90):=by
 have e:=b4Y x
 unfold Err at e
 unfold U3
 rw [e]
 by_cases h:y9 x
 · rw [if_pos h,if_pos h,a2m h.1,a2m h.2];rfl
 · rw [if_neg h,if_neg h];rfl
theorem a4q.kinds {c:b8} (h:a4q c):c.Kind=1∨c.Kind=2∨c.Kind=3∨c.Kind=4∨c.Kind=5∨c.Kind=6:=by
 rcases h.kind with h|h|h|h|h|h<;>simp [h.1]
theorem b8f (x:a8) (c:b8):Q6 x c=some (b2g x c):=by
 unfold Q6 b2g
 rw [a8H]
 by_cases h:y9 x
 · rw [if_pos h,if_pos h]
   simp only [Option.bind_some,(isCall_a c).eq]
   by_cases hc:a4q c
   · by_cases hto:c.To=x.Me
     · have e1:=b6A h.1 c
       have e2:=b7G h.1 hc.from_
       have e3:=b8P h.1 c
       have e4:=b5P h.1 hc.from_
       have e5:=c1d h.1 c
       have e6:=c2S h.1 c
       unfold fits at e1 e3 e4 e5
       simp only [hc,hto,and_self,if_true,decide_true,Bool.not_true,Bool.false_eq_true,if_false,bne_self_eq_false]
       rcases hc.kinds with k|k|k|k|k|k
       all_goals simp only [k,Int.reduceBEq,Bool.false_eq_true,if_false,if_true,e1,e2,e3,e4,e5,e6,Option.bind_some,N0,Int.reduceEq]
       · split<;>rfl
       · split<;>rfl
       · split<;>rfl
       · split<;>rfl
     · simp [hc,hto,Z0,S0]
   · simp [hc,Z0,S0]
 · rw [if_neg h,if_neg h];rfl
end Go.Proofs.YtcedmbakcchkiaaGreatDoor
namespace Go.Proofs.YtcedmbakcchkiaaGreatDoor
open Go Go.Sx
open Classical
def R2 (me r night value:Int):d9:=⟨night,6*(r+1)+me,value,0,0,false⟩
noncomputable def a3F (s:c8) (me night value:Int):List d9:=upd (b2X night) (R2 me s.Round night value) (fun _=>R2 me s.Round night value) s.Bids
noncomputable def a0V (x:a8) (night value:Int):a8×Int:=
 if y9 x then(if 0≤night∧night≤100000 then(if 1≤value∧value≤1000000 then(if x.Now.Round=9999∨¬(a3F x.Now x.Me night value).length≤12 then(Z0,2)else
  (⟨x.Me,⟨x.Now.Round+1,x.Now.Slots,a3F x.Now x.Me night value,x.Now.Heard,x.Now.Leases,x.Now.Loans⟩,x.Safe⟩,0))else(Z0,1))else(Z0,6))else(Z0,90)
theorem c1H {me:Int} {s:c8} (h:j5 me s) (hr:s.Round≠9999) (night value:Int):c0v (a0g night value s.Bids me s.Round) (b2X night) (R2 me s.Round night value) s.Bids 12:=by
 have hd:=h.dep;have hro:=h.round
 have w:W (W (6*W (s.Round+1))+me)=6*(s.Round+1)+me:=by rw [a2G (z:=s.Round+1) (by omega),a2G (z:=6*(s.Round+1)) (by omega),a2G (by omega)]
 obtain⟨i,hi,e⟩:=b9N h (R2 me s.Round night value)
 have hn:s.Bids.length≤12:=by have:=h.nbids;omega
 unfold a0g
 rw [w]
 exact b0Q (ins:=fun i=>P5 s.Bids i [R2 me s.Round night value]) hi hn e (b0Y s.Bids i (R2 me s.Round night value) 48 (by omega) (by omega) hi.le)
theorem b1s (x:a8) (night value:Int):Q0 x night value=some (a0V x night value):=by
 unfold Q0 a0V
 rw [a8H]
 by_cases h:y9 x
 · rw [if_pos h,if_pos h]
   simp only [Option.bind_some,(a3V night).eq,(a5q value).eq]
   by_cases h1:0≤night∧night≤100000
   · by_cases h2:1≤value∧value≤1000000
     · by_cases h3:x.Now.Round=9999
       · simp [h1,h2,h3,Z0,S0]
       · have hd:=h.1.dep;have hro:=h.1.round
         have w:W (W (6*(x.Now.Round+1))+x.Me)=6*(x.Now.Round+1)+x.Me:=by rw [a2G (z:=6*(x.Now.Round+1)) (by omega),a2G (by omega)]
         have w1:W (x.Now.Round+1)=x.Now.Round+1:=a2G (by omega)
         have n3:(x.Now.Round==9999)=false:=by rw [beq_eq_false_iff_ne];exact h3
         simp only [h1,h2,and_self,decide_true,Bool.not_true,Bool.false_eq_true,if_false,if_true,n3,h3,false_or,w,w1]
         rcases c1H h.1 h3 night value with⟨i,L,e,hm,he,hs,hl⟩|⟨hm,hl⟩
         · have hs':=hs (fun _=>R2 x.Me x.Now.Round night value)
           simp only [hm,Option.bind_some,O6 he,Int.toNat_natCast]
           have hl':(a3F x.Now x.Me night value).length≤12:=hl _
           rw [if_neg (fun hn=>hn hl')]
           unfold a3F
           rw [←hs']
           rfl
         · have hl':¬(a3F x.Now x.Me night value).length≤12:=hl _
           simp only [hm,Option.bind_some]
           rw [if_pos hl'];rfl
     · simp [h1,h2,Z0,S0]
   · simp [h1,Z0,S0]
 · rw [if_neg h,if_neg h];rfl
def b3K (l:List c0) (y:c0):Prop:=∃o,o∈l∧o.Thing=y.Thing∧a6i o y
noncomputable def b0m (x:a8) (thing to_ from_ until_:Int):a8×Int:=
 if y9 x then(if 1≤thing∧thing≤99 then(if 0≤to_∧to_≤5 then(if 0≤from_∧from_≤144001439 then(if 0≤until_∧until_≤144001439 then
  (if thing % 6=x.Me then(if to_=x.Me then(Z0,1)else if from_>until_ then(Z0,95)else
   if b3K x.Now.Leases ⟨(x.Now.Leases.length:Int)+1,thing,to_,from_,until_⟩then(Z0,93)else if x.Now.Leases.length=40 then(Z0,2)else
   (⟨x.Me,⟨x.Now.Round,x.Now.Slots,x.Now.Bids,x.Now.Heard,x.Now.Leases++ [⟨(x.Now.Leases.length:Int)+1,thing,to_,from_,until_⟩],x.Now.Loans⟩,x.Safe⟩,0))else(Z0,92))else(Z0,95))else(Z0,95))else(Z0,1))else(Z0,1))else(Z0,90)
theorem c4b (p:a8) (h:y9 p) (y:c0):Ans (a0z ⟨p⟩ y) (b3K p.Now.Leases y):=by
 have:=h.1.nleases
 exact(a0Z p.Now.Leases (by omega) (fun o=>a1b o y) (fun o=>o.Thing=y.Thing∧a6i o y) fun o _=>Ans.ite (by simp) fun _=>(c0H _ _).id).id
theorem c2s (x:a8) (thing to_ from_ until_:Int):O7 x thing to_ from_ until_=some (b0m x thing to_ from_ until_):=by
 unfold O7 b0m
 rw [a8H]
 by_cases h:y9 x
 · rw [if_pos h,if_pos h]
   have hn:=h.1.nleases
   have hw:W ((x.Now.Leases.length:Int)+1)=(x.Now.Leases.length:Int)+1:=a2G (by omega)
   have hp:(⟨⟨x.Me,⟨x.Now.Round,x.Now.Slots,x.Now.Bids,x.Now.Heard,x.Now.Leases,x.Now.Loans⟩,⟨x.Safe.Round,x.Safe.Slots,x.Safe.Bids,x.Safe.Heard,x.Safe.Leases,x.Safe.Loans⟩⟩⟩:I3)=⟨x⟩:=rfl
   have hd:j4 thing=some (thing.tmod 6):=rfl
   simp only [Option.bind_some,(a7i thing).eq,(a2i to_).eq,(a2Q from_).eq,(a2Q until_).eq,hw,hp,(c4b x h _).eq,hd]
   by_cases h1:1≤thing∧thing≤99
   · have ht:thing.tmod 6=thing % 6:=b0d (by omega)
     by_cases h2:0≤to_∧to_≤5
     · by_cases h3:0≤from_∧from_≤144001439
       · by_cases h4:0≤until_∧until_≤144001439
         · simp only [h1,h2,h3,h4,and_self,decide_true,Bool.not_true,Bool.false_eq_true,if_false,if_true,ht]
           by_cases h5:thing % 6=x.Me
           · by_cases h6:to_=x.Me
             · simp [h5,h6,Z0,S0]
             · by_cases h7:from_>until_
               · simp [h5,h6,h7,Z0,S0]
               · by_cases h8:b3K x.Now.Leases ⟨(x.Now.Leases.length:Int)+1,thing,to_,from_,until_⟩
                 · simp [h5,h6,h7,h8,Z0,S0]
                 · rw [a7x (by simp;omega)]
                   simp only [h5,h6,h7,h8,bne_self_eq_false,Bool.false_eq_true,if_false,if_true,decide_false,beq_eq_false_iff_ne.2 h6]
                   by_cases h9:x.Now.Leases.length=40
                   · rw [if_pos h9,if_pos (by rw [h9];rfl)];rfl
                   · rw [if_neg h9,if_neg (by rw [beq_iff_eq];omega)]
           · simp [h5,Z0,S0]
         · simp [h1,h2,h3,h4,Z0,S0]
       · simp [h1,h2,h3,Z0,S0]
     · simp [h1,h2,Z0,S0]
   · simp [h1,Z0,S0]
 · rw [if_neg h,if_neg h];rfl
def a4s (o n m:Int) (y:d7):d7:=if y.Owner=o∧y.No=n∧y.Back=false then⟨y.Owner,y.No,y.Thing,y.From,min y.Until (max m y.From),true⟩else y
noncomputable def a9n (x:a8) (o n m:Int):a8×Int:=
 if y9 x then(if 0≤o∧o≤5 then(if 0≤m∧m≤144001439 then(if∃y,y∈x.Now.Loans∧y.Owner=o∧y.No=n∧y.Back=false then
  (⟨x.Me,⟨x.Now.Round,x.Now.Slots,x.Now.Bids,x.Now.Heard,x.Now.Leases,x.Now.Loans.map (a4s o n m)⟩,x.Safe⟩,0)else(Z0,94))else(Z0,95))else(Z0,1))else(Z0,90)
theorem b2K {me:Int} {s:c8} (h:j5 me s) {o n:Int} {i:Nat} (hi:Cut (a0b o n) s.Loans i):∀(k:Nat) (y:d7),s.Loans[k]?=some y→y.Owner=o→y.No=n→k=i:=by
 intro k y hy ho hno
 have h0:a0b o n y=0:=(a1l o n y).2.2 ⟨ho,hno⟩
 rcases Nat.lt_trichotomy k i with g|g|g
 · have:=c4k hi g hy;omega
 · exact g
 · have:=c3T hi h.rloans (f:=a1d) (fun a b hab ha=>by
    refine c3Q ?_ ?_
    · rw [(a1l _ _ _).1]at*;unfold a1d at hab;omega
    · rw [(a1l _ _ _).1]at ha;rw [(a1l _ _ _).2];unfold a1d at hab;omega) k y g hy
   omega
theorem b8Q (x:a8) (o n m:Int):a1K x o n m=some (a9n x o n m):=by
 unfold a1K a9n
 rw [a8H]
 by_cases h:y9 x
 · rw [if_pos h,if_pos h]
   simp only [Option.bind_some,(a2i o).eq,(a2Q m).eq]
   by_cases h1:0≤o∧o≤5
   · by_cases h2:0≤m∧m≤144001439
     · obtain⟨i,hi,e⟩:=b2i h.1 (⟨o,n,0,0,0,false⟩:d7)
       simp only [h1,h2,and_self,decide_true,Bool.not_true,Bool.false_eq_true,if_false,if_true,e,Option.bind_some]
       have hi:Cut (a0b o n) x.Now.Loans i:=hi
       by_cases hx:∃y,x.Now.Loans[i]?=some y∧a0b o n y=0
       · obtain⟨y,hy,h0⟩:=hx
         have hex:decide (∃y,x.Now.Loans[i]?=some y∧a0b o n y=0)=true:=decide_eq_true ⟨y,hy,h0⟩
         obtain⟨q1,q2⟩:=(a1l o n y).2.1 h0
         rw [show(!decide (∃y,x.Now.Loans[i]?=some y∧a0b o n y=0))=false by rw [hex];rfl]
         simp only [Bool.false_eq_true,if_false,O6 hy,Option.bind_some]
         by_cases hb:y.Back=true
         · have hno:¬∃y,y∈x.Now.Loans∧y.Owner=o∧y.No=n∧y.Back=false:=by
            rintro⟨z,hz,z1,z2,z3⟩
            obtain⟨k,hk,rfl⟩:=List.getElem_of_mem hz
            have hki:=b2K h.1 hi k _ (List.getElem?_eq_getElem hk) z1 z2
            rw [←hki,List.getElem?_eq_getElem hk]at hy
            rw [Option.some.inj hy,hb]at z3
            cases z3
           rw [if_pos hb,if_neg hno]
           rfl
         · have hb':y.Back=false:=by simpa using hb
           have hyes:∃y,y∈x.Now.Loans∧y.Owner=o∧y.No=n∧y.Back=false:=⟨y,List.mem_of_getElem? hy,q1,q2,hb'⟩
           rw [if_neg hb,if_pos hyes]
           have hm:x.Now.Loans.map (a4s o n m)=x.Now.Loans.set i (a4s o n m y):=b8n hy fun k z hk hz=>by
            unfold a4s
            rw [if_neg]
            rintro⟨z1,z2,_⟩
            exact hk (b2K h.1 hi k z hz z1 z2)
           have e1:=a5H (L:=x.Now.Loans) (⟨y.Owner,y.No,y.Thing,y.From,min y.Until (max m y.From),y.Back⟩:d7) hy
           rw [hm]
           simp only [b4O,b7l,Int.toNat_natCast,O6 e1,Option.bind_some,List.set_set]
           unfold a4s
           rw [if_pos ⟨q1,q2,hb'⟩]
       · have hex:decide (∃y,x.Now.Loans[i]?=some y∧a0b o n y=0)=false:=decide_eq_false hx
         rw [show(!decide (∃y,x.Now.Loans[i]?=some y∧a0b o n y=0))=true by rw [hex];rfl]
         have hno:¬∃y,y∈x.Now.Loans∧y.Owner=o∧y.No=n∧y.Back=false:=by
          rintro⟨z,hz,z1,z2,z3⟩
          obtain⟨k,hk,rfl⟩:=List.getElem_of_mem hz
          have hki:=b2K h.1 hi k _ (List.getElem?_eq_getElem hk) z1 z2
          exact hx ⟨_,by rw [←hki];exact List.getElem?_eq_getElem hk,(a1l o n _).2.2 ⟨z1,z2⟩⟩
         simp only [if_true]
         rw [if_neg hno]
         rfl
     · simp [h1,h2,Z0,S0]
   · simp [h1,Z0,S0]
 · rw [if_neg h,if_neg h];rfl
end Go.Proofs.YtcedmbakcchkiaaGreatDoor
namespace Go.Proofs.YtcedmbakcchkiaaGreatDoor
open Go Go.Sx
open Classical
theorem b9D {α R:Type} {body:Int→Option (Sum Int (Sum Int R))} (l:List α) (hl:l.length≤1000) (q:α→Bool) (r:α→R) (h:∀(i:Nat) x,l[i]?=some x→body (i:Int)=some (if q x=true then .inr (.inr (r x))else .inl ((i+1:Nat):Int)))
 (he:body (l.length:Int)=some (.inr (.inl (l.length:Int)))):s9 body 0=some (match l.find? q with|some x=> .inr (r x)|none=> .inl (l.length:Int)):=by
 have:=b9q (R:=R) (body:=body) l (by omega) (fun k (_:Unit)=>(k:Int)) (fun _ x=>if q x=true then .inr (r x)else .inl ()) .inr (fun _=> .inl (l.length:Int)) (fun _ _=>True) (fun pre x post s hp _=>by
  refine⟨?_,fun _ _=>trivial⟩
  rw [h pre.length x (by rw [hp];simp)]
  by_cases hq:q x=true<;>simp [hq]) (fun _ _=>he) () trivial
 rw [show((0:Nat):Int)=0 from rfl]at this
 rw [this]
 have key:∀l:List α,b7M (fun(_:Unit) x=>if q x=true then Sum.inr (r x)else Sum.inl ()) l ()=match l.find? q with|some x=> .inr (r x)|none=> .inl ():=by
  intro l
  induction l with
  |nil=>rfl
  |cons x l ih=>
   unfold b7M
   by_cases hq:q x=true
   · simp [hq]
   · simp [hq,ih]
 rw [key]
 cases l.find? q<;>rfl
def a7e (night:Int) (h:c9):Bool:=decide (h.Night=night)&&qr h.Mask
def a1i (s:c8) (night:Int):Option c9:=s.Heard.find? (a7e night)
theorem b8Y {x:a8} (h:y9 x) (night:Int):X3 ⟨x⟩ night=some (match a1i x.Now night with|some y=>(y.Value,true)|none=>(0,false)):=by
 have hn:=h.1.nheard
 unfold X3
 rw [b9D x.Now.Heard (by omega) (a7e night) (fun y=>(y.Value,true)) (fun i y hy=>by
  have hi:=(List.getElem?_eq_some_iff.1 hy).1
  have hlt:((i:Int)<(x.Now.Heard.length:Int)):=by omega
  have hq:=(a9S (h.1.heard y (List.mem_of_getElem? hy)).2.2.2.2).1
  unfold R5 a7e
  simp only [hlt,decide_true,if_true,O6 hy,Option.bind_some,hq,W_s (show i<9223372036854775807 by omega)]
  by_cases g1:y.Night=night<;>by_cases g2:qr y.Mask=true<;>simp [g1,g2]) (by simp [R5])]
 unfold a1i
 cases x.Now.Heard.find? (a7e night)<;>rfl
noncomputable def b1f (x:a8) (night:Int):Int×Int:=if y9 x then(if 0≤night∧night≤100000 then(match a1i x.Now night with|some y=>(y.Value,0)|none=>(0,96))else(0,6))else(0,90)
theorem b8V (x:a8) (night:Int):a1H x night=some (b1f x night):=by
 unfold a1H b1f
 rw [b8e,(a3V night).eq]
 by_cases h:y9 x
 · simp only [h,if_true,Option.bind_some,b2G,bne_self_eq_false,Bool.false_eq_true,if_false,b8Y h]
   by_cases h1:0≤night∧night≤100000
   · simp only [h1,and_self,decide_true,Bool.not_true,Bool.false_eq_true,if_false,if_true]
     cases a1i x.Now night<;>simp
   · simp [h1]
 · simp [h,b2G]
end Go.Proofs.YtcedmbakcchkiaaGreatDoor
namespace Go.Proofs.YtcedmbakcchkiaaGreatDoor
open Go Go.Sx
open Classical
def c0y (T:Int→Prop) (ok:Int→Prop) (r:Int×Int):Prop:=((∀f,T f→¬ok f)∧r=(0,3))∨∃f,T f∧ok f∧(∀g,T g→ok g→f≤g)∧r=(f,0)
theorem c0y.one {T:Int→Prop} {ok:Int→Prop} {r s:Int×Int} (h1:c0y T ok r) (h2:c0y T ok s):r=s:=by
 rcases h1 with⟨a,rfl⟩|⟨f,a,b,c,rfl⟩
 · rcases h2 with⟨a',rfl⟩|⟨f',a',b',c',rfl⟩
   · rfl
   · exact absurd b' (a f' a')
 · rcases h2 with⟨a',rfl⟩|⟨f',a',b',c',rfl⟩
   · exact absurd b (a' f a)
   · have h1:=c f' a' b'
     have h2:=c' f a b
     have:f=f':=by omega
     rw [this]
end Go.Proofs.YtcedmbakcchkiaaGreatDoor
namespace Go.Proofs.YtcedmbakcchkiaaGreatDoor
open Go Go.Sx
open Classical
def c1K (l:List a8):Prop:=(∀x,x∈l→y9 x)∧I4 (fun a b=>a.Me<b.Me) l
def c3P (l:List a8) (k:Nat):Prop:=(∀x,l[k]?=some x→y9 x)∧(0<k→∀a,l[k-1]?=some a→∀b,l[k]?=some b→a.Me<b.Me)
theorem c1z (l:List a8):(∀k,k<l.length→c3P l k)↔c1K l:=by
 have:=c3t l y9 (fun a b=>a.Me<b.Me)
 unfold c1K
 rw [←this]
 exact forall_congr' fun i=>⟨fun h _ hi=>h hi,fun h hi=>h (Nat.zero_le _) hi⟩
theorem c3y {l:List a8}:∀(k:Nat) (x:a8),(∀j,j≤k→c3P l j)→l[k]?=some x→(k:Int)≤x.Me
 |0,x,h,hx=>by have:=((h 0 (Nat.le_refl _)).1 x hx).1.dep;omega
 |k+1,x,h,hx=>by
  obtain⟨y,hy⟩:=a9q (l:=l) (i:=k) (by have:=(List.getElem?_eq_some_iff.1 hx).1;omega)
  have h1:=c3y k y (fun j hj=>h j (by omega)) hy
  have h2:=(h (k+1) (Nat.le_refl _)).2 (by omega) y (by simpa using hy) x hx
  omega
theorem c4o {l:List a8} {k:Nat} (h:∀j,j<k→c3P l j) (hk:k≤l.length):k≤6:=by
 cases k with
 |zero=>omega
 |succ k=>
  obtain⟨x,hx⟩:=a9q (l:=l) (i:=k) (by omega)
  have h1:=c3y k x (fun j hj=>h j (by omega)) hx
  have h2:=((h k (by omega)).1 x hx).1.dep
  omega
theorem c1K.len {l:List a8} (h:c1K l):l.length≤6:=c4o ((c1z l).2 h) (Nat.le_refl _)
def b4d (night:Int) (x:a8):List Int:=match a1i x.Now night with|some y=> [y.Value]|none=> []
end Go.Proofs.YtcedmbakcchkiaaGreatDoor
namespace Go.Proofs.YtcedmbakcchkiaaGreatDoor
open Go Go.Sx
open Classical
theorem a4w {m:Int} (n:Int) (hm:0<m∧m≤144001439):G4 n m=some (n % m):=by
 unfold G4
 simp only [gd,ne_eq,show¬m=0 by omega,not_false_eq_true,if_true,Option.some.injEq]
 have h3:=Int.tmod_eq_emod (a:=n) (b:=m)
 have h4:=Int.emod_nonneg n (show m≠0 by omega)
 have h5:=Int.emod_lt_of_pos n hm.1
 have h6:n.tmod m=n % m∨n.tmod m=n % m-m:=by
  rw [h3];split
  · exact .inl (by omega)
  · exact .inr (by omega)
 rcases h6 with h6|h6
 · rw [h6,a2G (by omega),Int.tmod_eq_emod_of_nonneg (by omega),Int.add_emod_right,Int.emod_eq_of_lt h4 h5]
 · rw [h6,a2G (by omega),show n % m-m+m=n % m by omega,Int.tmod_eq_emod_of_nonneg h4,Int.emod_eq_of_lt h4 h5]
structure Dl (D T to_ f u:Int):Prop where
 hD:0≤D∧D≤5
 hT:1≤T∧T≤99
 hTD:T % 6=D
 hto:0≤to_∧to_≤5
 hf:0≤f∧f≤390
 hu:f≤u∧u≤f+110
theorem c2K (a:N9):∃T to_ f u,a2B a=some ⟨T,to_,f,u⟩∧Dl (a.Depot % 6) T to_ f u:=by
 unfold a2B
 rw [a8K,a8K,a4w _ (by omega),a4w _ (by omega),a4w _ (by omega)]
 simp only [Option.bind_some]
 rw [a2G (z:=1+a.Thing % 3) (by omega),a2G (z:=6*(1+a.Thing % 3)) (by omega),a2G (z:=a.Depot % 6+6*(1+a.Thing % 3)) (by omega),a2G (z:=a.From % 40*10) (by omega),a2G (z:=a.Long % 12*10) (by omega),a2G (z:=a.From % 40*10+a.Long % 12*10) (by omega)]
 exact⟨_,_,_,_,rfl,by omega,by omega,by omega,by omega,by omega,by omega⟩
theorem a7g {α:Type} {f:α→α→Prop} {l:List α} (h:l.length≤1):I4 f l:=fun i a b _ hb=>by
 have:=(List.getElem?_eq_some_iff.1 hb).1;omega
theorem b3Y {α:Type} {f:α→α→Prop} {l:List α} (h:l.length≤1):a8A f l:=fun i x hx y hy=>by
 have:=(List.getElem?_eq_some_iff.1 hx).1
 obtain rfl:i=0:=by omega
 simp at hy
theorem vst {me:Int} {L:List c0} {M:List d7} (hd:0≤me∧me≤5) (l1:L.length≤1) (m1:M.length≤1) (hL:∀l,l∈L→a4L me l∧l.No=1) (hM:∀l,l∈M→a6K me l):j5 me ⟨0, [], [], [],L,M⟩ where
 dep:=hd
 round:=⟨Int.le_refl _,by show(0:Int)≤9999;omega⟩
 nslots:=by simp
 slots:=fun x hx=>by cases hx
 nbids:=by simp
 bids:=fun x hx=>by cases hx
 nheard:=by simp
 heard:=fun x hx=>by cases hx
 nleases:=by show(L.length:Int)≤40;omega
 leases:=fun x hx=>(hL x hx).1
 nloans:=by show(M.length:Int)≤60;omega
 loans:=hM
 rslots:=a7g (by simp)
 rbids:=a7g (by simp)
 rheard:=a7g (by simp)
 rloans:=a7g m1
 ballots:=b3Y (by simp)
 nos:=fun i x hx=>by
  have hx:L[i]?=some x:=hx
  have:=(List.getElem?_eq_some_iff.1 hx).1
  obtain rfl:i=0:=by omega
  have:=(hL x (List.mem_of_getElem? hx)).2
  simp [this]
 meets:=b3Y l1
theorem vs0 {me:Int} (hd:0≤me∧me≤5):j5 me S0:=vst hd (by simp) (by simp) (fun x hx=>by cases hx) (fun x hx=>by cases hx)
theorem b6f {me:Int} {s t:c8} (hs:j5 me s) (ht:j5 me t):a9D ⟨me,s,t⟩=(⟨me,s,s⟩,0):=by
 unfold a9D
 rw [if_pos ⟨hs,ht⟩]
theorem b5H {me:Int} {s t:c8} (hs:j5 me s) (ht:j5 me t) {to_:Int} (h:0≤to_∧to_≤5):b4U ⟨me,s,t⟩ to_=(a5T me to_ t,0):=by
 unfold b4U
 rw [if_pos ⟨hs,ht⟩,if_pos h]
end Go.Proofs.YtcedmbakcchkiaaGreatDoor
namespace Go.Proofs.YtcedmbakcchkiaaGreatDoor
open Go Go.Sx
open Classical
section
variable {α : Type} {c : α → Int} {new : α} {f : α → α}
theorem Z3:∀ {l:List α} {y:α},y∈upd c new f l→y=f new∨y∈l∨∃x,x∈l∧c x=0∧y=f x
 | [],y,h=> .inl (by simpa [upd]using h)
 |x::l,y,h=>by
  unfold upd at h
  split at h
  · rcases List.mem_cons.1 h with rfl|h
    · exact .inr (.inl List.mem_cons_self)
    · rcases Z3 h with h|h|⟨z,h1,h2,h3⟩
      · exact .inl h
      · exact .inr (.inl (List.mem_cons_of_mem _ h))
      · exact .inr (.inr ⟨z,List.mem_cons_of_mem _ h1,h2,h3⟩)
  · split at h
    · rename_i h0
      rcases List.mem_cons.1 h with rfl|h
      · exact .inr (.inr ⟨x,List.mem_cons_self,h0,rfl⟩)
      · exact .inr (.inl (List.mem_cons_of_mem _ h))
    · rcases List.mem_cons.1 h with rfl|h
      · exact .inl rfl
      · exact .inr (.inl h)
theorem a4y {lt:α→α→Prop} {x:α} {l:List α}:I4 lt (x::l)↔(∀y,l[0]?=some y→lt x y)∧I4 lt l:=
 ⟨fun h=>⟨fun y hy=>h 0 x y rfl (by simpa using hy),fun i a b ha hb=>h (i+1) a b (by simpa using ha) (by simpa using hb)⟩,fun⟨h1,h2⟩ i a b ha hb=>by
  cases i with
  |zero=>
   simp at ha
   subst ha
   exact h1 b (by simpa using hb)
  |succ i=>exact h2 i a b (by simpa using ha) (by simpa using hb)⟩
theorem c1R {l:List α} {y:α} (h:(upd c new f l)[0]?=some y):y=f new∨l[0]?=some y∨∃x,l[0]?=some x∧c x=0∧y=f x:=by
 cases l with
 |nil=>exact .inl (by simpa [upd]using h.symm)
 |cons x l=>
  unfold upd at h
  split at h
  · exact .inr (.inl (by simpa using h))
  · split at h
    · rename_i h0
      exact .inr (.inr ⟨x,rfl,h0,by simpa using h.symm⟩)
    · exact .inl (by simpa using h.symm)
theorem a3Q {lt:α→α→Prop} (hlt:∀x,c x<0→lt x (f new)) (hgt:∀x,0<c x→lt (f new) x) (h1:∀x,c x=0→∀y,lt y x→lt y (f x)) (h2:∀x,c x=0→∀y,lt x y→lt (f x) y):∀ {l:List α},I4 lt l→I4 lt (upd c new f l)
 | [],_=>fun i a b _ hb=>by
  have:=(List.getElem?_eq_some_iff.1 hb).1
  simp [upd]at this
 |x::l,h=>by
  obtain⟨h3,h4⟩:=a4y.1 h
  unfold upd
  split
  · rename_i hc
    refine a4y.2 ⟨fun y hy=> ?_,a3Q hlt hgt h1 h2 h4⟩
    rcases c1R hy with rfl|hy|⟨z,hz,hz0,rfl⟩
    · exact hlt x hc
    · exact h3 y hy
    · exact h1 z hz0 x (h3 z hz)
  · split
    · rename_i hc
      exact a4y.2 ⟨fun y hy=>h2 x hc y (h3 y hy),h4⟩
    · exact a4y.2 ⟨fun y hy=>by simp at hy;subst hy;exact hgt _ (by omega),h⟩
theorem b3H {lt:α→α→Prop} (hf:∀a b,lt a b→lt (f a) (f b)) {l:List α} (h:I4 lt l):I4 lt (l.map f):=fun i a b ha hb=>by
 rw [List.getElem?_map]at ha hb
 obtain⟨a',ha',rfl⟩:=Option.map_eq_some_iff.1 ha
 obtain⟨b',hb',rfl⟩:=Option.map_eq_some_iff.1 hb
 exact hf _ _ (h i a' b' ha' hb')
theorem a3o {g:α→α→Prop} {l:List α}:a8A g l↔l.Pairwise (fun y x=>¬g y x):=by
 rw [List.pairwise_iff_getElem]
 constructor
 · intro h i j hi hj hij
   refine h j _ (List.getElem?_eq_getElem hj) _ (List.mem_of_getElem? (i:=i) ?_)
   rw [List.getElem?_take,if_pos hij,List.getElem?_eq_getElem hi]
 · intro h i x hx y hy
   obtain⟨hi,rfl⟩:=List.getElem?_eq_some_iff.1 hx
   obtain⟨k,hk,rfl⟩:=List.getElem_of_mem hy
   rw [List.getElem_take]
   exact h k i (by simp at hk;omega) hi (by simp at hk;omega)
theorem c0P {R:α→α→Prop} (hf:∀x,f x=f new):∀ {l:List α},l.Pairwise R→(∀x,x∈l→R x (f new))→(∀x,x∈l→R (f new) x)→(upd c new f l).Pairwise R
 | [],_,_,_=>by simp [upd]
 |x::l,h,h1,h2=>by
  rw [List.pairwise_cons]at h
  have ih:=c0P hf h.2 (fun y hy=>h1 y (List.mem_cons_of_mem _ hy)) (fun y hy=>h2 y (List.mem_cons_of_mem _ hy))
  unfold upd
  split
  · refine List.pairwise_cons.2 ⟨fun y hy=> ?_,ih⟩
    rcases Z3 hy with rfl|hy|⟨z,_,_,rfl⟩
    · exact h1 x List.mem_cons_self
    · exact h.1 y hy
    · rw [hf];exact h1 x List.mem_cons_self
  · split
    · rw [hf]
      exact List.pairwise_cons.2 ⟨fun y hy=>h2 y (List.mem_cons_of_mem _ hy),h.2⟩
    · exact List.pairwise_cons.2 ⟨h2,List.pairwise_cons.2 h⟩
end
theorem W7 (n:Int) (x:d0):(S4 n x<0↔x.Night<n)∧(S4 n x=0↔x.Night=n):=⟨a4F,a4Q⟩
theorem a1C (n:Int) (x:d9):(b2X n x<0↔x.Night<n)∧(b2X n x=0↔x.Night=n):=⟨a4F,a4Q⟩
theorem b3i {f:d0→d0} {new:d0} (hn:∀x,(f x).Night=x.Night) {l:List d0} (h:I4 a3t l):I4 a3t (upd (S4 new.Night) new f l):=by
 refine a3Q (fun x hx=> ?_) (fun x hx=> ?_) (fun x _ y hy=> ?_) (fun x _ y hy=> ?_) h<;>unfold a3t at* <;>rw [hn]
 · exact(W7 _ _).1.1 hx
 · have h1:=W7 new.Night x
   have:¬x.Night<new.Night:=fun q=>by have:=h1.1.2 q;omega
   have:¬x.Night=new.Night:=fun q=>by have:=h1.2.2 q;omega
   omega
 · exact hy
 · exact hy
theorem a1h (c:b8) (x:d0):(a0d c x).Night=x.Night:=by unfold a0d;split<;>rfl
theorem a3e (c:b8) (x:d0):(a3y c x).Night=x.Night:=by unfold a3y;split<;>rfl
theorem c1j {c:b8} (hc:a3A c) {x:d0} (h:a1v x∨x=C4 c):a1v (a0d c x):=by
 obtain⟨h1,h2,_⟩:=hc
 unfold a0d
 rcases h with⟨a,b,d⟩|rfl
 · split
   · refine⟨a,h2, ?_⟩
     rcases d with d|d
     · exact .inl d
     · exact .inr ⟨⟨d.1.1,by simp only;omega⟩,d.2⟩
   · exact⟨a,b,d⟩
 · rw [if_pos (by simp only [C4];omega)]
   exact⟨h1,h2, .inl ⟨rfl,rfl⟩⟩
theorem c2T {c:b8} (hc:a3A c) (hv:a7z c.Value) {x:d0} (h:a1v x∨x=C4 c):a1v (a3y c x):=by
 obtain⟨h1,h2,_⟩:=hc
 unfold a3y
 rcases h with⟨a,b,d⟩|rfl
 · split
   · exact⟨a,h2, .inr ⟨⟨h2.1,Int.le_refl _⟩,hv⟩⟩
   · exact⟨a,b,d⟩
 · rw [if_pos (by simp only [C4];omega)]
   exact⟨h1,h2, .inr ⟨⟨h2.1,Int.le_refl _⟩,hv⟩⟩
theorem j5.slots' {me:Int} {s:c8} (h:j5 me s) {L:List d0} (hn:L.length≤12) (hL:∀x,x∈L→a1v x) (hr:I4 a3t L):j5 me ⟨s.Round,L,s.Bids,s.Heard,s.Leases,s.Loans⟩:=
 { h with nslots:=by show(L.length:Int)≤12;omega,slots:=hL,rslots:=hr}
theorem b3A {c:b8} {f:d0→d0} {l:List d0} (hl:∀x,x∈l→a1v x) (hf:∀x,a1v x∨x=C4 c→a1v (f x)):∀x,x∈upd (S4 c.Night) (C4 c) f l→a1v x:=fun x hx=>by
 rcases Z3 hx with rfl|hx|⟨z,hz,_,rfl⟩
 · exact hf _ (.inr rfl)
 · exact hl x hx
 · exact hf _ (.inl (hl z hz))
theorem qr0:qr 0=false:=by decide+kernel
theorem c3S {me:Int} {s:c8} (h:j5 me s) (hr:s.Round≠9999) {night value:Int} (hn:0≤night∧night≤100000) (hv:1≤value∧value≤1000000) (hf:(a3F s me night value).length≤12):j5 me ⟨s.Round+1,s.Slots,a3F s me night value,s.Heard,s.Leases,s.Loans⟩:=by
 have hd:=h.dep;have hro:=h.round
 have hnew:a7M me (s.Round+1) (R2 me s.Round night value):=⟨hn,by simp only [R2];omega,by simp only [R2];omega,hv,by simp only [R2];omega,by simp only [R2];omega,qr0.symm⟩
 have hold:∀x,x∈s.Bids→a7M me (s.Round+1) x:=fun x hx=>by
  obtain⟨a,b,r⟩:=h.bids x hx
  exact⟨a,by omega,r⟩
 exact { h with
  round:=by show 0≤s.Round+1∧s.Round+1≤9999;omega
  nbids:=by show((a3F s me night value).length:Int)≤12;omega
  bids:=fun x hx=>by
   rcases Z3 hx with rfl|hx|⟨z,_,_,rfl⟩
   · exact hnew
   · exact hold x hx
   · exact hnew
  rbids:=by
   refine a3Q (fun x hx=> ?_) (fun x hx=> ?_) (fun x h0 y hy=> ?_) (fun x h0 y hy=> ?_) h.rbids<;>unfold a3E at* <;>simp only [R2]
   · exact(a1C _ _).1.1 hx
   · have h1:=a1C night x
     have:¬x.Night<night:=fun q=>by have:=h1.1.2 q;omega
     have:¬x.Night=night:=fun q=>by have:=h1.2.2 q;omega
     omega
   · rw [←(a1C night x).2.1 h0];exact hy
   · rw [←(a1C night x).2.1 h0];exact hy
  ballots:=a3o.2 (c0P (fun _=>rfl) (a3o.1 h.ballots) (fun x hx=>by have:=(h.bids x hx).2.1;simp only [R2];omega) (fun x hx=>by have:=(h.bids x hx).2.1;simp only [R2];omega))}
theorem P2 (c:b8) (b:d9):(Z9 c b).Night=b.Night∧(Z9 c b).Ballot=b.Ballot:=by unfold Z9;split<;>exact⟨rfl,rfl⟩
theorem c1w {me r:Int} {c:b8} (hf:0≤c.From∧c.From≤5) (hb:(c.Best=0∧c.Value=0)∨((6≤c.Best∧c.Best≤c.Ballot-1)∧a7z c.Value)) {b:d9} (h:a7M me r b):a7M me r (Z9 c b):=by
 obtain⟨h1,h2,h3,h4,h5,h6,h7⟩:=h
 unfold Z9
 split
 · rename_i hc
   have hm:=(a8o h6 hf).2.1
   refine⟨h1,h2,h3, ?_, ?_,⟨hm.1,hm.2.1⟩,rfl⟩
   · show 1≤(if c.Best>b.Best then c.Value else b.Value)∧(if c.Best>b.Best then c.Value else b.Value)≤1000000
     split
     · rcases hb with hb|hb
       · omega
       · exact hb.2
     · exact h4
   · show 0≤(if c.Best>b.Best then c.Best else b.Best)∧(if c.Best>b.Best then c.Best else b.Best)≤b.Ballot-1
     split<;>omega
 · exact⟨h1,h2,h3,h4,h5,h6,h7⟩
theorem j5.bids' {me:Int} {s:c8} (h:j5 me s) {f:d9→d9} (hk:∀b,(f b).Night=b.Night∧(f b).Ballot=b.Ballot) (ho:∀b,a7M me s.Round b→a7M me s.Round (f b)):j5 me ⟨s.Round,s.Slots,s.Bids.map f,s.Heard,s.Leases,s.Loans⟩:=
 { h with
  nbids:=by show((s.Bids.map f).length:Int)≤12;rw [List.length_map];exact h.nbids
  bids:=fun x hx=>by
   obtain⟨y,hy,rfl⟩:=List.mem_map.1 hx
   exact ho y (h.bids y hy)
  rbids:=b3H (fun a b hab=>by unfold a3E at*;rw [(hk a).1,(hk b).1];exact hab) h.rbids
  ballots:=a3o.2 ((List.pairwise_map).2 ((a3o.1 h.ballots).imp fun hab=>by rw [(hk _).2,(hk _).2];exact hab))}
theorem a2b (c:b8) (x:c9):(U5 c x).Night=x.Night∧(U5 c x).Ballot=x.Ballot∧(U5 c x).Value=x.Value:=by unfold U5;split<;>exact⟨rfl,rfl,rfl⟩
theorem j5.heard' {me:Int} {s:c8} (h:j5 me s) {c:b8} (hf:0≤c.From∧c.From≤5) (hv:a3A c) (hval:a7z c.Value) (hn:(upd (a0B c.Ballot c.Night) (L7 c) (U5 c) s.Heard).length≤60):j5 me ⟨s.Round,s.Slots,s.Bids,upd (a0B c.Ballot c.Night) (L7 c) (U5 c) s.Heard,s.Leases,s.Loans⟩:=
 { h with
  nheard:=by show((upd (a0B c.Ballot c.Night) (L7 c) (U5 c) s.Heard).length:Int)≤60;omega
  heard:=fun x hx=>by
   rcases Z3 hx with rfl|hx|⟨z,hz,_,rfl⟩
   · have hm:=(a8o (m:=0) (by omega) hf).2.1
     unfold U5
     rw [if_pos (show(L7 c).Value=c.Value from rfl)]
     exact⟨hv.2.1,hv.1,hval,hm.2.2,hm.1,hm.2.1⟩
   · exact h.heard x hx
   · have ho:=h.heard z hz
     unfold U5
     split
     · have hm:=(a8o ho.2.2.2.2 hf).2.1
       exact⟨ho.1,ho.2.1,ho.2.2.1,hm.2.2,hm.1,hm.2.1⟩
     · exact ho
  rheard:=by
   refine a3Q (fun x hx=> ?_) (fun x hx=> ?_) (fun x _ y hy=> ?_) (fun x _ y hy=> ?_) h.rheard<;>unfold a3O at* <;>rw [(a2b _ _).1,(a2b _ _).2.1]
   · exact(a4z _ _ _).1.1 hx
   · have h1:=a4z c.Ballot c.Night x
     have:¬(x.Ballot<c.Ballot∨(x.Ballot=c.Ballot∧x.Night<c.Night)):=fun q=>by have:=h1.1.2 q;omega
     have:¬(x.Ballot=c.Ballot∧x.Night=c.Night):=fun q=>by have:=h1.2.2 q;omega
     simp only [L7]
     omega
   · exact hy
   · exact hy}
theorem a4h (c:b8) (l:c0):(a2h c l).No=l.No∧(a2h c l).Thing=l.Thing∧(a2h c l).To=l.To∧(a2h c l).From=l.From∧(a2h c l).Until≤l.Until:=by
 unfold a2h;split
 · exact⟨rfl,rfl,rfl,rfl,by simp only;omega⟩
 · exact⟨rfl,rfl,rfl,rfl,Int.le_refl _⟩
theorem c0Y {me:Int} {c:b8} {l:c0} (h:a4L me l):a4L me (a2h c l):=by
 obtain⟨h1,h2,h3,h4,h5,h6,h7⟩:=h
 unfold a2h;split
 · exact⟨h1,h2,h3,h4,h5,by simp only;omega,by simp only;omega⟩
 · exact⟨h1,h2,h3,h4,h5,h6,h7⟩
theorem j5.back' {me:Int} {s:c8} (h:j5 me s) (c:b8):j5 me ⟨s.Round,s.Slots,s.Bids,s.Heard,s.Leases.map (a2h c),s.Loans⟩:=
 { h with
  nleases:=by show((s.Leases.map (a2h c)).length:Int)≤40;rw [List.length_map];exact h.nleases
  leases:=fun x hx=>by
   obtain⟨y,hy,rfl⟩:=List.mem_map.1 hx
   exact c0Y (h.leases y hy)
  nos:=fun i x hx=>by
   rw [List.getElem?_map]at hx
   obtain⟨y,hy,rfl⟩:=Option.map_eq_some_iff.1 hx
   rw [(a4h c y).1];exact h.nos i y hy
  meets:=a3o.2 ((List.pairwise_map).2 ((a3o.1 h.meets).imp fun {a b} hab q=>by
   have ha:=a4h c a;have hb:=a4h c b
   unfold a6i at*
   exact hab ⟨by rw [←ha.2.1,←hb.2.1];exact q.1,by have:=q.2;omega⟩))}
theorem j5.lend' {me:Int} {s:c8} (h:j5 me s) {y:c0} (hy:a4L me y) (hno:y.No=(s.Leases.length:Int)+1) (hn:s.Leases.length≠40) (hl:¬b3K s.Leases y):j5 me ⟨s.Round,s.Slots,s.Bids,s.Heard,s.Leases++ [y],s.Loans⟩:=
 { h with
  nleases:=by have:=h.nleases;show((s.Leases++ [y]).length:Int)≤40;simp;omega
  leases:=fun x hx=>by
   rcases List.mem_append.1 hx with hx|hx
   · exact h.leases x hx
   · rw [List.mem_singleton]at hx;subst hx;exact hy
  nos:=fun i x hx=>by
   by_cases hi:i<s.Leases.length
   · rw [List.getElem?_append_left hi]at hx;exact h.nos i x hx
   · rw [List.getElem?_append_right (by omega)]at hx
     have:=(List.getElem?_eq_some_iff.1 hx).1
     have e:i-s.Leases.length=0:=by simp at this;omega
     rw [e]at hx
     simp at hx
     subst hx
     rw [hno];omega
  meets:=a3o.2 (List.pairwise_append.2 ⟨a3o.1 h.meets,List.pairwise_singleton _ _,fun a ha b hb q=>by
   rw [List.mem_singleton]at hb
   subst hb
   exact hl ⟨a,ha,q⟩⟩)}
theorem c2v {me o n m:Int} (hm:0≤m) {y:d7} (h:a6K me y):a6K me (a4s o n m y):=by
 obtain⟨h1,h2,h3,h4,h5,h6,h7,h8⟩:=h
 unfold a4s;split
 · exact⟨h1,h2,h3,h4,h5,h6,by simp only;omega,by simp only;omega⟩
 · exact⟨h1,h2,h3,h4,h5,h6,h7,h8⟩
theorem a5s (o n m:Int) (y:d7):(a4s o n m y).Owner=y.Owner∧(a4s o n m y).No=y.No:=by unfold a4s;split<;>exact⟨rfl,rfl⟩
theorem j5.ret' {me:Int} {s:c8} (h:j5 me s) {o n m:Int} (hm:0≤m):j5 me ⟨s.Round,s.Slots,s.Bids,s.Heard,s.Leases,s.Loans.map (a4s o n m)⟩:=
 { h with
  nloans:=by show((s.Loans.map (a4s o n m)).length:Int)≤60;rw [List.length_map];exact h.nloans
  loans:=fun x hx=>by
   obtain⟨y,hy,rfl⟩:=List.mem_map.1 hx
   exact c2v hm (h.loans y hy)
  rloans:=b3H (fun a b hab=>by unfold a1d at*;rw [(a5s _ _ _ a).1,(a5s _ _ _ b).1,(a5s _ _ _ a).2,(a5s _ _ _ b).2];exact hab) h.rloans}
theorem j5.grant' {me:Int} {s:c8} (h:j5 me s) {c:b8} (hy:a6K me (V2 c)) (hn:(upd (a0b c.From c.No) (V2 c) id s.Loans).length≤60):j5 me ⟨s.Round,s.Slots,s.Bids,s.Heard,s.Leases,upd (a0b c.From c.No) (V2 c) id s.Loans⟩:=
 { h with
  nloans:=by show((upd (a0b c.From c.No) (V2 c) id s.Loans).length:Int)≤60;omega
  loans:=fun x hx=>by
   rcases Z3 hx with hx|hx|⟨z,hz,_,hx⟩
   · rw [hx];exact hy
   · exact h.loans x hx
   · rw [hx];exact h.loans z hz
  rloans:=by
   refine a3Q (fun x hx=> ?_) (fun x hx=> ?_) (fun x _ y hy=>hy) (fun x _ y hy=>hy) h.rloans<;>unfold a1d at* <;>simp only [id,V2]
   · exact(a1l _ _ _).1.1 hx
   · have h1:=a1l c.From c.No x
     have:¬(x.Owner<c.From∨(x.Owner=c.From∧x.No<c.No)):=fun q=>by have:=h1.1.2 q;omega
     have:¬(x.Owner=c.From∧x.No=c.No):=fun q=>by have:=h1.2.2 q;omega
     omega}
theorem c0l {me:Int} {s t:c8} (h:j5 me s) {c:b8} (hc:a4q c) (hto:c.To=me) (e:N0 s c=some t):j5 me t:=by
 obtain⟨hf,_,hk⟩:=hc
 unfold N0 at e
 split at e
 · rename_i k
   split at e
   · rename_i hn
     cases e
     rcases hk with⟨_,hv,_⟩|⟨k',_⟩|⟨k',_⟩|⟨k',_⟩|⟨k',_⟩|⟨k',_⟩<;>first|omega|skip
     exact h.slots' hn (b3A h.slots fun x hx=>c1j hv hx) (b3i (new:=C4 c) (a1h c) h.rslots)
   · cases e
 · split at e
   · rename_i k
     cases e
     rcases hk with⟨k',_⟩|⟨_,_,_,hb⟩|⟨k',_⟩|⟨k',_⟩|⟨k',_⟩|⟨k',_⟩<;>first|omega|skip
     exact h.bids' (P2 c) fun b hbk=>c1w hf hb hbk
   · split at e
     · rename_i k
       split at e
       · rename_i hn
         cases e
         rcases hk with⟨k',_⟩|⟨k',_⟩|⟨_,hv,_,_,hval⟩|⟨k',_⟩|⟨k',_⟩|⟨k',_⟩<;>first|omega|skip
         exact h.slots' hn (b3A h.slots fun x hx=>c2T hv hval hx) (b3i (new:=C4 c) (a3e c) h.rslots)
       · cases e
     · split at e
       · rename_i k
         split at e
         · rename_i hn
           cases e
           rcases hk with⟨k',_⟩|⟨k',_⟩|⟨k',_⟩|⟨_,hv,_,hval⟩|⟨k',_⟩|⟨k',_⟩<;>first|omega|skip
           exact h.heard' hf hv hval hn
         · cases e
       · split at e
         · rename_i k
           split at e
           · rename_i hn
             cases e
             rcases hk with⟨k',_⟩|⟨k',_⟩|⟨k',_⟩|⟨k',_⟩|⟨_,hl,ht,hs,hu⟩|⟨k',_⟩<;>first|omega|skip
             obtain⟨l1,l2,l3,l4,_⟩:=hl
             exact h.grant' ⟨hf,by rw [←hto];exact l1,l2,l3,ht,hs,l4,hu⟩ hn
           · cases e
         · cases e
           exact h.back' c
def c3A (x y:a8):Prop:=y9 y∧y.Me=x.Me∧y.Safe=x.Safe
theorem b2V {x:a8} {n v:Int} (h:(a0V x n v).2=0):c3A x (a0V x n v).1:=by
 unfold a0V at h⊢
 by_cases h1:y9 x
 · by_cases h2:0≤n∧n≤100000
   · by_cases h3:1≤v∧v≤1000000
     · by_cases h4:x.Now.Round=9999∨¬(a3F x.Now x.Me n v).length≤12
       · rw [if_pos h1,if_pos h2,if_pos h3,if_pos h4]at h;cases h
       · rw [if_pos h1,if_pos h2,if_pos h3,if_neg h4]
         exact⟨⟨c3S h1.1 (fun e=>h4 (.inl e)) h2 h3 (Classical.byContradiction fun e=>h4 (.inr e)),h1.2⟩,rfl,rfl⟩
     · rw [if_pos h1,if_pos h2,if_neg h3]at h;cases h
   · rw [if_pos h1,if_neg h2]at h;cases h
 · rw [if_neg h1]at h;cases h
theorem b6y {x:a8} {a b c d:Int} (h:(b0m x a b c d).2=0):c3A x (b0m x a b c d).1:=by
 unfold b0m at h⊢
 by_cases h1:y9 x
 · by_cases h2:1≤a∧a≤99
   · by_cases h3:0≤b∧b≤5
     · by_cases h4:0≤c∧c≤144001439
       · by_cases h5:0≤d∧d≤144001439
         · by_cases h6:a % 6=x.Me
           · by_cases h7:b=x.Me
             · rw [if_pos h1,if_pos h2,if_pos h3,if_pos h4,if_pos h5,if_pos h6,if_pos h7]at h;cases h
             · by_cases h8:c>d
               · rw [if_pos h1,if_pos h2,if_pos h3,if_pos h4,if_pos h5,if_pos h6,if_neg h7,if_pos h8]at h;cases h
               · by_cases h9:b3K x.Now.Leases ⟨(x.Now.Leases.length:Int)+1,a,b,c,d⟩
                 · rw [if_pos h1,if_pos h2,if_pos h3,if_pos h4,if_pos h5,if_pos h6,if_neg h7,if_neg h8,if_pos h9]at h;cases h
                 · by_cases h10:x.Now.Leases.length=40
                   · rw [if_pos h1,if_pos h2,if_pos h3,if_pos h4,if_pos h5,if_pos h6,if_neg h7,if_neg h8,if_neg h9,if_pos h10]at h;cases h
                   · rw [if_pos h1,if_pos h2,if_pos h3,if_pos h4,if_pos h5,if_pos h6,if_neg h7,if_neg h8,if_neg h9,if_neg h10]
                     exact⟨⟨h1.1.lend' ⟨h2,h6,h3,h7,h4,h5,by simp only;omega⟩ rfl h10 h9,h1.2⟩,rfl,rfl⟩
           · rw [if_pos h1,if_pos h2,if_pos h3,if_pos h4,if_pos h5,if_neg h6]at h;cases h
         · rw [if_pos h1,if_pos h2,if_pos h3,if_pos h4,if_neg h5]at h;cases h
       · rw [if_pos h1,if_pos h2,if_pos h3,if_neg h4]at h;cases h
     · rw [if_pos h1,if_pos h2,if_neg h3]at h;cases h
   · rw [if_pos h1,if_neg h2]at h;cases h
 · rw [if_neg h1]at h;cases h
end Go.Proofs.YtcedmbakcchkiaaGreatDoor
namespace Go.Proofs.YtcedmbakcchkiaaGreatDoor
open Go Go.Sx
open Classical
set_option maxRecDepth 100000 in theorem mhas_f : ∀ (m : Fin 64) (d k : Fin 6), a1s (S8 m.val d.val) k.val = (a1s m.val k.val || decide (k = d)) := by decide +kernel
theorem a9M {m d k:Int} (hm:0≤m∧m≤63) (hd:0≤d∧d≤5) (hk:0≤k∧k≤5) (h:a1s (S8 m d) k=true):a1s m k=true∨k=d:=by
 have:=mhas_f ⟨m.toNat,by omega⟩ ⟨d.toNat,by omega⟩ ⟨k.toNat,by omega⟩
 simp only [Int.toNat_of_nonneg hm.1,Int.toNat_of_nonneg hd.1,Int.toNat_of_nonneg hk.1,h,Fin.mk.injEq]at this
 rcases Bool.or_eq_true_iff.1 this.symm with h|h
 · exact .inl h
 · have:=of_decide_eq_true h;exact .inr (by omega)
theorem c3o:∀k:Fin 6,a1s 0 k.val=false:=by decide+kernel
theorem c2c {k:Int} (hk:0≤k∧k≤5):a1s 0 k=false:=by
 have:=c3o ⟨k.toNat,by omega⟩
 simpa only [Int.toNat_of_nonneg hk.1]using this
set_option maxRecDepth 100000 in theorem meet_f : ∀ (m n : Fin 64), qr m.val = true → qr n.val = true → ∃ k : Fin 6, a1s m.val k.val = true ∧ a1s n.val k.val = true := by decide +kernel
theorem b8q {m n:Int} (hm:0≤m∧m≤63) (hn:0≤n∧n≤63) (h1:qr m=true) (h2:qr n=true):∃k:Int,(0≤k∧k≤5)∧a1s m k=true∧a1s n k=true:=by
 have:=meet_f ⟨m.toNat,by omega⟩ ⟨n.toNat,by omega⟩
 simp only [Int.toNat_of_nonneg hm.1,Int.toNat_of_nonneg hn.1]at this
 obtain⟨k,h⟩:=this h1 h2
 exact⟨(k.val:Int),by omega,h⟩
def Acc (C:List b8) (n b v:Int):Prop:=∃c,c∈C∧c.Kind=3∧c.Night=n∧c.Ballot=b∧c.Value=v
def Acd (C:List b8) (k n b v:Int):Prop:=∃c,c∈C∧c.Kind=4∧c.From=k∧c.Night=n∧c.Ballot=b∧c.Value=v
def Pro (C:List b8) (k n b B:Int):Prop:=∃c,c∈C∧c.Kind=2∧c.From=k∧c.Night=n∧c.Ballot=b∧c.Best≤B
def Prm (C:List b8) (n b m B v:Int):Prop:=(∀k,0≤k∧k≤5→a1s m k=true→Pro C k n b B)∧(B≠0→Acc C n B v)
def Sub (C C':List b8):Prop:=∀c,c∈C→c∈C'
theorem Acc.mono {C C':List b8} (h:Sub C C') {n b v:Int}:Acc C n b v→Acc C' n b v:=fun⟨c,a,r⟩=>⟨c,h c a,r⟩
theorem Acd.mono {C C':List b8} (h:Sub C C') {k n b v:Int}:Acd C k n b v→Acd C' k n b v:=fun⟨c,a,r⟩=>⟨c,h c a,r⟩
theorem Pro.mono {C C':List b8} (h:Sub C C') {k n b B:Int}:Pro C k n b B→Pro C' k n b B:=fun⟨c,a,r⟩=>⟨c,h c a,r⟩
theorem Prm.mono {C C':List b8} (h:Sub C C') {n b m B v:Int}:Prm C n b m B v→Prm C' n b m B v:=fun⟨p,q⟩=>⟨fun k hk hm=>(p k hk hm).mono h,fun hB=>(q hB).mono h⟩
structure GC (C:List b8):Prop where
 ok:∀c,c∈C→a4q c
 g2:∀c,c∈C→∀a,a∈C→c.Kind=2→a.Kind=4→a.From=c.From→a.Night=c.Night→a.Ballot<c.Ballot→a.Ballot≤c.Best
 g5:∀a,a∈C→a.Kind=4→Acc C a.Night a.Ballot a.Value
 gb:∀c,c∈C→c.Kind=2→c.Best≠0→Acc C c.Night c.Best c.Value
 g6:∀c,c∈C→∀a,a∈C→c.Kind=3→a.Kind=3→a.Night=c.Night→a.Ballot=c.Ballot→a.Value=c.Value
 g8:∀c,c∈C→c.Kind=3→∃m B,(0≤m∧m≤63)∧qr m=true∧B<c.Ballot∧Prm C c.Night c.Ballot m B c.Value
def a4V (C:List b8) (n b v:Int):Prop:=∃m,(0≤m∧m≤63)∧qr m=true∧∀k,0≤k∧k≤5→a1s m k=true→Acd C k n b v
theorem a4V.mono {C C':List b8} (h:Sub C C') {n b v:Int}:a4V C n b v→a4V C' n b v:=fun⟨m,a,b,r⟩=>⟨m,a,b,fun k hk hm=>(r k hk hm).mono h⟩
theorem GC.acc_eq {C:List b8} (g:GC C) {n b v w:Int}:Acc C n b v→Acc C n b w→v=w:=by
 rintro⟨c,hc,k1,rfl,rfl,rfl⟩ ⟨a,ha,k2,h1,h2,rfl⟩
 exact(g.g6 c hc a ha k1 k2 h1 h2).symm
theorem a4V.acc {C:List b8} (g:GC C) {n b v:Int} (h:a4V C n b v):Acc C n b v:=by
 obtain⟨m,hm,hq,h⟩:=h
 obtain⟨k,hk,hmk,_⟩:=b8q hm hm hq hq
 obtain⟨a,ha,h4,_,rfl,rfl,rfl⟩:=h k hk hmk
 exact g.g5 a ha h4
theorem GC.later {C:List b8} (g:GC C) {n b v:Int} (h:a4V C n b v):∀(N:Nat) (b' v':Int),b'.toNat≤N→b≤b'→Acc C n b' v'→v'=v:=by
 intro N
 induction N with
 |zero=>
  intro b' v' hN hb ha
  obtain⟨c,hc,_⟩:=id ha
  have e:b'=b:=by
   obtain⟨c,hc,h3,_,h5,_⟩:=h.acc g
   have hv:=g.ok c hc
   rcases hv.kind with h|h|⟨_,hv,_⟩|h|h|h<;>first|(exfalso;omega)|skip
   have:=hv.2.1;omega
  subst e
  exact g.acc_eq ha (h.acc g)
 |succ N ih=>
  intro b' v' hN hb ha
  by_cases e:b'=b
  · subst e;exact g.acc_eq ha (h.acc g)
  · obtain⟨c,hc,h3,hn,hcb,hcv⟩:=id ha
    obtain⟨m,B,hm,hq,hB,hp,hacc⟩:=g.g8 c hc h3
    obtain⟨m',hm',hq',hd⟩:=id h
    obtain⟨k,hk,k1,k2⟩:=b8q hm hm' hq hq'
    obtain⟨p,hp1,hp2,hp3,hp4,hp5,hp6⟩:=hp k hk k1
    obtain⟨a,ha1,ha2,ha3,ha4,ha5,ha6⟩:=hd k hk k2
    have hle:=g.g2 p hp1 a ha1 hp2 ha2 (by omega) (by omega) (by omega)
    have hb6:6≤a.Ballot:=by
     have hv:=g.ok a ha1
     rcases hv.kind with h|h|h|⟨_,hv,_⟩|h|h<;>first|(exfalso;omega)|skip
     exact hv.2.1.1
    have hA:=hacc (by omega)
    rw [hn,hcv]at hA
    exact ih B v' (by omega) (by omega) hA
theorem GC.once {C:List b8} (g:GC C) {n b v b' v':Int} (h:a4V C n b v) (h':a4V C n b' v'):v=v':=by
 by_cases hb:b≤b'
 · exact(g.later h _ b' v' (Nat.le_refl _) hb (h'.acc g)).symm
 · exact g.later h' _ b v (Nat.le_refl _) (by omega) (h.acc g)
end Go.Proofs.YtcedmbakcchkiaaGreatDoor
namespace Go.Proofs.YtcedmbakcchkiaaGreatDoor
open Go Go.Sx
open Classical
theorem a3i {α:Type} {c:α→Int} {new:α} {f:α→α}:∀ {l:List α} {x:α},x∈l→x∈upd c new f l∨(c x=0∧f x∈upd c new f l)
 |y::l,x,h=>by
  unfold upd
  split
  · rcases List.mem_cons.1 h with rfl|h
    · exact .inl List.mem_cons_self
    · rcases a3i (c:=c) (new:=new) (f:=f) h with h|h
      · exact .inl (List.mem_cons_of_mem _ h)
      · exact .inr ⟨h.1,List.mem_cons_of_mem _ h.2⟩
  · split
    · rename_i h0
      rcases List.mem_cons.1 h with rfl|h
      · exact .inr ⟨h0,List.mem_cons_self⟩
      · exact .inl (List.mem_cons_of_mem _ h)
    · exact .inl (List.mem_cons_of_mem _ h)
structure J (C:List b8) (i:Int) (s:c8):Prop where
 p1:∀c,c∈C→c.Kind=2→c.From=i→∃t,t∈s.Slots∧t.Night=c.Night∧c.Ballot≤t.Promised∧(t.Ballot=c.Best∨c.Ballot≤t.Ballot)
 p3:∀c,c∈C→c.Kind=4→c.From=i→∃t,t∈s.Slots∧t.Night=c.Night∧c.Ballot≤t.Ballot
 p4:∀t,t∈s.Slots→t.Ballot≠0→Acc C t.Night t.Ballot t.Value
 p7:∀c,c∈C→c.Kind=3→c.From=i→c.Ballot≤6*s.Round+i∧∃b,b∈s.Bids∧b.Night=c.Night∧((b.Ballot=c.Ballot∧b.Value=c.Value∧b.Asked=true)∨c.Ballot<b.Ballot)
 p8:∀b,b∈s.Bids→Prm C b.Night b.Ballot b.Mask b.Best b.Value
 p9:∀h,h∈s.Heard→∀k,0≤k∧k≤5→a1s h.Mask k=true→Acd C k h.Night h.Ballot h.Value
 l1:∀c,c∈C→c.Kind=5→c.From=i→∃l,l∈s.Leases∧l.No=c.No∧l.Thing=c.Thing∧l.To=c.To∧l.From=c.Start∧l.Until≤c.Until∧(l.Until=c.Until∨∃b,b∈C∧b.Kind=6∧b.From=c.To∧b.To=c.From∧b.No=c.No)
 l2:∀y,y∈s.Loans→∃c,c∈C∧c.Kind=5∧c.From=y.Owner∧c.To=i∧c.No=y.No∧c.Thing=y.Thing∧c.Start=y.From
 l3:∀b,b∈C→b.Kind=6→b.From=i→∃y,y∈s.Loans∧y.Owner=b.To∧y.No=b.No∧y.Back=true∧y.Until=b.Until
section
variable {C : List b8} {i : Int} {s : c8}
theorem J.slots (h:J C i s) {f:d0→d0} {c:b8} (hn:∀x,(f x).Night=x.Night) (hp:∀x,x.Promised≤(f x).Promised) (hb:∀x,x∈s.Slots→(f x).Ballot=x.Ballot∨(x.Promised≤(f x).Ballot∧x.Ballot≤(f x).Ballot)) (ho:∀x,x.Night=c.Night→(x.Ballot≠0→Acc C x.Night x.Ballot x.Value)→(f x).Ballot≠0→Acc C x.Night (f x).Ballot (f x).Value):J C i ⟨s.Round,upd (S4 c.Night) (C4 c) f s.Slots,s.Bids,s.Heard,s.Leases,s.Loans⟩:=
 { h with
  p1:=fun a ha h2 hf=>by
   obtain⟨t,t1,t2,t3,t4⟩:=h.p1 a ha h2 hf
   rcases a3i (c:=S4 c.Night) (new:=C4 c) (f:=f) t1 with q|⟨_,q⟩
   · exact⟨t,q,t2,t3,t4⟩
   · refine⟨f t,q,by rw [hn];exact t2,Int.le_trans t3 (hp t), ?_⟩
     rcases hb t t1 with e|e
     · rw [e];exact t4
     · exact .inr (Int.le_trans t3 e.1)
  p3:=fun a ha h2 hf=>by
   obtain⟨t,t1,t2,t3⟩:=h.p3 a ha h2 hf
   rcases a3i (c:=S4 c.Night) (new:=C4 c) (f:=f) t1 with q|⟨_,q⟩
   · exact⟨t,q,t2,t3⟩
   · refine⟨f t,q,by rw [hn];exact t2, ?_⟩
     rcases hb t t1 with e|e
     · rw [e];exact t3
     · exact Int.le_trans t3 e.2
  p4:=fun t ht hne=>by
   rcases Z3 ht with e|ht|⟨z,hz,h0,e⟩
   · rw [e]at hne⊢;rw [hn];exact ho _ rfl (fun q=>absurd rfl q) hne
   · exact h.p4 t ht hne
   · rw [e]at hne⊢;rw [hn];exact ho z ((W7 _ _).2.1 h0) (h.p4 z hz) hne}
theorem J.prep (h:J C i s) (c:b8):J C i ⟨s.Round,upd (S4 c.Night) (C4 c) (a0d c) s.Slots,s.Bids,s.Heard,s.Leases,s.Loans⟩:=
 h.slots (a1h c) (fun x=>by
  unfold a0d;split
  · rename_i q;exact Int.le_of_lt q
  · exact Int.le_refl _) (fun x _=> .inl (by unfold a0d;split<;>rfl)) (fun x _ hx hne=>by
  have e:(a0d c x).Ballot=x.Ballot∧(a0d c x).Value=x.Value:=by unfold a0d;split<;>exact⟨rfl,rfl⟩
  rw [e.1,e.2];exact hx (by rw [←e.1];exact hne))
theorem J.acc (h:J C i s) (hle:∀x,x∈s.Slots→x.Ballot≤x.Promised) {c:b8} (hc:c∈C) (h3:c.Kind=3):J C i ⟨s.Round,upd (S4 c.Night) (C4 c) (a3y c) s.Slots,s.Bids,s.Heard,s.Leases,s.Loans⟩:=
 h.slots (a3e c) (fun x=>by
  unfold a3y;split
  · rename_i q;exact q
  · exact Int.le_refl _) (fun x hx=>by
  unfold a3y;split
  · rename_i q;exact .inr ⟨q,Int.le_trans (hle x hx) q⟩
  · exact .inl rfl) (fun x hn hx hne=>by
  unfold a3y at hne⊢
  by_cases q:c.Ballot≥x.Promised
  · rw [if_pos q];exact⟨c,hc,h3,hn.symm,rfl,rfl⟩
  · rw [if_neg q]at hne⊢;exact hx hne)
theorem J.prom (g:GC C) (h:J C i s) (hv:j5 i s) {c:b8} (hc:c∈C) (h2:c.Kind=2):J C i ⟨s.Round,s.Slots,s.Bids.map (Z9 c),s.Heard,s.Leases,s.Loans⟩:=
 { h with
  p7:=fun a ha h3 hf=>by
   obtain⟨q,b,b1,b2,b3⟩:=h.p7 a ha h3 hf
   refine⟨q,Z9 c b,List.mem_map.2 ⟨b,b1,rfl⟩,by rw [(P2 c b).1];exact b2, ?_⟩
   rcases b3 with⟨b3,b4,b5⟩|b3
   · have e:Z9 c b=b:=by unfold Z9;rw [if_neg (by rw [b5];simp)]
     rw [e];exact .inl ⟨b3,b4,b5⟩
   · rw [(P2 c b).2];exact .inr b3
  p8:=fun b' hb'=>by
   obtain⟨b,hb,rfl⟩:=List.mem_map.1 hb'
   obtain⟨q1,q2⟩:=h.p8 b hb
   have hm:=(hv.bids b hb).2.2.2.2.2.1
   have hfr:=(g.ok c hc).from_
   unfold Z9
   split
   · rename_i e
     constructor
     · intro k hk hmk
       show Pro C k b.Night b.Ballot (if c.Best>b.Best then c.Best else b.Best)
       rcases a9M hm hfr hk hmk with q|q
       · obtain⟨p,p1,p2,p3,p4,p5,p6⟩:=q1 k hk q
         exact⟨p,p1,p2,p3,p4,p5,by split<;>omega⟩
       · exact⟨c,hc,h2,q.symm,e.1.symm,e.2.1.symm,by split<;>omega⟩
     · show(if c.Best>b.Best then c.Best else b.Best)≠0→Acc C b.Night (if c.Best>b.Best then c.Best else b.Best) (if c.Best>b.Best then c.Value else b.Value)
       intro hne
       by_cases q:c.Best>b.Best
       · rw [if_pos q]at hne⊢;rw [if_pos q,e.1];exact g.gb c hc h2 hne
       · rw [if_neg q]at hne⊢;rw [if_neg q];exact q2 hne
   · exact⟨q1,q2⟩}
theorem J.prop (h:J C i s) (night value:Int):J C i ⟨s.Round+1,s.Slots,a3F s i night value,s.Heard,s.Leases,s.Loans⟩:=
 { h with
  p7:=fun a ha h3 hf=>by
   obtain⟨q,b,b1,b2,b3⟩:=h.p7 a ha h3 hf
   refine⟨by show a.Ballot≤6*(s.Round+1)+i;omega, ?_⟩
   rcases a3i (c:=b2X night) (new:=R2 i s.Round night value) (f:=fun _=>R2 i s.Round night value) b1 with e|⟨e0,e⟩
   · exact⟨b,e,b2,b3⟩
   · exact⟨_,e,by rw [←b2];exact((a1C night b).2.1 e0).symm, .inr (by simp only [R2];omega)⟩
  p8:=fun b hb=>by
   have hnew:Prm C (R2 i s.Round night value).Night (R2 i s.Round night value).Ballot (R2 i s.Round night value).Mask (R2 i s.Round night value).Best (R2 i s.Round night value).Value:=⟨fun k hk hm=>by
    have hm:a1s 0 k=true:=hm
    rw [c2c hk]at hm
    exact absurd hm (by simp),fun q=>absurd rfl q⟩
   rcases Z3 hb with rfl|hb|⟨z,_,_,rfl⟩
   · exact hnew
   · exact h.p8 b hb
   · exact hnew}
theorem J.heard (g:GC C) (h:J C i s) (hv:j5 i s) {c:b8} (hc:c∈C) (h4:c.Kind=4):J C i ⟨s.Round,s.Slots,s.Bids,upd (a0B c.Ballot c.Night) (L7 c) (U5 c) s.Heard,s.Leases,s.Loans⟩:=
 { h with
  p9:=fun x hx k hk hm=>by
   have hfr:=(g.ok c hc).from_
   rcases Z3 hx with rfl|hx|⟨z,hz,h0,rfl⟩
   · unfold U5 at hm⊢
     rw [if_pos (show(L7 c).Value=c.Value from rfl)]at hm⊢
     rcases a9M (m:=0) (by omega) hfr hk hm with q|q
     · rw [c2c hk]at q;cases q
     · exact⟨c,hc,h4,q.symm,rfl,rfl,rfl⟩
   · exact h.p9 x hx k hk hm
   · have e:=(a4z c.Ballot c.Night z).2.1 h0
     unfold U5 at hm⊢
     by_cases q:z.Value=c.Value
     · rw [if_pos q]at hm⊢
       rcases a9M (hv.heard z hz).2.2.2.2 hfr hk hm with r|r
       · exact h.p9 z hz k hk r
       · exact⟨c,hc,h4,r.symm,e.2.symm,e.1.symm,q.symm⟩
     · rw [if_neg q]at hm⊢
       exact h.p9 z hz k hk hm}
theorem J.lend (h:J C i s) (y:c0):J C i ⟨s.Round,s.Slots,s.Bids,s.Heard,s.Leases++ [y],s.Loans⟩:=
 { h with
  l1:=fun c hc h5 hf=>by
   obtain⟨l,l1,r⟩:=h.l1 c hc h5 hf
   exact⟨l,List.mem_append_left _ l1,r⟩}
theorem J.back (h:J C i s) {c:b8} (hc:c∈C) (h6:c.Kind=6) (hto:c.To=i):J C i ⟨s.Round,s.Slots,s.Bids,s.Heard,s.Leases.map (a2h c),s.Loans⟩:=
 { h with
  l1:=fun a ha h5 hf=>by
   obtain⟨l,m1,m2,m3,m4,m5,m6,m7⟩:=h.l1 a ha h5 hf
   have hk:=a4h c l
   refine⟨a2h c l,List.mem_map.2 ⟨l,m1,rfl⟩,by omega,by omega,by omega,by omega,by omega, ?_⟩
   by_cases q:l.No=c.No∧l.Thing=c.Thing∧l.To=c.From
   · exact .inr ⟨c,hc,h6,by omega,by omega,by omega⟩
   · rw [show a2h c l=l by unfold a2h;rw [if_neg q]];exact m7}
theorem J.ret (h:J C i s) (o n m:Int):J C i ⟨s.Round,s.Slots,s.Bids,s.Heard,s.Leases,s.Loans.map (a4s o n m)⟩:=
 { h with
  l2:=fun y hy=>by
   obtain⟨z,hz,rfl⟩:=List.mem_map.1 hy
   obtain⟨c,c1,c2,c3,c4,c5,c6,c7⟩:=h.l2 z hz
   have e:(a4s o n m z).Owner=z.Owner∧(a4s o n m z).No=z.No∧(a4s o n m z).Thing=z.Thing∧(a4s o n m z).From=z.From:=by unfold a4s;split<;>exact⟨rfl,rfl,rfl,rfl⟩
   exact⟨c,c1,c2,by omega,c4,by omega,by omega,by omega⟩
  l3:=fun b hb h6 hf=>by
   obtain⟨y,y1,y2,y3,y4,y5⟩:=h.l3 b hb h6 hf
   have e:a4s o n m y=y:=by unfold a4s;rw [if_neg (by rw [y4];simp)]
   exact⟨y,List.mem_map.2 ⟨y,y1,e⟩,y2,y3,y4,y5⟩}
theorem J.grant (h:J C i s) {c:b8} (hc:c∈C) (h5:c.Kind=5) (hto:c.To=i):J C i ⟨s.Round,s.Slots,s.Bids,s.Heard,s.Leases,upd (a0b c.From c.No) (V2 c) id s.Loans⟩:=
 { h with
  l2:=fun y hy=>by
   rcases Z3 hy with e|hy|⟨z,hz,_,e⟩
   · rw [e];exact⟨c,hc,h5,rfl,hto,rfl,rfl,rfl⟩
   · exact h.l2 y hy
   · rw [e];exact h.l2 z hz
  l3:=fun b hb h6 hf=>by
   obtain⟨y,y1,r⟩:=h.l3 b hb h6 hf
   rcases a3i (c:=a0b c.From c.No) (new:=V2 c) (f:=id) y1 with e|⟨_,e⟩
   · exact⟨y,e,r⟩
   · exact⟨y,e,r⟩}
theorem a8P {t:d0} (h:a1v t):t.Ballot≤t.Promised:=by
 obtain⟨_,h2,h3⟩:=h
 rcases h3 with h3|h3<;>omega
theorem J.hear (g:GC C) (h:J C i s) (hv:j5 i s) {c:b8} (hc:c∈C) (hto:c.To=i) {t:c8} (e:N0 s c=some t):J C i t:=by
 unfold N0 at e
 split at e
 · split at e
   · cases e;exact h.prep c
   · cases e
 · split at e
   · rename_i k;cases e;exact h.prom g hv hc k
   · split at e
     · rename_i k
       split at e
       · cases e;exact h.acc (fun x hx=>a8P (hv.slots x hx)) hc k
       · cases e
     · split at e
       · rename_i k
         split at e
         · cases e;exact h.heard g hv hc k
         · cases e
       · split at e
         · rename_i k
           split at e
           · cases e;exact h.grant hc k hto
           · cases e
         · rename_i n1 n2 n3 n4 n5
           cases e
           refine h.back hc ?_ hto
           rcases(g.ok c hc).kind with k|k|k|k|k|k<;>omega
end
end Go.Proofs.YtcedmbakcchkiaaGreatDoor
namespace Go.Proofs.YtcedmbakcchkiaaGreatDoor
open Go Go.Sx
open Classical
inductive Em (i:Int) (s:c8):b8→Prop
 |acc (b:d9) (to_:Int) (hb:b∈s.Bids) (ha:b.Asked=true) (ht:0≤to_∧to_≤5):Em i s ⟨3,i,to_,b.Night,b.Ballot,0,b.Value,0,0,0,0⟩
 |prep (b:d9) (to_:Int) (hb:b∈s.Bids) (ht:0≤to_∧to_≤5):Em i s ⟨1,i,to_,b.Night,b.Ballot,0,0,0,0,0,0⟩
 |pro (t:d0) (hs:t∈s.Slots) (hp:t.Promised>t.Ballot):Em i s ⟨2,i,t.Promised % 6,t.Night,t.Promised,t.Ballot,t.Value,0,0,0,0⟩
 |acd (t:d0) (to_:Int) (hs:t∈s.Slots) (hb:t.Ballot≠0) (ht:0≤to_∧to_≤5):Em i s ⟨4,i,to_,t.Night,t.Ballot,0,t.Value,0,0,0,0⟩
 |grant (l:c0) (hl:l∈s.Leases):Em i s ⟨5,i,l.To,0,0,0,0,l.No,l.Thing,l.From,l.Until⟩
 |back (y:d7) (hy:y∈s.Loans) (hb:y.Back=true):Em i s ⟨6,i,y.Owner,0,0,0,0,y.No,y.Thing,0,y.Until⟩
theorem b6U {i to_:Int} {s:c8} (ht:0≤to_∧to_≤5) {c:b8} (h:c∈a5T i to_ s):Em i s c:=by
 unfold a5T at h
 rcases List.mem_append.1 h with h|h
 · obtain⟨b,hb,h⟩:=List.mem_flatMap.1 h
   unfold b6c at h
   by_cases ha:b.Asked=true
   · rw [if_pos ha,List.mem_singleton]at h;rw [h];exact .acc b to_ hb ha ht
   · rw [if_neg ha,List.mem_singleton]at h;rw [h];exact .prep b to_ hb ht
 · rcases List.mem_append.1 h with h|h
   · obtain⟨t,hs,h⟩:=List.mem_flatMap.1 h
     unfold a9j at h
     rcases List.mem_append.1 h with h|h
     · split at h
       · rename_i q
         rw [List.mem_singleton]at h
         subst h
         obtain⟨rfl,q⟩:=q
         exact .pro t hs q
       · cases h
     · split at h
       · rename_i q
         rw [List.mem_singleton]at h
         subst h
         exact .acd t to_ hs q ht
       · cases h
   · rcases List.mem_append.1 h with h|h
     · obtain⟨l,hl,h⟩:=List.mem_flatMap.1 h
       unfold a8k at h
       split at h
       · rename_i q
         rw [List.mem_singleton]at h
         subst h
         subst q
         exact .grant l hl
       · cases h
     · obtain⟨y,hy,h⟩:=List.mem_flatMap.1 h
       unfold b1Y at h
       split at h
       · rename_i q
         rw [List.mem_singleton]at h
         subst h
         obtain⟨rfl,q⟩:=q
         exact .back y hy q
       · cases h
theorem Em.from_ {i:Int} {s:c8} {c:b8} (h:Em i s c):c.From=i:=by cases h<;>rfl
theorem Em.ok {i:Int} {s:c8} (hv:j5 i s) {c:b8} (h:Em i s c):a4q c:=by
 have hd:=hv.dep
 have hr:=hv.round
 cases h with
 |acc b to_ hb ha ht=>
  obtain⟨b1,b2,b3,b4,_⟩:=hv.bids b hb
  exact⟨hd,ht, .inr (.inr (.inl ⟨rfl,⟨b1,by simp only;omega,rfl,rfl,rfl,rfl⟩,b3,rfl,b4⟩))⟩
 |prep b to_ hb ht=>
  obtain⟨b1,b2,b3,b4,_⟩:=hv.bids b hb
  exact⟨hd,ht, .inl ⟨rfl,⟨b1,by simp only;omega,rfl,rfl,rfl,rfl⟩,b3,rfl,rfl⟩⟩
 |pro t hs hp=>
  obtain⟨s1,s2,s3⟩:=hv.slots t hs
  refine⟨hd,by simp only;omega, .inr (.inl ⟨rfl,⟨s1,s2,rfl,rfl,rfl,rfl⟩,rfl, ?_⟩)⟩
  rcases s3 with s3|s3
  · exact .inl s3
  · exact .inr ⟨by simp only;omega,s3.2⟩
 |acd t to_ hs hb ht=>
  obtain⟨s1,s2,s3⟩:=hv.slots t hs
  rcases s3 with s3|s3
  · exact absurd s3.1 hb
  · exact⟨hd,ht, .inr (.inr (.inr (.inl ⟨rfl,⟨s1,by simp only;omega,rfl,rfl,rfl,rfl⟩,rfl,s3.2⟩)))⟩
 |grant l hl=>
  obtain⟨l1,l2,l3,l4,l5,l6,l7⟩:=hv.leases l hl
  have hno:1≤l.No∧l.No≤40:=by
   obtain⟨k,hk,e⟩:=List.getElem_of_mem hl
   have:=hv.nos k l (by rw [List.getElem?_eq_getElem hk,e])
   have:=hv.nleases
   omega
  exact⟨hd,l3, .inr (.inr (.inr (.inr (.inl ⟨rfl,⟨fun q=>l4 q.symm,hno,l1,l6,rfl,rfl,rfl,rfl⟩,l2,l5,l7⟩))))⟩
 |back y hy hb=>
  obtain⟨y1,y2,y3,y4,y5,y6,y7,y8⟩:=hv.loans y hy
  exact⟨hd,y1, .inr (.inr (.inr (.inr (.inr ⟨rfl,⟨fun q=>y2 q.symm,y3,y4,y7,rfl,rfl,rfl,rfl⟩,y5,rfl⟩))))⟩
theorem a0m {α:Type} {lt:α→α→Prop} (tr:∀a b c,lt a b→lt b c→lt a c) (irr:∀a,¬lt a a):∀ {l:List α},I4 lt l→l.Pairwise lt
 | [],_=> .nil
 |x::l,h=>by
  obtain⟨h1,h2⟩:=a4y.1 h
  have ih:=a0m tr irr h2
  refine List.pairwise_cons.2 ⟨fun y hy=> ?_,ih⟩
  cases l with
  |nil=>cases hy
  |cons z l=>
   rcases List.mem_cons.1 hy with rfl|hy
   · exact h1 _ rfl
   · exact tr _ _ _ (h1 z rfl) ((List.pairwise_cons.1 ih).1 y hy)
theorem b6k {α:Type} {lt:α→α→Prop}:∀ {l:List α},l.Pairwise lt→∀ {a b},a∈l→b∈l→¬lt a b→¬lt b a→a=b
 |x::l,h,a,b,ha,hb,h1,h2=>by
  obtain⟨h3,h4⟩:=List.pairwise_cons.1 h
  rcases List.mem_cons.1 ha with e1|ha
  · rcases List.mem_cons.1 hb with e2|hb
    · rw [e1,e2]
    · rw [e1]at h1;exact absurd (h3 b hb) h1
  · rcases List.mem_cons.1 hb with e2|hb
    · rw [e2]at h2;exact absurd (h3 a ha) h2
    · exact b6k h4 ha hb h1 h2
theorem j5.slot1 {i:Int} {s:c8} (h:j5 i s) {a b:d0} (ha:a∈s.Slots) (hb:b∈s.Slots) (e:a.Night=b.Night):a=b:=
 b6k (a0m (fun a b c q r=>by unfold a3t at*;omega) (fun a q=>by unfold a3t at q;omega) h.rslots) ha hb (fun q=>by unfold a3t at q;omega) (fun q=>by unfold a3t at q;omega)
theorem j5.bid1 {i:Int} {s:c8} (h:j5 i s) {a b:d9} (ha:a∈s.Bids) (hb:b∈s.Bids) (e:a.Night=b.Night):a=b:=
 b6k (a0m (fun a b c q r=>by unfold a3E at*;omega) (fun a q=>by unfold a3E at q;omega) h.rbids) ha hb (fun q=>by unfold a3E at q;omega) (fun q=>by unfold a3E at q;omega)
theorem j5.loan1 {i:Int} {s:c8} (h:j5 i s) {a b:d7} (ha:a∈s.Loans) (hb:b∈s.Loans) (e:a.Owner=b.Owner) (e':a.No=b.No):a=b:=
 b6k (a0m (fun a b c q r=>by unfold a1d at*;omega) (fun a q=>by unfold a1d at q;omega) h.rloans) ha hb (fun q=>by unfold a1d at q;omega) (fun q=>by unfold a1d at q;omega)
theorem j5.lease1 {i:Int} {s:c8} (h:j5 i s) {a b:c0} (ha:a∈s.Leases) (hb:b∈s.Leases) (e:a.No=b.No):a=b:=by
 obtain⟨k,hk,rfl⟩:=List.getElem_of_mem ha
 obtain⟨j,hj,rfl⟩:=List.getElem_of_mem hb
 have e1:=h.nos k _ (List.getElem?_eq_getElem hk)
 have e2:=h.nos j _ (List.getElem?_eq_getElem hj)
 have:k=j:=by omega
 subst this
 rfl
def c1Y (C C':List b8) (i:Int) (s:c8):Prop:=Sub C C'∧∀c,c∈C'→c∈C∨Em i s c
theorem J.other {C C':List b8} {i j:Int} {s t:c8} (g:c1Y C C' i s) (hne:j≠i) (h:J C j t):J C' j t:=by
 obtain⟨g1,g2⟩:=g
 have old:∀c,c∈C'→c.From=j→c∈C:=fun c hc hf=>by
  rcases g2 c hc with q|q
  · exact q
  · exact absurd (q.from_.symm.trans hf).symm hne
 exact {
  p1:=fun c hc h2 hf=>h.p1 c (old c hc hf) h2 hf
  p3:=fun c hc h2 hf=>h.p3 c (old c hc hf) h2 hf
  p4:=fun t ht hb=>(h.p4 t ht hb).mono g1
  p7:=fun c hc h2 hf=>h.p7 c (old c hc hf) h2 hf
  p8:=fun b hb=>(h.p8 b hb).mono g1
  p9:=fun x hx k hk hm=>(h.p9 x hx k hk hm).mono g1
  l1:=fun c hc h2 hf=>by
   obtain⟨l,a1,a2,a3,a4,a5,a6,a7⟩:=h.l1 c (old c hc hf) h2 hf
   refine⟨l,a1,a2,a3,a4,a5,a6, ?_⟩
   rcases a7 with q|⟨b,q,r⟩
   · exact .inl q
   · exact .inr ⟨b,g1 b q,r⟩
  l2:=fun y hy=>by
   obtain⟨c,q,r⟩:=h.l2 y hy
   exact⟨c,g1 c q,r⟩
  l3:=fun c hc h2 hf=>h.l3 c (old c hc hf) h2 hf}
theorem J.own {C C':List b8} {i:Int} {s:c8} (g:c1Y C C' i s) (hv:j5 i s) (h:J C i s):J C' i s:=by
 obtain⟨g1,g2⟩:=g
 exact {
  p1:=fun c hc h2 hf=>by
   rcases g2 c hc with q|q
   · exact h.p1 c q h2 hf
   · cases q<;>first|(exfalso;revert h2;simp;done)|skip
     rename_i t hs hp
     exact⟨t,hs,rfl,Int.le_refl _, .inl rfl⟩
  p3:=fun c hc h2 hf=>by
   rcases g2 c hc with q|q
   · exact h.p3 c q h2 hf
   · cases q<;>first|(exfalso;revert h2;simp;done)|skip
     rename_i t to_ hs hb ht
     exact⟨t,hs,rfl,Int.le_refl _⟩
  p4:=fun t ht hb=>(h.p4 t ht hb).mono g1
  p7:=fun c hc h2 hf=>by
   rcases g2 c hc with q|q
   · exact h.p7 c q h2 hf
   · cases q<;>first|(exfalso;revert h2;simp;done)|skip
     rename_i b to_ hb ha ht
     exact⟨(hv.bids b hb).2.1.2,b,hb,rfl, .inl ⟨rfl,rfl,ha⟩⟩
  p8:=fun b hb=>(h.p8 b hb).mono g1
  p9:=fun x hx k hk hm=>(h.p9 x hx k hk hm).mono g1
  l1:=fun c hc h2 hf=>by
   rcases g2 c hc with q|q
   · obtain⟨l,a1,a2,a3,a4,a5,a6,a7⟩:=h.l1 c q h2 hf
     refine⟨l,a1,a2,a3,a4,a5,a6, ?_⟩
     rcases a7 with q|⟨b,q,r⟩
     · exact .inl q
     · exact .inr ⟨b,g1 b q,r⟩
   · cases q<;>first|(exfalso;revert h2;simp;done)|skip
     rename_i l hl
     exact⟨l,hl,rfl,rfl,rfl,rfl,Int.le_refl _, .inl rfl⟩
  l2:=fun y hy=>by
   obtain⟨c,q,r⟩:=h.l2 y hy
   exact⟨c,g1 c q,r⟩
  l3:=fun c hc h2 hf=>by
   rcases g2 c hc with q|q
   · exact h.l3 c q h2 hf
   · cases q<;>first|(exfalso;revert h2;simp;done)|skip
     rename_i y hy hb
     exact⟨y,hy,rfl,rfl,hb,rfl⟩}
theorem GC.grow {C C':List b8} {i:Int} {s:c8} (g:c1Y C C' i s) (hv:j5 i s) (h:J C i s) (G:GC C):GC C':=by
 obtain⟨g1,g2⟩:=id g
 exact {
  ok:=fun c hc=>by
   rcases g2 c hc with q|q
   · exact G.ok c q
   · exact q.ok hv
  g2:=fun c hc a ha h2 h4 hf hn hlt=>by
   have ja:=h.own g hv
   rcases g2 c hc with q|q
   · rcases g2 a ha with r|r
     · exact G.g2 c q a r h2 h4 hf hn hlt
     · --a new one told,an old promise
       have hfi:=r.from_
       obtain⟨t,t1,t2,t3,t4⟩:=h.p1 c q h2 (by omega)
       cases r<;>first|(exfalso;revert h4;simp;done)|skip
       rename_i u to_ hs hb ht
       have e:=hv.slot1 t1 hs (by simp only at hn;omega)
       subst e
       simp only at hlt⊢
       rcases t4 with t4|t4<;>omega
   · --a new promise
     have hfi:=q.from_
     obtain⟨u,u1,u2,u3⟩:=ja.p3 a ha h4 (by omega)
     cases q<;>first|(exfalso;revert h2;simp;done)|skip
     rename_i t hs hp
     have e:=hv.slot1 u1 hs (by simp only at hn;omega)
     subst e
     exact u3
  g5:=fun a ha h4=>by
   rcases g2 a ha with q|q
   · exact(G.g5 a q h4).mono g1
   · cases q<;>first|(exfalso;revert h4;simp;done)|skip
     rename_i t to_ hs hb ht
     exact(h.p4 t hs hb).mono g1
  gb:=fun c hc h2 hne=>by
   rcases g2 c hc with q|q
   · exact(G.gb c q h2 hne).mono g1
   · cases q<;>first|(exfalso;revert h2;simp;done)|skip
     rename_i t hs hp
     exact(h.p4 t hs hne).mono g1
  g6:=fun c hc a ha h3 h3' hn hb=>by
   have key:∀c,c∈C'→∀a,Em i s a→c.Kind=3→a.Kind=3→a.Night=c.Night→a.Ballot=c.Ballot→a.Value=c.Value:=fun c hc a q h3 h3' hn hb=>by
    have ja:=h.own g hv
    cases q<;>first|(exfalso;revert h3';simp;done)|skip
    rename_i b to_ hb' ha' ht'
    have hfc:c.From=i:=by
     have hok:a4q c:=by
      rcases g2 c hc with q|q
      · exact G.ok c q
      · exact q.ok hv
     have hbm:=(hv.bids b hb').2.2.1
     rcases hok.kind with k|k|k|k|k|k<;>first|(exfalso;omega)|skip
     have:=k.2.2.1
     simp only at hb
     omega
    obtain⟨_,b2,b3,b4,b5⟩:=ja.p7 c hc h3 hfc
    have e:=hv.bid1 hb' b3 (by simp only at hn;omega)
    subst e
    simp only at hb⊢
    rcases b5 with b5|b5
    · exact b5.2.1
    · omega
   rcases g2 a ha with q|q
   · rcases g2 c hc with r|r
     · exact G.g6 c r a q h3 h3' hn hb
     · exact(key a ha c r h3' h3 hn.symm hb.symm).symm
   · exact key c hc a q h3 h3' hn hb
  g8:=fun c hc h3=>by
   rcases g2 c hc with q|q
   · obtain⟨m,B,a1,a2,a3,a4⟩:=G.g8 c q h3
     exact⟨m,B,a1,a2,a3,a4.mono g1⟩
   · cases q<;>first|(exfalso;revert h3;simp;done)|skip
     rename_i b to_ hb ha ht
     obtain⟨_,_,_,_,b5,b6,b7⟩:=hv.bids b hb
     exact⟨b.Mask,b.Best,b6,by rw [←b7];exact ha,by simp only;omega,(h.p8 b hb).mono g1⟩}
end Go.Proofs.YtcedmbakcchkiaaGreatDoor
namespace Go.Proofs.YtcedmbakcchkiaaGreatDoor
open Go Go.Sx
open Classical
def Lk (d:Int) (s t:c8):Prop:=∀y,y∈s.Loans→y.Owner=d→∀l,l∈t.Leases→l.No=y.No→y.Until≤l.Until
def Of (x:a8) (s:c8):Prop:=s=x.Now∨s=x.Safe
structure Inv (C:List b8) (A:List a8):Prop where
 len:A.length=6
 me:∀(k:Nat) x,A[k]?=some x→x.Me=(k:Int)
 v:∀x,x∈A→y9 x
 g:GC C
 j:∀x,x∈A→∀s,Of x s→J C x.Me s
 l:∀x,x∈A→∀d,d∈A→∀s,Of x s→∀t,Of d t→Lk d.Me s t
section
variable {C : List b8} {A : List a8}
theorem Inv.vs (h:Inv C A) {x:a8} (hx:x∈A) {s:c8} (hs:Of x s):j5 x.Me s:=by
 rcases hs with rfl|rfl
 · exact(h.v x hx).1
 · exact(h.v x hx).2
theorem F0 {k:Nat} {x y z:a8} (hx:A[k]?=some x) (h:z∈A.set k y):z=y∨z∈A:=by
 rcases List.mem_or_eq_of_mem_set h with h|h
 · exact .inr h
 · exact .inl h
theorem Inv.turn (h:Inv C A) {k:Nat} {x:a8} (hx:A[k]?=some x) {n f:c8} (hn:j5 x.Me n∧J C x.Me n) (hf:j5 x.Me f∧J C x.Me f) (h1:∀d,d∈A→∀t,Of d t→Lk d.Me n t∧Lk d.Me f t) (h2:∀y,y∈A→∀s,Of y s→Lk x.Me s n∧Lk x.Me s f):Inv C (A.set k ⟨x.Me,n,f⟩):=by
 have hk:=(List.getElem?_eq_some_iff.1 hx).1
 have self:∀s t:c8,j5 x.Me s→Lk x.Me s t:=fun s t hv y hy ho=>absurd ho (hv.loans y hy).2.1
 exact {
  len:=by rw [List.length_set];exact h.len
  me:=fun i z hz=>by
   rw [List.getElem?_set]at hz
   split at hz
   · rename_i e
     subst e
     cases hz
     exact h.me k x hx
   · exact h.me i z hz
  v:=fun z hz=>by
   rcases F0 hx hz with rfl|hz
   · exact⟨hn.1,hf.1⟩
   · exact h.v z hz
  g:=h.g
  j:=fun z hz s hs=>by
   rcases F0 hx hz with rfl|hz
   · rcases hs with rfl|rfl
     · exact hn.2
     · exact hf.2
   · exact h.j z hz s hs
  l:=fun z hz d hd s hs t ht=>by
   rcases F0 hx hz with rfl|hz
   · rcases F0 hx hd with rfl|hd
     · refine self s t ?_
       rcases hs with rfl|rfl
       · exact hn.1
       · exact hf.1
     · have:=h1 d hd t ht
       rcases hs with rfl|rfl
       · exact this.1
       · exact this.2
   · rcases F0 hx hd with rfl|hd
     · have:=h2 z hz s hs
       rcases ht with rfl|rfl
       · exact this.1
       · exact this.2
     · exact h.l z hz d hd s hs t ht}
theorem Inv.now (h:Inv C A) {k:Nat} {x:a8} (hx:A[k]?=some x) {n:c8} (hv:j5 x.Me n) (hj:J C x.Me n) (h1:∀d,d∈A→∀t,Of d t→Lk d.Me n t) (h2:∀y,y∈A→∀s,Of y s→Lk x.Me s n):Inv C (A.set k ⟨x.Me,n,x.Safe⟩):=by
 have hm:=List.mem_of_getElem? hx
 exact h.turn hx ⟨hv,hj⟩ ⟨(h.v x hm).2,h.j x hm _ (.inr rfl)⟩ (fun d hd t ht=>⟨h1 d hd t ht,h.l x hm d hd _ (.inr rfl) t ht⟩) (fun y hy s hs=>⟨h2 y hy s hs,h.l y hy x hm s hs _ (.inr rfl)⟩)
theorem Inv.fail (h:Inv C A) {k:Nat} {x:a8} (hx:A[k]?=some x):Inv C (A.set k ⟨x.Me,x.Safe,x.Safe⟩):=by
 have hm:=List.mem_of_getElem? hx
 exact h.now hx (h.v x hm).2 (h.j x hm _ (.inr rfl)) (fun d hd t ht=>h.l x hm d hd _ (.inr rfl) t ht) (fun y hy s hs=>h.l y hy x hm s hs _ (.inr rfl))
theorem Inv.write (h:Inv C A) {k:Nat} {x:a8} (hx:A[k]?=some x):Inv C (A.set k ⟨x.Me,x.Now,x.Now⟩):=by
 have hm:=List.mem_of_getElem? hx
 have a:=(h.v x hm).1
 have b:=h.j x hm _ (.inl rfl)
 exact h.turn hx ⟨a,b⟩ ⟨a,b⟩ (fun d hd t ht=>⟨h.l x hm d hd _ (.inl rfl) t ht,h.l x hm d hd _ (.inl rfl) t ht⟩) (fun y hy s hs=>⟨h.l y hy x hm s hs _ (.inl rfl),h.l y hy x hm s hs _ (.inl rfl)⟩)
theorem Inv.same (h:Inv C A) {k:Nat} {x:a8} (hx:A[k]?=some x) {n:c8} (hv:j5 x.Me n) (hj:J C x.Me n) (e1:n.Leases=x.Now.Leases) (e2:n.Loans=x.Now.Loans):Inv C (A.set k ⟨x.Me,n,x.Safe⟩):=by
 have hm:=List.mem_of_getElem? hx
 exact h.now hx hv hj (fun d hd t ht y hy=>h.l x hm d hd _ (.inl rfl) t ht y (e2▸hy)) (fun y hy s hs z hz ho l hl=>h.l y hy x hm s hs _ (.inl rfl) z hz ho l (e1▸hl))
theorem Inv.lease (h:Inv C A) {x z:a8} (hx:x∈A) (hz:z∈A) {s t:c8} (hs:Of z s) (ht:Of x t) {y:d7} (hy:y∈s.Loans) (ho:y.Owner=x.Me):∃l,l∈t.Leases∧l.No=y.No∧l.Thing=y.Thing∧l.To=z.Me∧l.From=y.From:=by
 obtain⟨c,c1,c2,c3,c4,c5,c6,c7⟩:=(h.j z hz s hs).l2 y hy
 obtain⟨l,l1,l2,l3,l4,l5,_⟩:=(h.j x hx t ht).l1 c c1 c2 (by omega)
 exact⟨l,l1,by omega,by omega,by omega,by omega⟩
theorem Inv.lend (h:Inv C A) {k:Nat} {x:a8} (hx:A[k]?=some x) {y:c0} (hno:y.No=(x.Now.Leases.length:Int)+1) (hv:j5 x.Me ⟨x.Now.Round,x.Now.Slots,x.Now.Bids,x.Now.Heard,x.Now.Leases++ [y],x.Now.Loans⟩):Inv C (A.set k ⟨x.Me,⟨x.Now.Round,x.Now.Slots,x.Now.Bids,x.Now.Heard,x.Now.Leases++ [y],x.Now.Loans⟩,x.Safe⟩):=by
 have hm:=List.mem_of_getElem? hx
 refine h.now hx hv ((h.j x hm x.Now (.inl rfl)).lend y) (fun d hd t ht w hw ho l hl hno=>h.l x hm d hd x.Now (.inl rfl) t ht w hw ho l hl hno) (fun z hz s hs w hw ho l hl hno'=> ?_)
 rcases List.mem_append.1 hl with hl|hl
 · exact h.l z hz x hm s hs _ (.inl rfl) w hw ho l hl hno'
 · rw [List.mem_singleton]at hl
   subst hl
   obtain⟨l',l1,l2,_⟩:=h.lease hm hz hs (.inl rfl) hw ho
   obtain⟨i,hi,e⟩:=List.getElem_of_mem l1
   have:=(h.v x hm).1.nos i l' (by rw [List.getElem?_eq_getElem hi,e])
   omega
theorem Inv.ret (h:Inv C A) {k:Nat} {x:a8} (hx:A[k]?=some x) (o n m:Int) (hm0:0≤m):Inv C (A.set k ⟨x.Me,⟨x.Now.Round,x.Now.Slots,x.Now.Bids,x.Now.Heard,x.Now.Leases,x.Now.Loans.map (a4s o n m)⟩,x.Safe⟩):=by
 have hm:=List.mem_of_getElem? hx
 refine h.now hx ((h.v x hm).1.ret' hm0) ((h.j x hm x.Now (.inl rfl)).ret o n m) (fun d hd t ht y hy ho l hl hno=> ?_) (fun z hz s hs w hw ho l hl hno=>h.l z hz x hm s hs x.Now (.inl rfl) w hw ho l hl hno)
 obtain⟨w,hw,rfl⟩:=List.mem_map.1 hy
 have hk:=a5s o n m w
 have hu:(a4s o n m w).Until≤w.Until:=by
  unfold a4s;split
  · simp only;omega
  · exact Int.le_refl _
 have:=h.l x hm d hd _ (.inl rfl) t ht w hw (by omega) l hl (by omega)
 omega
theorem c0u {l:List d7} (hl:I4 a1d l) {c:b8} (h:∃x,x∈l∧x.Owner=c.From∧x.No=c.No):upd (a0b c.From c.No) (V2 c) id l=l:=by
 have hp:=a0m (fun a b c q r=>by unfold a1d at*;omega) (fun a q=>by unfold a1d at q;omega) hl
 clear hl
 induction l with
 |nil=>obtain⟨x,hx,_⟩:=h;cases hx
 |cons y l ih=>
  obtain⟨h1,h2⟩:=List.pairwise_cons.1 hp
  obtain⟨x,hx,e1,e2⟩:=h
  have hk:=a1l c.From c.No y
  unfold upd
  split
  · rename_i q
    rcases List.mem_cons.1 hx with e|hx
    · subst e
      have:=hk.1.1 q
      omega
    · rw [ih ⟨x,hx,e1,e2⟩ h2]
  · split
    · rfl
    · rename_i q1 q2
      exfalso
      rcases List.mem_cons.1 hx with e|hx
      · subst e;exact q2 (hk.2.2 ⟨e1,e2⟩)
      · have h3:=h1 x hx
        unfold a1d at h3
        exact q1 (hk.1.2 (by omega))
theorem Inv.grant (h:Inv C A) {k:Nat} {x:a8} (hx:A[k]?=some x) {c:b8} (hc:c∈C) (h5:c.Kind=5) (hto:c.To=x.Me) (hv:j5 x.Me ⟨x.Now.Round,x.Now.Slots,x.Now.Bids,x.Now.Heard,x.Now.Leases,upd (a0b c.From c.No) (V2 c) id x.Now.Loans⟩):Inv C (A.set k ⟨x.Me,⟨x.Now.Round,x.Now.Slots,x.Now.Bids,x.Now.Heard,x.Now.Leases,upd (a0b c.From c.No) (V2 c) id x.Now.Loans⟩,x.Safe⟩):=by
 have hm:=List.mem_of_getElem? hx
 have hj:=h.j x hm x.Now (.inl rfl)
 refine h.now hx hv (hj.grant hc h5 hto) (fun d hd t ht y hy ho l hl hno=> ?_) (fun z hz s hs w hw ho l hl hno=>h.l z hz x hm s hs x.Now (.inl rfl) w hw ho l hl hno)
 by_cases hex:∃w,w∈x.Now.Loans∧w.Owner=c.From∧w.No=c.No
 · have hy:y∈upd (a0b c.From c.No) (V2 c) id x.Now.Loans:=hy
   rw [c0u (h.v x hm).1.rloans hex]at hy
   exact h.l x hm d hd x.Now (.inl rfl) t ht y hy ho l hl hno
 · rcases Z3 hy with e|hy|⟨z,hz,_,e⟩
   · rw [e]at ho hno⊢
     have ho:c.From=d.Me:=ho
     have hno:l.No=c.No:=hno
     obtain⟨l',l1,l2,l3,l4,l5,l6,l7⟩:=(h.j d hd t ht).l1 c hc h5 ho
     have el:=(h.vs hd ht).lease1 hl l1 (by omega)
     subst el
     show c.Until≤l.Until
     rcases l7 with l7|⟨b,b1,b2,b3,b4,b5⟩
     · omega
     · obtain⟨w,w1,w2,w3,_⟩:=hj.l3 b b1 b2 (by omega)
       exact absurd ⟨w,w1,by omega,by omega⟩ hex
   · exact h.l x hm d hd x.Now (.inl rfl) t ht y hy ho l hl hno
   · rw [e]at ho hno⊢
     exact h.l x hm d hd x.Now (.inl rfl) t ht z hz ho l hl hno
theorem Inv.back (h:Inv C A) {k:Nat} {x:a8} (hx:A[k]?=some x) {c:b8} (hc:c∈C) (h6:c.Kind=6) (hto:c.To=x.Me):Inv C (A.set k ⟨x.Me,⟨x.Now.Round,x.Now.Slots,x.Now.Bids,x.Now.Heard,x.Now.Leases.map (a2h c),x.Now.Loans⟩,x.Safe⟩):=by
 have hm:=List.mem_of_getElem? hx
 have hj:=h.j x hm x.Now (.inl rfl)
 refine h.now hx ((h.v x hm).1.back' c) (hj.back hc h6 hto) (fun d hd t ht y hy ho l hl hno=>h.l x hm d hd x.Now (.inl rfl) t ht y hy ho l hl hno) (fun z hz s hs w hw ho l' hl' hno=> ?_)
 obtain⟨l,hl,rfl⟩:=List.mem_map.1 hl'
 have hk:=a4h c l
 have h0:=h.l z hz x hm s hs x.Now (.inl rfl) w hw ho l hl (by omega)
 unfold a2h
 split
 · rename_i q
   obtain⟨l2,m1,m2,m3,m4,m5⟩:=h.lease hm hz hs (.inl rfl) hw ho
   have el:=(h.v x hm).1.lease1 hl m1 (by omega)
   subst el
   obtain⟨y0,y1,y2,y3,y4,y5⟩:=(h.j z hz s hs).l3 c hc h6 (by omega)
   have ey:=(h.vs hz hs).loan1 hw y1 (by omega) (by omega)
   subst ey
   simp only
   omega
 · exact h0
theorem Inv.hear (h:Inv C A) {k:Nat} {x:a8} (hx:A[k]?=some x) {c:b8} (hc:c∈C) (hto:c.To=x.Me) {t:c8} (e:N0 x.Now c=some t):Inv C (A.set k ⟨x.Me,t,x.Safe⟩):=by
 have hm:=List.mem_of_getElem? hx
 have hv:=c0l (h.v x hm).1 (h.g.ok c hc) hto e
 have hj:=(h.j x hm x.Now (.inl rfl)).hear h.g (h.v x hm).1 hc hto e
 unfold N0 at e
 split at e
 · split at e
   · cases e;exact h.same hx hv hj rfl rfl
   · cases e
 · split at e
   · cases e;exact h.same hx hv hj rfl rfl
   · split at e
     · split at e
       · cases e;exact h.same hx hv hj rfl rfl
       · cases e
     · split at e
       · split at e
         · cases e;exact h.same hx hv hj rfl rfl
         · cases e
       · split at e
         · rename_i k5
           split at e
           · cases e;exact h.grant hx hc k5 hto hv
           · cases e
         · rename_i n1 n2 n3 n4 n5
           cases e
           refine h.back hx hc ?_ hto
           rcases(h.g.ok c hc).kind with k|k|k|k|k|k<;>omega
theorem Inv.grow (h:Inv C A) {C':List b8} {x:a8} (hx:x∈A) (hs:x.Now=x.Safe) (g:c1Y C C' x.Me x.Safe):Inv C' A:=
 { h with
  g:=h.g.grow g (h.v x hx).2 (h.j x hx _ (.inr rfl))
  j:=fun z hz s hs'=>by
   by_cases e:z.Me=x.Me
   · obtain⟨i,hi,ei⟩:=List.getElem_of_mem hz
     obtain⟨j,hj,ej⟩:=List.getElem_of_mem hx
     have e1:=h.me i z (by rw [List.getElem?_eq_getElem hi,ei])
     have e2:=h.me j x (by rw [List.getElem?_eq_getElem hj,ej])
     have:i=j:=by omega
     subst this
     have ez:z=x:=ei.symm.trans ej
     subst ez
     have es:s=z.Safe:=by
      rcases hs' with r|r
      · rw [r,hs]
      · exact r
     rw [es]
     exact(h.j z hz _ (.inr rfl)).own g (h.v z hz).2
   · exact(h.j z hz s hs').other g e}
end
end Go.Proofs.YtcedmbakcchkiaaGreatDoor
namespace Go.Proofs.YtcedmbakcchkiaaGreatDoor
open Go Go.Sx
open Classical
theorem Inv.at_ {C:List b8} {A:List a8} (h:Inv C A) {d:Int} (hd:0≤d∧d≤5):∃x,A[d.toNat]?=some x∧x.Me=d:=by
 have hl:=h.len
 have hlt:d.toNat<A.length:=by omega
 exact⟨A[d.toNat],List.getElem?_eq_getElem hlt,by have:=h.me d.toNat _ (List.getElem?_eq_getElem hlt);omega⟩
theorem Inv.all {C:List b8} {A:List a8} (h:Inv C A):c1K A:=⟨h.v,fun i a b ha hb=>by
 have e1:=h.me i a ha
 have e2:=h.me (i+1) b hb
 show a.Me<b.Me
 omega⟩
theorem Inv.chosen {C:List b8} {A:List a8} (h:Inv C A) {night v:Int} (hv:v∈A.flatMap (b4d night)):∃b,a4V C night b v:=by
 obtain⟨x,hx,hv⟩:=List.mem_flatMap.1 hv
 unfold b4d at hv
 cases hf:a1i x.Now night with
 |none=>rw [hf]at hv;cases hv
 |some y=>
  rw [hf,List.mem_singleton]at hv
  unfold a1i at hf
  have hm:=List.mem_of_find?_eq_some hf
  have hq:=List.find?_some hf
  unfold a7e at hq
  rw [Bool.and_eq_true,decide_eq_true_eq]at hq
  have ho:=(h.v x hx).1.heard y hm
  refine⟨y.Ballot,y.Mask,ho.2.2.2.2,hq.2,fun k hk hmk=> ?_⟩
  rw [hv,←hq.1]
  exact(h.j x hx _ (.inl rfl)).p9 y hm k hk hmk
end Go.Proofs.YtcedmbakcchkiaaGreatDoor
namespace Go.Proofs.YtcedmbakcchkiaaGreatDoor
open Go Go.Sx
open Classical
def upC (x:a8) (n:Nat):List b8:=(List.range n).flatMap fun(k:Nat)=>a5T x.Me (k:Int) x.Safe
def a8j (x:a8):List b8:=upC x 6
theorem a6T {x:a8} (h:y9 x) (n:Nat):(upC x n).length≤1000*n:=by
 have:=a2p (fun k:Nat=>a5T x.Me (k:Int) x.Safe) 1000 (fun k=>a8Z h.2 _) (List.range n)
 rwa [List.length_range]at this
theorem c3D (x:a8) (n:Nat):upC x (n+1)=upC x n++a5T x.Me (n:Int) x.Safe:=by
 unfold upC
 rw [List.range_succ,List.flatMap_append]
 simp
theorem b9R {w:j0} {d:Int} {x:a8} (hd:0≤d) (hx:w.all[d.toNat]?=some x) (hv:y9 x) (hn:w.calls.length≤1000000):A6 w d=some (⟨w.all,w.calls++a8j x,w.told⟩,true):=by
 have hi:idx w.all d=some x:=by
  have:=O6 hx
  rwa [Int.toNat_of_nonneg hd]at this
 obtain⟨e,he,rfl⟩:=a3Y (body:=V4 w d) (fun st=>∃n:Nat,st=((n:Int),w.calls++upC x n)∧n≤6) (fun st=>(6-st.1).toNat) (fun e=>e= .inl (6,w.calls++a8j x)) (by
  rintro _ ⟨n,rfl,h6⟩
  have hl:=a6T hv n
  have hl2:=a8Z hv.2 (n:Int)
  unfold V4
  by_cases h:n<6
  · right
    have h1:((n:Int)<6)=True:=eq_true (by omega)
    refine⟨(((n+1:Nat):Int),w.calls++upC x (n+1)), ?_,⟨n+1,rfl,by omega⟩,by simp only;omega⟩
    simp only [h1,decide_true,if_true,hi,Option.bind_some,b5m,b5H hv.1 hv.2 (show 0≤(n:Int)∧(n:Int)≤5 by omega),bne_self_eq_false,Bool.false_eq_true,if_false,List.nil_append,List.length_nil]
    rw [a7x (by rw [List.length_append];omega),a7x (by rw [List.length_append];omega),W_s (by omega),c3D,List.append_assoc]
  · left
    obtain rfl:n=6:=by omega
    exact⟨_,by simp;rfl,rfl⟩) (0,w.calls) ⟨0,by simp [upC],by omega⟩ (by simp only [a3k];omega)
 unfold A6
 rw [he]
 rfl
theorem b5e (C:List b8) (x:a8):c1Y C (C++a8j x) x.Me x.Safe:=⟨fun c hc=>List.mem_append_left _ hc,fun c hc=>by
 rcases List.mem_append.1 hc with hc|hc
 · exact .inl hc
 · obtain⟨k,hk,hc⟩:=List.mem_flatMap.1 hc
   rw [List.mem_range]at hk
   exact .inr (b6U (by omega) hc)⟩
end Go.Proofs.YtcedmbakcchkiaaGreatDoor
namespace Go.Proofs.YtcedmbakcchkiaaGreatDoor
open Go Go.Sx
open Classical
def c4a (e:Int):Prop:=e=2∨e=93∨e=1∨e=94∨e=95
theorem c3I {e:Int} (h:c4a e):W8 e=some true:=by
 unfold W8
 rcases h with rfl|rfl|rfl|rfl|rfl<;>rfl
structure Chg (C:List b8) (x y:a8):Prop where
 safe:y.Safe=x.Safe
 round:x.Now.Round≤y.Now.Round∧y.Now.Round≤x.Now.Round+1
 bids:∀b,b∈y.Now.Bids→(0≤b.Night∧b.Night≤2)∨∃a,a∈x.Now.Bids∧a.Night=b.Night
 slots:∀t,t∈y.Now.Slots→t.Promised≤0∨(∃u,u∈x.Now.Slots∧t.Promised≤u.Promised)∨∃c,c∈C∧(c.Kind=1∨c.Kind=3)∧t.Promised≤c.Ballot
theorem Chg.easy {C:List b8} {x y:a8} (h1:y.Safe=x.Safe) (h2:y.Now.Round=x.Now.Round) (h3:y.Now.Bids=x.Now.Bids) (h4:y.Now.Slots=x.Now.Slots):Chg C x y:=
 ⟨h1,by omega,fun b hb=> .inr ⟨b,h3▸hb,rfl⟩,fun t ht=> .inr (.inl ⟨t,h4▸ht,Int.le_refl _⟩)⟩
theorem Chg.prop {C:List b8} {x:a8} {n v:Int} (hn:0≤n∧n≤2):Chg C x ⟨x.Me,⟨x.Now.Round+1,x.Now.Slots,a3F x.Now x.Me n v,x.Now.Heard,x.Now.Leases,x.Now.Loans⟩,x.Safe⟩:=
 ⟨rfl,⟨by show _≤x.Now.Round+1;omega,Int.le_refl _⟩,fun b hb=>by
  rcases Z3 hb with e|hb|⟨z,_,_,e⟩
  · rw [e];exact .inl hn
  · exact .inr ⟨b,hb,rfl⟩
  · rw [e];exact .inl hn,fun t ht=> .inr (.inl ⟨t,ht,Int.le_refl _⟩)⟩
theorem Chg.slots' {C:List b8} {x:a8} {c:b8} (hc:c∈C) (hk:c.Kind=1∨c.Kind=3) {f:d0→d0} (hf:∀t,(f t).Promised=t.Promised∨(f t).Promised=c.Ballot):Chg C x ⟨x.Me,⟨x.Now.Round,upd (S4 c.Night) (C4 c) f x.Now.Slots,x.Now.Bids,x.Now.Heard,x.Now.Leases,x.Now.Loans⟩,x.Safe⟩:=
 ⟨rfl,⟨Int.le_refl _,by show x.Now.Round≤_;omega⟩,fun b hb=> .inr ⟨b,hb,rfl⟩,fun t ht=>by
  rcases Z3 ht with e|ht|⟨z,hz,_,e⟩
  · rcases hf (C4 c)with q|q
    · left;rw [e,q];exact Int.le_refl _
    · right;right;exact⟨c,hc,hk,by rw [e,q];exact Int.le_refl _⟩
  · exact .inr (.inl ⟨t,ht,Int.le_refl _⟩)
  · rcases hf z with q|q
    · exact .inr (.inl ⟨z,hz,by rw [e,q];exact Int.le_refl _⟩)
    · right;right;exact⟨c,hc,hk,by rw [e,q];exact Int.le_refl _⟩⟩
theorem Chg.hear {C:List b8} {x:a8} {c:b8} (hc:c∈C) {t:c8} (e:N0 x.Now c=some t):Chg C x ⟨x.Me,t,x.Safe⟩:=by
 unfold N0 at e
 split at e
 · rename_i k
   split at e
   · cases e
     exact .slots' hc (.inl k) fun t=>by unfold a0d;split<;>first|exact .inr rfl|exact .inl rfl
   · cases e
 · split at e
   · cases e
     exact⟨rfl,⟨Int.le_refl _,by show x.Now.Round≤_;omega⟩,fun b hb=>by
      obtain⟨a,ha,rfl⟩:=List.mem_map.1 hb
      exact .inr ⟨a,ha,(P2 c a).1.symm⟩,fun t ht=> .inr (.inl ⟨t,ht,Int.le_refl _⟩)⟩
   · split at e
     · rename_i k
       split at e
       · cases e
         exact .slots' hc (.inr k) fun t=>by unfold a3y;split<;>first|exact .inr rfl|exact .inl rfl
       · cases e
     · split at e
       · split at e
         · cases e;exact .easy rfl rfl rfl rfl
         · cases e
       · split at e
         · split at e
           · cases e;exact .easy rfl rfl rfl rfl
           · cases e
         · cases e;exact .easy rfl rfl rfl rfl
def c1s (C:List b8) (A:List a8) (k:Nat) (r:a8×Int):Prop:=c4a r.2∨(r.2=0∧Inv C (A.set k r.1)∧∃x,A[k]?=some x∧Chg C x r.1)
section
variable {C : List b8} {A : List a8} {k : Nat} {x : a8}
theorem b1r (h:Inv C A) (hx:A[k]?=some x) {n v:Int} (hn2:0≤n∧n≤2) (hv:1≤v∧v≤1000000):c1s C A k (a0V x n v):=by
 have hn:0≤n∧n≤100000:=by omega
 have hm:=List.mem_of_getElem? hx
 have hs:=h.v x hm
 have hk:=fun e=>b2V (x:=x) (n:=n) (v:=v) e
 unfold a0V at hk⊢
 rw [if_pos hs,if_pos hn,if_pos hv]at hk⊢
 by_cases q:x.Now.Round=9999∨¬(a3F x.Now x.Me n v).length≤12
 · rw [if_pos q];exact .inl (.inl rfl)
 · rw [if_neg q]at hk⊢
   exact .inr ⟨rfl,h.same hx (hk rfl).1.1 ((h.j x hm x.Now (.inl rfl)).prop n v) rfl rfl,x,hx, .prop hn2⟩
theorem c3n (h:Inv C A) (hx:A[k]?=some x) {a b c d:Int} (ha:1≤a∧a≤99) (hb:0≤b∧b≤5) (hc:0≤c∧c≤144001439) (hd:0≤d∧d≤144001439) (ho:a % 6=x.Me):c1s C A k (b0m x a b c d):=by
 have hm:=List.mem_of_getElem? hx
 have hs:=h.v x hm
 have hk:=fun e=>b6y (x:=x) (a:=a) (b:=b) (c:=c) (d:=d) e
 unfold b0m at hk⊢
 rw [if_pos hs,if_pos ha,if_pos hb,if_pos hc,if_pos hd,if_pos ho]at hk⊢
 by_cases h7:b=x.Me
 · rw [if_pos h7];exact .inl (.inr (.inr (.inl rfl)))
 · rw [if_neg h7]at hk⊢
   by_cases h8:c>d
   · rw [if_pos h8];exact .inl (.inr (.inr (.inr (.inr rfl))))
   · rw [if_neg h8]at hk⊢
     by_cases h9:b3K x.Now.Leases ⟨(x.Now.Leases.length:Int)+1,a,b,c,d⟩
     · rw [if_pos h9];exact .inl (.inr (.inl rfl))
     · rw [if_neg h9]at hk⊢
       by_cases h10:x.Now.Leases.length=40
       · rw [if_pos h10];exact .inl (.inl rfl)
       · rw [if_neg h10]at hk⊢
         exact .inr ⟨rfl,h.lend hx rfl (hk rfl).1.1,x,hx, .easy rfl rfl rfl rfl⟩
theorem b9k (h:Inv C A) (hx:A[k]?=some x) {o n m:Int} (ho:0≤o∧o≤5):c1s C A k (a9n x o n m):=by
 have hm:=List.mem_of_getElem? hx
 have hs:=h.v x hm
 unfold a9n
 rw [if_pos hs,if_pos ho]
 by_cases h3:0≤m∧m≤144001439
 · rw [if_pos h3]
   by_cases h4:∃y,y∈x.Now.Loans∧y.Owner=o∧y.No=n∧y.Back=false
   · rw [if_pos h4];exact .inr ⟨rfl,h.ret hx o n m h3.1,x,hx, .easy rfl rfl rfl rfl⟩
   · rw [if_neg h4];exact .inl (.inr (.inr (.inr (.inl rfl))))
 · rw [if_neg h3];exact .inl (.inr (.inr (.inr (.inr rfl))))
theorem c2M (h:Inv C A) (hx:A[k]?=some x) {c:b8} (hc:c∈C) (hto:c.To=x.Me):c1s C A k (b2g x c):=by
 have hm:=List.mem_of_getElem? hx
 have hs:=h.v x hm
 unfold b2g
 rw [if_pos hs,if_pos ⟨h.g.ok c hc,hto⟩]
 cases e:N0 x.Now c with
 |none=>exact .inl (.inl rfl)
 |some t=>exact .inr ⟨rfl,h.hear hx hc hto e,x,hx, .hear hc e⟩
end
inductive c4X (w w':j0):Prop
 |same (h1:w'.all=w.all) (h2:w'.calls=w.calls)
 |one (k:Nat) (x y:a8) (hx:w.all[k]?=some x) (h1:w'.all=w.all.set k y) (h2:w'.calls=w.calls) (hc:Chg w.calls x y∨y=⟨x.Me,x.Safe,x.Safe⟩)
 |wrote (k:Nat) (x:a8) (hx:w.all[k]?=some x) (h1:w'.all=w.all.set k ⟨x.Me,x.Now,x.Now⟩) (h2:w'.calls=w.calls++a8j ⟨x.Me,x.Now,x.Now⟩)
structure Nx (w w':j0):Prop where
 st:c4X w w'
 told:w'.told=w.told
 sub:Sub w.calls w'.calls
 inv:Inv w'.calls w'.all
 len:w'.calls.length≤w.calls.length+6000
theorem Nx.self {w:j0} (h:Inv w.calls w.all):Nx w ⟨w.all,w.calls,w.told⟩:=⟨.same rfl rfl,rfl,fun _ h=>h,h,by simp⟩
theorem Nx.set {w:j0} {k:Nat} {y:a8} (h:Inv w.calls (w.all.set k y)∧∃x,w.all[k]?=some x∧Chg w.calls x y):Nx w ⟨w.all.set k y,w.calls,w.told⟩:=by
 obtain⟨h,x,hx,hc⟩:=h
 exact⟨.one k x y hx rfl rfl (.inl hc),rfl,fun _ h=>h,h,by simp⟩
theorem Nx.fail {w:j0} {k:Nat} {x:a8} (hx:w.all[k]?=some x) (h:Inv w.calls (w.all.set k ⟨x.Me,x.Safe,x.Safe⟩)):Nx w ⟨w.all.set k ⟨x.Me,x.Safe,x.Safe⟩,w.calls,w.told⟩:=
 ⟨.one k x _ hx rfl rfl (.inr rfl),rfl,fun _ h=>h,h,by simp⟩
theorem Nx.called {w:j0} {k:Nat} {x:a8} (h:Inv w.calls w.all) (hx:w.all[k]?=some x):Nx w ⟨w.all.set k ⟨x.Me,x.Now,x.Now⟩,w.calls++a8j ⟨x.Me,x.Now,x.Now⟩,w.told⟩:=by
 have hw:=h.write hx
 have hk:=(List.getElem?_eq_some_iff.1 hx).1
 have hmem:(⟨x.Me,x.Now,x.Now⟩:a8)∈w.all.set k ⟨x.Me,x.Now,x.Now⟩:=List.mem_of_getElem? (i:=k) (by rw [List.getElem?_set_self hk])
 have hl:=a6T (hw.v _ hmem) 6
 refine⟨.wrote k x hx rfl rfl,rfl,fun c hc=>List.mem_append_left _ hc,hw.grow hmem rfl (b5e _ _), ?_⟩
 show(w.calls++a8j ⟨x.Me,x.Now,x.Now⟩).length≤_
 rw [List.length_append]
 unfold a8j
 omega
end Go.Proofs.YtcedmbakcchkiaaGreatDoor
namespace Go.Proofs.YtcedmbakcchkiaaGreatDoor
open Go Go.Sx
open Classical
theorem c3Z {w:j0} (y:N9) (h:Inv w.calls w.all) (hn:w.calls.length≤900000):∃w',a0H w y=some (w',true)∧Nx w w':=by
 have hlen:=h.len
 obtain⟨x,hx,hme⟩:=h.at_ (d:=y.Depot % 6) (by omega)
 have hm:=List.mem_of_getElem? hx
 have hi:idx w.all (y.Depot % 6)=some x:=by
  have:=O6 hx
  rwa [Int.toNat_of_nonneg (by omega)]at this
 unfold a0H
 rw [a7x (by simp only [List.length_nil];omega),a8K]
 simp only [Option.bind_some,List.nil_append]
 rw [hi,a4w y.Kind (by omega)]
 simp only [Option.bind_some]
 have fin:∀ {r:a8×Int},c1s w.calls w.all (y.Depot % 6).toNat r→(c4a r.2∧(r.2 !=0)=true∧W8 r.2=some true)∨((r.2 !=0)=false∧Inv w.calls (w.all.set (y.Depot % 6).toNat r.1)∧∃x,w.all[(y.Depot % 6).toNat]?=some x∧Chg w.calls x r.1):=fun {r} op=>by
  rcases op with op|⟨op,op'⟩
  · refine .inl ⟨op, ?_,c3I op⟩
    rw [bne_iff_ne]
    rcases op with e|e|e|e|e<;>rw [e]<;>decide
  · exact .inr ⟨by rw [op];rfl,op'⟩
 have hk:y.Kind % 12=0∨y.Kind % 12=1∨y.Kind % 12=2∨y.Kind % 12=3∨y.Kind % 12=4∨y.Kind % 12=5∨y.Kind % 12=6∨(7≤y.Kind % 12∧y.Kind % 12≤11):=by omega
 have hw:W (1+y.Value % 9)=1+y.Value % 9:=a2G (by omega)
 rcases hk with hk|hk|hk|hk|hk|hk|hk|hk
 iterate 2
  · rw [hk]
    simp only [Int.reduceBEq,Int.reduceBNe,beq_self_eq_true,if_true,Bool.false_eq_true,if_false]
    rw [a4w y.Night (by omega),a4w y.Value (by omega)]
    simp only [Option.bind_some]
    rw [hw,b1s]
    have op:=fin (b1r h hx (n:=y.Night % 3) (v:=1+y.Value % 9) (by omega) (by omega))
    generalize a0V x (y.Night % 3) (1+y.Value % 9)=r at op⊢
    obtain⟨r1,r2⟩:=r
    rcases op with⟨_,e,e'⟩|⟨e,op⟩
    · simp only [Option.bind_some,e,if_true,e']
      exact⟨_,rfl,Nx.self h⟩
    · simp only [Option.bind_some,e,Bool.false_eq_true,if_false]
      exact⟨_,rfl,Nx.set op⟩
 · rw [hk]
   simp only [Int.reduceBEq,Int.reduceBNe,beq_self_eq_true,if_true,Bool.false_eq_true,if_false]
   obtain⟨T,to_,f,u,ha,hd⟩:=c2K y
   obtain⟨d1,d2,d3,d4,d5,d6⟩:=hd
   rw [ha]
   simp only [Option.bind_some]
   rw [c2s]
   have op:=fin (c3n h hx (a:=T) (b:=to_) (c:=f) (d:=u) d2 d4 (by omega) (by omega) (by omega))
   generalize b0m x T to_ f u=r at op⊢
   obtain⟨r1,r2⟩:=r
   rcases op with⟨_,e,e'⟩|⟨e,op⟩
   · simp only [Option.bind_some,e,if_true,e']
     exact⟨_,rfl,Nx.self h⟩
   · simp only [Option.bind_some,e,Bool.false_eq_true,if_false]
     exact⟨_,rfl,Nx.set op⟩
 · rw [hk]
   simp only [Int.reduceBEq,Int.reduceBNe,beq_self_eq_true,if_true,Bool.false_eq_true,if_false]
   have hl:=(h.v x hm).1.nloans
   by_cases h0:(x.Now.Loans.length:Int)=0
   · rw [if_pos (by rw [beq_iff_eq];exact h0)]
     exact⟨_,rfl,Nx.self h⟩
   · rw [if_neg (by rw [beq_iff_eq];exact h0),a4w y.Pick (by omega)]
     simp only [Option.bind_some]
     have p1:=Int.emod_nonneg y.Pick h0
     have p2:=Int.emod_lt_of_pos y.Pick (show 0<(x.Now.Loans.length:Int) by omega)
     have hlt:(y.Pick % (x.Now.Loans.length:Int)).toNat<x.Now.Loans.length:=by omega
     have hj:idx x.Now.Loans (y.Pick % (x.Now.Loans.length:Int))=some x.Now.Loans[(y.Pick % (x.Now.Loans.length:Int)).toNat]:=by
      have:=O6 (List.getElem?_eq_getElem hlt)
      rwa [Int.toNat_of_nonneg p1]at this
     have ho:=(h.v x hm).1.loans _ (List.getElem_mem hlt)
     rw [hj]
     simp only [Option.bind_some]
     rw [a4w y.Long (by omega)]
     simp only [Option.bind_some]
     rw [b8Q]
     generalize x.Now.Loans[(y.Pick % (x.Now.Loans.length:Int)).toNat]=z at ho⊢
     have op:=fin (b9k h hx (o:=z.Owner) (n:=z.No) (m:=W (z.From+y.Long % 130)) ho.1)
     generalize a9n x z.Owner z.No (W (z.From+y.Long % 130))=r at op⊢
     obtain⟨r1,r2⟩:=r
     rcases op with⟨_,e,e'⟩|⟨e,op⟩
     · simp only [Option.bind_some,e,if_true,e']
       exact⟨_,rfl,Nx.self h⟩
     · simp only [Option.bind_some,e,Bool.false_eq_true,if_false]
       exact⟨_,rfl,Nx.set op⟩
 iterate 2
  · rw [hk]
    simp only [Int.reduceBEq,Int.reduceBNe,beq_self_eq_true,if_true,Bool.false_eq_true,if_false]
    have hs:=h.v x hm
    have hwr:a9D x=(⟨x.Me,x.Now,x.Now⟩,0):=b6f hs.1 hs.2
    rw [b5V,hwr]
    simp only [Option.bind_some,bne_self_eq_false,Bool.false_eq_true,if_false]
    have hk':=(List.getElem?_eq_some_iff.1 hx).1
    rw [b9R (w:=⟨w.all.set (y.Depot % 6).toNat ⟨x.Me,x.Now,x.Now⟩,w.calls,w.told⟩) (d:=y.Depot % 6) (x:=⟨x.Me,x.Now,x.Now⟩) (by omega) (by show(w.all.set _ _)[_]?=_;rw [List.getElem?_set_self hk']) ⟨hs.1,hs.1⟩ (by show w.calls.length≤_;omega)]
    exact⟨_,rfl,Nx.called h hx⟩
 · rw [hk]
   simp only [Int.reduceBEq,Int.reduceBNe,beq_self_eq_true,if_true,Bool.false_eq_true,if_false]
   have hs:=h.v x hm
   have hfl:b8o x=(⟨x.Me,x.Safe,x.Safe⟩,0):=by unfold b8o;rw [if_pos hs]
   rw [c3s,hfl]
   simp only [Option.bind_some,bne_self_eq_false,Bool.false_eq_true,if_false]
   exact⟨_,rfl,Nx.fail hx (h.fail hx)⟩
 · have b:∀k:Int,0≤k→k≤6→(y.Kind % 12==k)=false:=fun k _ _=>by rw [beq_eq_false_iff_ne];omega
   have b':∀k:Int,0≤k→k≤6→(y.Kind % 12 !=k)=true:=fun k _ _=>by rw [bne_iff_ne];omega
   simp only [b 0 (by omega) (by omega),b 1 (by omega) (by omega),b 2 (by omega) (by omega),b 3 (by omega) (by omega),b 4 (by omega) (by omega),b 5 (by omega) (by omega),b 6 (by omega) (by omega),b' 4 (by omega) (by omega),b' 5 (by omega) (by omega),b' 6 (by omega) (by omega),Bool.false_eq_true,if_false,if_true]
   by_cases h0:(w.calls.length:Int)=0
   · rw [if_pos (by rw [beq_iff_eq];exact h0)]
     exact⟨_,rfl,Nx.self h⟩
   · rw [if_neg (by rw [beq_iff_eq];exact h0),a4w y.Pick (by omega)]
     simp only [Option.bind_some]
     have p1:=Int.emod_nonneg y.Pick h0
     have p2:=Int.emod_lt_of_pos y.Pick (show 0<(w.calls.length:Int) by omega)
     have hlt:(y.Pick % (w.calls.length:Int)).toNat<w.calls.length:=by omega
     have hj:idx w.calls (y.Pick % (w.calls.length:Int))=some w.calls[(y.Pick % (w.calls.length:Int)).toNat]:=by
      have:=O6 (List.getElem?_eq_getElem hlt)
      rwa [Int.toNat_of_nonneg p1]at this
     have hc:=List.getElem_mem hlt
     rw [hj]
     simp only [Option.bind_some]
     generalize w.calls[(y.Pick % (w.calls.length:Int)).toNat]=c at hc⊢
     have hto:=(h.g.ok c hc).to_
     obtain⟨z,hz,hzm⟩:=h.at_ hto
     have hi2:idx w.all c.To=some z:=by
      have:=O6 hz
      rwa [Int.toNat_of_nonneg hto.1]at this
     rw [if_neg (by rw [decide_eq_true_eq];omega),if_neg (by rw [decide_eq_true_eq];omega),hi2]
     simp only [Option.bind_some]
     rw [b8f]
     have op:=c2M h hz hc hzm.symm
     generalize b2g z c=r at op⊢
     obtain⟨r1,r2⟩:=r
     rcases op with op|⟨op,op'⟩
     · have e:(r2 !=0)=true:=by
        rw [bne_iff_ne]
        rcases op with e|e|e|e|e<;>(simp only at e;omega)
       simp only [Option.bind_some,e,if_true,c3I op]
       exact⟨_,rfl,Nx.self h⟩
     · have e:(r2 !=0)=false:=by simp only at op;rw [op];rfl
       simp only [Option.bind_some,e,Bool.false_eq_true,if_false]
       exact⟨_,rfl,Nx.set op'⟩
end Go.Proofs.YtcedmbakcchkiaaGreatDoor
namespace Go.Proofs.YtcedmbakcchkiaaGreatDoor
open Go Go.Sx
open Classical
set_option maxRecDepth 100000 in theorem mwith_f : ∀ (m : Fin 64) (d : Fin 6), S8 (S8 m.val d.val) d.val = S8 m.val d.val ∧ a1s (S8 m.val d.val) d.val = true := by decide +kernel
theorem b0q {m d:Int} (hm:0≤m∧m≤63) (hd:0≤d∧d≤5):S8 (S8 m d) d=S8 m d∧a1s (S8 m d) d=true:=by
 have:=mwith_f ⟨m.toNat,by omega⟩ ⟨d.toNat,by omega⟩
 simpa only [Int.toNat_of_nonneg hm.1,Int.toNat_of_nonneg hd.1]using this
end Go.Proofs.YtcedmbakcchkiaaGreatDoor
namespace Go.Proofs.YtcedmbakcchkiaaGreatDoor
open Go Go.Sx
open Classical
structure a8M (n B:Int) (s:c8):Prop where
 sl:∀t:d0,t∈s.Slots→t.Night=n→t.Promised≤B
 bd:∀b:d9,b∈s.Bids→b.Night=n→b.Ballot≤B
def b7K (n B:Int) (c:b8):Prop:=c.Kind=1∨c.Kind=3→c.Night=n→c.Ballot≤B
theorem Em.good {n B i:Int} {s:c8} (h:a8M n B s) {c:b8} (e:Em i s c):b7K n B c:=by
 intro hk hn
 cases e with
 |acc b to_ hb ha ht=>exact h.bd b hb hn
 |prep b to_ hb ht=>exact h.bd b hb hn
 |pro t hs hp=>rcases hk with hk|hk<;>(simp only at hk;omega)
 |acd t to_ hs hb ht=>rcases hk with hk|hk<;>(simp only at hk;omega)
 |grant l hl=>rcases hk with hk|hk<;>(simp only at hk;omega)
 |back y hy hb=>rcases hk with hk|hk<;>(simp only at hk;omega)
theorem a3n {s t:c8} {c:b8} (e:N0 s c=some t):t.Slots=s.Slots∨(c.Kind=1∧t.Slots=upd (S4 c.Night) (C4 c) (a0d c) s.Slots)∨(c.Kind=3∧t.Slots=upd (S4 c.Night) (C4 c) (a3y c) s.Slots):=by
 unfold N0 at e
 split at e
 · rename_i k
   split at e
   · cases e;exact .inr (.inl ⟨k,rfl⟩)
   · cases e
 · split at e
   · cases e;exact .inl rfl
   · split at e
     · rename_i k
       split at e
       · cases e;exact .inr (.inr ⟨k,rfl⟩)
       · cases e
     · split at e
       · split at e
         · cases e;exact .inl rfl
         · cases e
       · split at e
         · split at e
           · cases e;exact .inl rfl
           · cases e
         · cases e;exact .inl rfl
theorem a4e {s t:c8} {c:b8} (e:N0 s c=some t):(c.Kind≠2∧t.Bids=s.Bids)∨(c.Kind=2∧t.Bids=s.Bids.map (Z9 c)):=by
 unfold N0 at e
 split at e
 · rename_i k
   split at e
   · cases e;exact .inl ⟨by omega,rfl⟩
   · cases e
 · split at e
   · rename_i k;cases e;exact .inr ⟨k,rfl⟩
   · rename_i k
     split at e
     · split at e
       · cases e;exact .inl ⟨k,rfl⟩
       · cases e
     · split at e
       · split at e
         · cases e;exact .inl ⟨k,rfl⟩
         · cases e
       · split at e
         · split at e
           · cases e;exact .inl ⟨k,rfl⟩
           · cases e
         · cases e;exact .inl ⟨k,rfl⟩
theorem b0b {s t:c8} {c:b8} (e:N0 s c=some t):(c.Kind≠4∧t.Heard=s.Heard)∨(c.Kind=4∧t.Heard=upd (a0B c.Ballot c.Night) (L7 c) (U5 c) s.Heard):=by
 unfold N0 at e
 split at e
 · rename_i k
   split at e
   · cases e;exact .inl ⟨by omega,rfl⟩
   · cases e
 · split at e
   · rename_i k;cases e;exact .inl ⟨by omega,rfl⟩
   · split at e
     · rename_i k
       split at e
       · cases e;exact .inl ⟨by omega,rfl⟩
       · cases e
     · split at e
       · rename_i k
         split at e
         · cases e;exact .inr ⟨k,rfl⟩
         · cases e
       · rename_i k
         split at e
         · split at e
           · cases e;exact .inl ⟨k,rfl⟩
           · cases e
         · cases e;exact .inl ⟨k,rfl⟩
theorem a8M.slots {n B:Int} {s:c8} (h:a8M n B s) {c:b8} (h6:0≤B) (hc:c.Night=n→c.Ballot≤B) {f:d0→d0} (hn:∀x,(f x).Night=x.Night) (hf:∀t,(f t).Promised=t.Promised∨(f t).Promised=c.Ballot):∀t,t∈upd (S4 c.Night) (C4 c) f s.Slots→t.Night=n→t.Promised≤B:=fun t ht e=>by
 rcases Z3 ht with q|ht|⟨z,hz,h0,q⟩
 · have hcn:c.Night=n:=by rw [←e,q,hn];rfl
   rcases hf (C4 c)with r|r
   · rw [q,r];exact h6
   · rw [q,r];exact hc hcn
 · exact h.sl t ht e
 · have hcn:c.Night=n:=by rw [←e,q,hn];exact((W7 _ _).2.1 h0).symm
   rcases hf z with r|r
   · rw [q,r];exact h.sl z hz (by rw [←hn,←q];exact e)
   · rw [q,r];exact hc hcn
theorem a8M.hear {n B:Int} {s t:c8} (h:a8M n B s) (h6:0≤B) {c:b8} (hc:b7K n B c) (e:N0 s c=some t):a8M n B t where
 sl:=by
  rcases a3n e with q|⟨k,q⟩|⟨k,q⟩
  · rw [q];exact h.sl
  · rw [q];exact h.slots h6 (hc (.inl k)) (a1h c) fun t=>by unfold a0d;split<;>first|exact .inr rfl|exact .inl rfl
  · rw [q];exact h.slots h6 (hc (.inr k)) (a3e c) fun t=>by unfold a3y;split<;>first|exact .inr rfl|exact .inl rfl
 bd:=by
  rcases a4e e with⟨_,q⟩|⟨_,q⟩
  · rw [q];exact h.bd
  · rw [q]
    intro b hb hn
    obtain⟨a,ha,rfl⟩:=List.mem_map.1 hb
    rw [(P2 c a).2]
    exact h.bd a ha (by rw [←(P2 c a).1];exact hn)
def Pr (n B:Int) (s:c8):Prop:=∃t,t∈s.Slots∧t.Night=n∧t.Promised=B
def Ac (n B:Int) (s:c8):Prop:=∃t,t∈s.Slots∧t.Night=n∧t.Ballot=B
def Bd (n B:Int) (s:c8):Prop:=∃b,b∈s.Bids∧b.Night=n∧b.Ballot=B
def Mk (n B k:Int) (s:c8):Prop:=∃b,b∈s.Bids∧b.Night=n∧b.Ballot=B∧(b.Asked=true∨a1s b.Mask k=true)
def As (n B:Int) (s:c8):Prop:=∃b,b∈s.Bids∧b.Night=n∧b.Ballot=B∧b.Asked=true
def He (n B k:Int) (s:c8):Prop:=∃h,h∈s.Heard∧h.Night=n∧h.Ballot=B∧a1s h.Mask k=true
theorem a7s {α:Type} {c:α→Int} {new:α} {f:α→α} (h0:c new=0):∀ {l:List α},∃x,(x∈l∨x=new)∧c x=0∧f x∈upd c new f l
 | []=>⟨new, .inr rfl,h0,by simp [upd]⟩
 |x::l=>by
  unfold upd
  by_cases h1:c x<0
  · obtain⟨y,h2,h3,h4⟩:=a7s (f:=f) h0 (l:=l)
    rw [if_pos h1]
    exact⟨y,h2.imp (List.mem_cons_of_mem _) id,h3,List.mem_cons_of_mem _ h4⟩
  · by_cases h2:c x=0
    · rw [if_neg h1,if_pos h2]
      exact⟨x, .inl List.mem_cons_self,h2,List.mem_cons_self⟩
    · rw [if_neg h1,if_neg h2]
      exact⟨new, .inr rfl,h0,List.mem_cons_self⟩
section
variable {n B k me : Int} {s t : c8} {c : b8}
theorem Pr.hear (p:Pr n B s) (hb:a8M n B s) (hc:b7K n B c) (e:N0 s c=some t):Pr n B t:=by
 obtain⟨u,u1,u2,u3⟩:=p
 have key:∀f:d0→d0,(∀x,(f x).Night=x.Night)→(c.Night=n→(f u).Promised=B)→Pr n B ⟨s.Round,upd (S4 c.Night) (C4 c) f s.Slots,s.Bids,s.Heard,s.Leases,s.Loans⟩:=fun f hn hf=>by
  rcases a3i (c:=S4 c.Night) (new:=C4 c) (f:=f) u1 with q|⟨h0,q⟩
  · exact⟨u,q,u2,u3⟩
  · exact⟨f u,q,by rw [hn];exact u2,hf (by rw [←u2];exact((W7 _ _).2.1 h0).symm)⟩
 rcases a3n e with q|⟨k,q⟩|⟨k,q⟩
 · exact⟨u,by rw [q];exact u1,u2,u3⟩
 · have:=key (a0d c) (a1h c) fun hn=>by
    have:=hc (.inl k) hn
    unfold a0d;rw [if_neg (by omega)];exact u3
   obtain⟨v,v1,v2⟩:=this
   exact⟨v,by rw [q];exact v1,v2⟩
 · have:=key (a3y c) (a3e c) fun hn=>by
    have:=hc (.inr k) hn
    unfold a3y
    split
    · simp only;omega
    · exact u3
   obtain⟨v,v1,v2⟩:=this
   exact⟨v,by rw [q];exact v1,v2⟩
theorem Ac.hear (p:Ac n B s) (h:j5 me s) (hb:a8M n B s) (hc:b7K n B c) (e:N0 s c=some t):Ac n B t:=by
 obtain⟨u,u1,u2,u3⟩:=p
 have hp:u.Promised=B:=by
  have:=hb.sl u u1 u2
  have:=a8P (h.slots u u1)
  omega
 have key:∀f:d0→d0,(∀x,(f x).Night=x.Night)→(c.Night=n→(f u).Ballot=B)→Ac n B ⟨s.Round,upd (S4 c.Night) (C4 c) f s.Slots,s.Bids,s.Heard,s.Leases,s.Loans⟩:=fun f hn hf=>by
  rcases a3i (c:=S4 c.Night) (new:=C4 c) (f:=f) u1 with q|⟨h0,q⟩
  · exact⟨u,q,u2,u3⟩
  · exact⟨f u,q,by rw [hn];exact u2,hf (by rw [←u2];exact((W7 _ _).2.1 h0).symm)⟩
 rcases a3n e with q|⟨k,q⟩|⟨k,q⟩
 · exact⟨u,by rw [q];exact u1,u2,u3⟩
 · have:=key (a0d c) (a1h c) fun hn=>by
    unfold a0d
    split
    · exact u3
    · exact u3
   obtain⟨v,v1,v2⟩:=this
   exact⟨v,by rw [q];exact v1,v2⟩
 · have:=key (a3y c) (a3e c) fun hn=>by
    have:=hc (.inr k) hn
    unfold a3y
    split
    · simp only;omega
    · exact u3
   obtain⟨v,v1,v2⟩:=this
   exact⟨v,by rw [q];exact v1,v2⟩
theorem Pr.gain (hb:a8M n B t) (e:N0 s c=some t) (k:c.Kind=1) (hn:c.Night=n) (hB:c.Ballot=B):Pr n B t:=by
 rcases a3n e with q|⟨k',q⟩|⟨k',q⟩
 · unfold N0 at e
   rw [if_pos k]at e
   split at e
   · cases e
     obtain⟨x,_,h0,h1⟩:=a7s (c:=S4 c.Night) (new:=C4 c) (f:=a0d c) ((W7 _ _).2.2 rfl) (l:=s.Slots)
     have hx:(a0d c x).Night=n:=by rw [a1h,←hn];exact(W7 _ _).2.1 h0
     have:=hb.sl _ h1 hx
     refine⟨_,h1,hx, ?_⟩
     unfold a0d at this⊢
     split
     · exact hB
     · rename_i r;rw [if_neg r]at this;omega
   · cases e
 · obtain⟨x,_,h0,h1⟩:=a7s (c:=S4 c.Night) (new:=C4 c) (f:=a0d c) ((W7 _ _).2.2 rfl) (l:=s.Slots)
   rw [←q]at h1
   have hx:(a0d c x).Night=n:=by rw [a1h,←hn];exact(W7 _ _).2.1 h0
   have:=hb.sl _ h1 hx
   refine⟨_,h1,hx, ?_⟩
   unfold a0d at this⊢
   split
   · exact hB
   · rename_i r;rw [if_neg r]at this;omega
 · omega
theorem Ac.gain (hb:a8M n B s) (h6:0≤B) (e:N0 s c=some t) (k:c.Kind=3) (hn:c.Night=n) (hB:c.Ballot=B):Ac n B t:=by
 have hu:t.Slots=upd (S4 c.Night) (C4 c) (a3y c) s.Slots:=by
  unfold N0 at e
  rw [if_neg (by omega),if_neg (by omega),if_pos k]at e
  split at e
  · cases e;rfl
  · cases e
 obtain⟨x,hx,h0,h1⟩:=a7s (c:=S4 c.Night) (new:=C4 c) (f:=a3y c) ((W7 _ _).2.2 rfl) (l:=s.Slots)
 rw [←hu]at h1
 have hxn:x.Night=n:=by rw [←hn];exact(W7 _ _).2.1 h0
 have hp:x.Promised≤B:=by
  rcases hx with hx|hx
  · exact hb.sl x hx hxn
  · rw [hx];exact h6
 refine⟨_,h1,by rw [a3e];exact hxn, ?_⟩
 unfold a3y
 rw [if_pos (by omega)]
 exact hB
theorem b0v (c:b8) (b:d9) (hm:0≤b.Mask∧b.Mask≤63) (hd:0≤c.From∧c.From≤5) (hk:0≤k∧k≤5):((b.Asked=true→(Z9 c b).Asked=true)∧(b.Asked=true∨a1s b.Mask k=true→(Z9 c b).Asked=true∨a1s (Z9 c b).Mask k=true)):=by
 unfold Z9
 split
 · rename_i q
   refine⟨fun h=>(by rw [q.2.2.1]at h;cases h),fun h=> ?_⟩
   rcases h with h|h
   · rw [q.2.2.1]at h;cases h
   · right
     have:=mhas_f ⟨b.Mask.toNat,by omega⟩ ⟨c.From.toNat,by omega⟩ ⟨k.toNat,by omega⟩
     simp only [Int.toNat_of_nonneg hm.1,Int.toNat_of_nonneg hd.1,Int.toNat_of_nonneg hk.1]at this
     rw [this,h];rfl
 · exact⟨id,id⟩
theorem Bd.hear (p:Bd n B s) (e:N0 s c=some t):Bd n B t:=by
 obtain⟨b,b1,b2,b3⟩:=p
 rcases a4e e with⟨_,q⟩|⟨_,q⟩
 · exact⟨b,by rw [q];exact b1,b2,b3⟩
 · exact⟨Z9 c b,by rw [q];exact List.mem_map.2 ⟨b,b1,rfl⟩,by rw [(P2 c b).1];exact b2,by rw [(P2 c b).2];exact b3⟩
theorem As.hear (p:As n B s) (h:j5 me s) (hc:a4q c) (e:N0 s c=some t):As n B t:=by
 obtain⟨b,b1,b2,b3,b4⟩:=p
 rcases a4e e with⟨_,q⟩|⟨_,q⟩
 · exact⟨b,by rw [q];exact b1,b2,b3,b4⟩
 · exact⟨Z9 c b,by rw [q];exact List.mem_map.2 ⟨b,b1,rfl⟩,by rw [(P2 c b).1];exact b2,by rw [(P2 c b).2];exact b3,(b0v (k:=0) c b (h.bids b b1).2.2.2.2.2.1 hc.from_ (by omega)).1 b4⟩
theorem Mk.hear (p:Mk n B k s) (hk:0≤k∧k≤5) (h:j5 me s) (hc:a4q c) (e:N0 s c=some t):Mk n B k t:=by
 obtain⟨b,b1,b2,b3,b4⟩:=p
 rcases a4e e with⟨_,q⟩|⟨_,q⟩
 · exact⟨b,by rw [q];exact b1,b2,b3,b4⟩
 · exact⟨Z9 c b,by rw [q];exact List.mem_map.2 ⟨b,b1,rfl⟩,by rw [(P2 c b).1];exact b2,by rw [(P2 c b).2];exact b3,(b0v c b (h.bids b b1).2.2.2.2.2.1 hc.from_ hk).2 b4⟩
theorem Mk.gain (p:Bd n B s) (h:j5 me s) (hc:a4q c) (e:N0 s c=some t) (k2:c.Kind=2) (hn:c.Night=n) (hB:c.Ballot=B) (hf:c.From=k):Mk n B k t:=by
 obtain⟨b,b1,b2,b3⟩:=p
 rcases a4e e with⟨q,_⟩|⟨_,q⟩
 · omega
 · refine⟨Z9 c b,by rw [q];exact List.mem_map.2 ⟨b,b1,rfl⟩,by rw [(P2 c b).1];exact b2,by rw [(P2 c b).2];exact b3, ?_⟩
   have hm:=(h.bids b b1).2.2.2.2.2.1
   unfold Z9
   split
   · right
     rw [←hf]
     exact(b0q hm hc.from_).2
   · rename_i r
     by_cases ha:b.Asked=true
     · exact .inl ha
     · right
       by_cases hh:a1s b.Mask k=true
       · exact hh
       · exact absurd ⟨by omega,by omega,by simpa using ha,by rw [hf];simpa using hh⟩ r
theorem j5.heard1 {i:Int} {s:c8} (h:j5 i s) {a b:c9} (ha:a∈s.Heard) (hb:b∈s.Heard) (e:a.Night=b.Night) (e':a.Ballot=b.Ballot):a=b:=
 b6k (a0m (fun a b c q r=>by unfold a3O at*;omega) (fun a q=>by unfold a3O at q;omega) h.rheard) ha hb (fun q=>by unfold a3O at q;omega) (fun q=>by unfold a3O at q;omega)
theorem He.hear (p:He n B k s) (hk:0≤k∧k≤5) (h:j5 me s) (hc:a4q c) (e:N0 s c=some t):He n B k t:=by
 obtain⟨y,y1,y2,y3,y4⟩:=p
 rcases b0b e with⟨_,q⟩|⟨_,q⟩
 · exact⟨y,by rw [q];exact y1,y2,y3,y4⟩
 · rcases a3i (c:=a0B c.Ballot c.Night) (new:=L7 c) (f:=U5 c) y1 with r|⟨h0,r⟩
   · exact⟨y,by rw [q];exact r,y2,y3,y4⟩
   · refine⟨U5 c y,by rw [q];exact r,by rw [(a2b c y).1];exact y2,by rw [(a2b c y).2.1];exact y3, ?_⟩
     unfold U5
     split
     · have hm:=(h.heard y y1).2.2.2.2
       have hd:=hc.from_
       have:=mhas_f ⟨y.Mask.toNat,by omega⟩ ⟨c.From.toNat,by omega⟩ ⟨k.toNat,by omega⟩
       simp only [Int.toNat_of_nonneg hm.1,Int.toNat_of_nonneg hd.1,Int.toNat_of_nonneg hk.1]at this
       show a1s (S8 y.Mask c.From) k=true
       rw [this,y4];rfl
     · exact y4
theorem He.gain {C:List b8} (g:GC C) (hj:J C me s) (h:j5 me s) (hcC:c∈C) (e:N0 s c=some t) (k4:c.Kind=4) (hn:c.Night=n) (hB:c.Ballot=B) (hf:c.From=k):He n B k t:=by
 have hc:=g.ok c hcC
 rcases b0b e with⟨q,_⟩|⟨_,q⟩
 · omega
 · obtain⟨x,hx,h0,h1⟩:=a7s (c:=a0B c.Ballot c.Night) (new:=L7 c) (f:=U5 c) ((a4z _ _ _).2.2 ⟨rfl,rfl⟩) (l:=s.Heard)
   rw [←q]at h1
   obtain⟨e1,e2⟩:=(a4z _ _ _).2.1 h0
   have hv:x.Value=c.Value:=by
    rcases hx with hx|hx
    · have ho:=h.heard x hx
      obtain⟨m1,m2,m3,m4,m5⟩:=ho
      have:∃j,(0≤j∧j≤5)∧a1s x.Mask j=true:=by
       have key:∀m:Fin 64,m.val≠0→∃j:Fin 6,a1s m.val j.val=true:=by decide+kernel
       obtain⟨j,hj⟩:=key ⟨x.Mask.toNat,by omega⟩ (by simp only;omega)
       simp only [Int.toNat_of_nonneg m5.1]at hj
       exact⟨(j.val:Int),by omega,hj⟩
      obtain⟨j,hj1,hj2⟩:=this
      obtain⟨a,a1,a2,a3,a4,a5,a6⟩:=hj.p9 x hx j hj1 hj2
      have r1:=g.g5 a a1 a2
      have r2:=g.g5 c hcC k4
      rw [a4,a5,a6,e1,e2]at r1
      exact g.acc_eq r1 r2
    · rw [hx];rfl
   have hm:0≤x.Mask∧x.Mask≤63:=by
    rcases hx with hx|hx
    · exact(h.heard x hx).2.2.2.2
    · rw [hx];exact⟨Int.le_refl _,by simp [L7]⟩
   refine⟨U5 c x,h1,by rw [(a2b c x).1];omega,by rw [(a2b c x).2.1];omega, ?_⟩
   unfold U5
   rw [if_pos hv,←hf]
   exact(b0q hm hc.from_).2
end
end Go.Proofs.YtcedmbakcchkiaaGreatDoor
namespace Go.Proofs.YtcedmbakcchkiaaGreatDoor
open Go Go.Sx
open Classical
noncomputable def M8:List b8→List a8→Option (List a8)
 | [],A=>some A
 |c::L,A=>match A[c.To.toNat]? with
  |some x=>match N0 x.Now c with
   |some t=>M8 L (A.set c.To.toNat ⟨x.Me,t,x.Safe⟩)
   |none=>none
  |none=>none
theorem a6N:∀ {L M:List b8} {A:List a8},M8 (L++M) A=Option.bind (M8 L A) (M8 M)
 | [],M,A=>rfl
 |c::L,M,A=>by
  rw [List.cons_append,M8,M8]
  cases A[c.To.toNat]? with
  |none=>rfl
  |some x=>
   simp only
   cases N0 x.Now c with
   |none=>rfl
   |some t=>exact a6N
structure Rd (n B:Int) (C:List b8) (A:List a8):Prop where
 inv:Inv C A
 base:∀x,x∈A→a8M n B x.Now
def Okc (n B:Int) (C L:List b8):Prop:=∀c,c∈L→c∈C∧b7K n B c
def b3a (n B:Int) (C:List b8) (P:Int→c8→Prop):Prop:=∀me s t c,j5 me s→J C me s→a8M n B s→c∈C→a4q c→b7K n B c→N0 s c=some t→P me s→P me t
section
variable {n B : Int} {C : List b8} {A A' : List a8}
theorem Rd.one (h:Rd n B C A) (h6:0≤B) {c:b8} (hc:c∈C) (hg:b7K n B c) {k:Nat} {x:a8} (hk:c.To.toNat=k) (hx:A[k]?=some x) {t:c8} (e:N0 x.Now c=some t):Rd n B C (A.set k ⟨x.Me,t,x.Safe⟩):=by
 have hto:=(h.inv.g.ok c hc).to_
 have hme:=h.inv.me k x hx
 refine⟨h.inv.hear hx hc (by omega) e,fun y hy=> ?_⟩
 rcases F0 hx hy with rfl|hy
 · exact(h.base x (List.mem_of_getElem? hx)).hear h6 hg e
 · exact h.base y hy
theorem Rd.all (h6:0≤B):∀ {L:List b8} {A:List a8},Rd n B C A→Okc n B C L→M8 L A=some A'→Rd n B C A'
 | [],A,h,_,e=>by
  cases e;exact h
 |c::L,A,h,hL,e=>by
  rw [M8]at e
  obtain⟨hc,hg⟩:=hL c List.mem_cons_self
  cases hx:A[c.To.toNat]? with
  |none=>rw [hx]at e;cases e
  |some x=>
   rw [hx]at e
   simp only at e
   cases ht:N0 x.Now c with
   |none=>rw [ht]at e;cases e
   |some t=>
    rw [ht]at e
    exact Rd.all h6 (h.one h6 hc hg rfl hx ht) (fun c hc=>hL c (List.mem_cons_of_mem _ hc)) e
theorem Rd.keep (h6:0≤B) {P:Int→c8→Prop} (hP:b3a n B C P) {k:Nat}:∀ {L:List b8} {A:List a8},Rd n B C A→Okc n B C L→M8 L A=some A'→(∃x,A[k]?=some x∧P x.Me x.Now)→∃x,A'[k]?=some x∧P x.Me x.Now
 | [],A,h,_,e,p=>by
  cases e;exact p
 |c::L,A,h,hL,e,p=>by
  rw [M8]at e
  obtain⟨hc,hg⟩:=hL c List.mem_cons_self
  cases hx:A[c.To.toNat]? with
  |none=>rw [hx]at e;cases e
  |some x=>
   rw [hx]at e
   simp only at e
   cases ht:N0 x.Now c with
   |none=>rw [ht]at e;cases e
   |some t=>
    rw [ht]at e
    refine Rd.keep h6 hP (h.one h6 hc hg rfl hx ht) (fun c hc=>hL c (List.mem_cons_of_mem _ hc)) e ?_
    obtain⟨y,hy,py⟩:=p
    rw [List.getElem?_set]
    by_cases q:c.To.toNat=k
    · rw [if_pos q,if_pos (List.getElem?_eq_some_iff.1 hx).1]
      rw [q,hy]at hx
      obtain rfl:=Option.some.inj hx
      have hm:=List.mem_of_getElem? hy
      exact⟨_,rfl,hP y.Me y.Now t c (h.inv.v y hm).1 (h.inv.j y hm _ (.inl rfl)) (h.base y hm) hc (h.inv.g.ok c hc) hg ht py⟩
    · rw [if_neg q]
      exact⟨y,hy,py⟩
theorem Rd.gain (h6:0≤B) {P Q:Int→c8→Prop} (hP:b3a n B C P) (hQ:b3a n B C Q) {k:Nat} {L:List b8} (h:Rd n B C A) (hL:Okc n B C L) (e:M8 L A=some A') (q:∃x,A[k]?=some x∧Q x.Me x.Now) {c:b8} (hc:c∈L) (hto:c.To.toNat=k)
 (g:∀me s t,j5 me s→J C me s→a8M n B s→a8M n B t→N0 s c=some t→Q me s→P me t):∃x,A'[k]?=some x∧P x.Me x.Now:=by
 obtain⟨M,N,rfl⟩:=List.append_of_mem hc
 rw [a6N]at e
 cases e1:M8 M A with
 |none=>rw [e1]at e;cases e
 |some A1=>
  rw [e1]at e
  have e:M8 (c::N) A1=some A':=e
  have hM:Okc n B C M:=fun c hc=>hL c (List.mem_append_left _ hc)
  have h1:=Rd.all h6 h hM e1
  obtain⟨x,hx,px⟩:=Rd.keep h6 hQ h hM e1 q
  rw [M8,hto,hx]at e
  simp only at e
  obtain⟨hcC,hg⟩:=hL c hc
  cases ht:N0 x.Now c with
  |none=>rw [ht]at e;cases e
  |some t=>
   rw [ht]at e
   have h2:=h1.one h6 hcC hg hto hx ht
   have hm:=List.mem_of_getElem? hx
   have hlt:=(List.getElem?_eq_some_iff.1 hx).1
   refine Rd.keep h6 hP h2 (fun c hc=>hL c (List.mem_append_right _ (List.mem_cons_of_mem _ hc))) e ⟨⟨x.Me,t,x.Safe⟩,by rw [List.getElem?_set_self hlt], ?_⟩
   have hb:=h1.base x hm
   exact g x.Me x.Now t (h1.inv.v x hm).1 (h1.inv.j x hm _ (.inl rfl)) hb (hb.hear h6 hg ht) ht px
end
def wr (x:a8):a8:=⟨x.Me,x.Now,x.Now⟩
def wrote (A:List a8) (j:Nat):List a8:=(A.take j).map wr++A.drop j
theorem b3L (A:List a8) (j:Nat):(wrote A j).length=A.length:=by unfold wrote;simp;omega
theorem b5g {A:List a8} {j:Nat} (hj:j<A.length):(wrote A j)[j]?=some A[j]:=by
 unfold wrote
 rw [List.getElem?_append_right (by simp;omega)]
 simp only [List.length_map,List.length_take]
 rw [show j-min j A.length=0 by omega,List.getElem?_drop]
 simp [List.getElem?_eq_getElem hj]
theorem b8k {A:List a8} {j:Nat} (hj:j<A.length):(wrote A j).set j (wr A[j])=wrote A (j+1):=by
 unfold wrote
 have hl:((A.take j).map wr).length=j:=by simp;omega
 rw [List.set_append_right _ _ (by omega),hl,Nat.sub_self,b4K (List.getElem?_eq_getElem hj),List.set_cons_zero,a7p (List.getElem?_eq_getElem hj),List.map_append,List.append_assoc]
 rfl
theorem b3U (A:List a8):wrote A A.length=A.map wr:=by unfold wrote;simp
section
variable {n B : Int} {C : List b8} {A A' : List a8}
theorem Inv.wrote (h:Inv C A):∀j,j≤A.length→Inv C (wrote A j)
 |0,_=>by simpa [Go.Proofs.YtcedmbakcchkiaaGreatDoor.wrote]using h
 |j+1,hj=>by
  have:=(h.wrote j (by omega)).write (b5g (show j<A.length by omega))
  rw [←b8k (by omega)]
  exact this
def P0 (A:List a8) (j:Nat):List b8:=(A.take j).flatMap a8j
theorem a9s {A:List a8} {j:Nat} (hj:j<A.length):P0 A (j+1)=P0 A j++a8j A[j]:=by
 unfold P0
 rw [a7p (List.getElem?_eq_getElem hj),List.flatMap_append,List.flatMap_cons,List.flatMap_nil,List.append_nil]
theorem Inv.out (h:Inv C A) (hs:∀x,x∈A→x.Now=x.Safe):∀j,j≤A.length→Inv (C++P0 A j) A
 |0,_=>by simpa [P0]using h
 |j+1,hj=>by
  have hm:A[j]∈A:=List.getElem_mem (by omega)
  rw [a9s (by omega),←List.append_assoc]
  exact(h.out hs j (by omega)).grow hm (hs _ hm) (b5e _ _)
theorem b9v {c:b8} {j:Nat} (h:c∈P0 A j):∃x,x∈A∧Em x.Me x.Safe c:=by
 unfold P0 at h
 obtain⟨x,hx,hc⟩:=List.mem_flatMap.1 h
 obtain⟨k,hk,hc⟩:=List.mem_flatMap.1 hc
 rw [List.mem_range]at hk
 exact⟨x,List.mem_of_mem_take hx,b6U (by omega) hc⟩
theorem b4P {x:a8} (hx:x∈A) {k:Nat} (hk:k<6) {c:b8} (hc:c∈a5T x.Me (k:Int) x.Safe):c∈P0 A A.length:=by
 unfold P0
 rw [List.take_length]
 exact List.mem_flatMap.2 ⟨x,hx,List.mem_flatMap.2 ⟨k,List.mem_range.2 hk,hc⟩⟩
structure St (n B d:Int) (C:List b8) (A:List a8):Prop where
 rd:Rd n B C A
 h6:6≤B
 hd:0≤d∧d≤5
 mod:B % 6=d
 bid:∃x,A[d.toNat]?=some x∧Bd n B x.Now
def c1U (C:List b8) (A:List a8):List b8:=C++P0 (A.map wr) (A.map wr).length
theorem b7C {x:a8} (h:x∈A.map wr):∃y,y∈A∧x=wr y:=by
 obtain⟨y,hy,e⟩:=List.mem_map.1 h
 exact⟨y,hy,e.symm⟩
theorem a7B {k:Nat} {x:a8} (h:A[k]?=some x):(A.map wr)[k]?=some (wr x):=by rw [List.getElem?_map,h];rfl
theorem St.start {d:Int} (h:St n B d C A):Rd n B (c1U C A) (A.map wr)∧Okc n B (c1U C A) (P0 (A.map wr) (A.map wr).length):=by
 have h1:=h.rd.inv.wrote A.length (Nat.le_refl _)
 rw [b3U]at h1
 have hs:∀x,x∈A.map wr→x.Now=x.Safe:=fun x hx=>by
  obtain⟨y,_,rfl⟩:=b7C hx;rfl
 refine⟨⟨h1.out hs _ (Nat.le_refl _),fun x hx=> ?_⟩,fun c hc=>⟨List.mem_append_right _ hc, ?_⟩⟩
 · obtain⟨y,hy,rfl⟩:=b7C hx
   exact h.rd.base y hy
 · obtain⟨x,hx,e⟩:=b9v hc
   obtain⟨y,hy,rfl⟩:=b7C hx
   exact e.good (h.rd.base y hy)
theorem b8c:b3a n B C (fun _=>Pr n B):=fun _ _ _ _ _ _ hb _ _ hg e p=>p.hear hb hg e
theorem c3b:b3a n B C (fun _=>Ac n B):=fun _ _ _ _ hv _ hb _ _ hg e p=>p.hear hv hb hg e
theorem b8E:b3a n B C (fun _=>Bd n B):=fun _ _ _ _ _ _ _ _ _ _ e p=>p.hear e
theorem c2F:b3a n B C (fun _=>As n B):=fun _ _ _ _ hv _ _ _ hc _ e p=>p.hear hv hc e
theorem c2Z {k:Int} (hk:0≤k∧k≤5):b3a n B C (fun _=>Mk n B k):=fun _ _ _ _ hv _ _ _ hc _ e p=>p.hear hk hv hc e
theorem c2j {k:Int} (hk:0≤k∧k≤5):b3a n B C (fun _=>He n B k):=fun _ _ _ _ hv _ _ _ hc _ e p=>p.hear hk hv hc e
theorem b4F:b3a n B C (fun _ _=>True):=fun _ _ _ _ _ _ _ _ _ _ _ _=>trivial
theorem St.next {d:Int} (h:St n B d C A) (e:M8 (P0 (A.map wr) (A.map wr).length) (A.map wr)=some A'):St n B d (c1U C A) A':=by
 have h0:0≤B:=Int.le_trans (by decide) h.h6
 obtain⟨h1,h2⟩:=h.start
 obtain⟨x,hx,hb⟩:=h.bid
 exact⟨h1.all h0 h2 e,h.h6,h.hd,h.mod,h1.keep h0 b8E h2 e ⟨wr x,a7B hx,hb⟩⟩
def b7f (P:c8→Prop) (A:List a8):Prop:=∀(k:Nat),k<6→∃x,A[k]?=some x∧P x.Now
theorem b5Y {x:a8} {b:d9} (hb:b∈x.Safe.Bids) (k:Int):(if b.Asked=true then(⟨3,x.Me,k,b.Night,b.Ballot,0,b.Value,0,0,0,0⟩:b8)else⟨1,x.Me,k,b.Night,b.Ballot,0,0,0,0,0,0⟩)∈a5T x.Me k x.Safe:=by
 unfold a5T
 refine List.mem_append_left _ (List.mem_flatMap.2 ⟨b,hb, ?_⟩)
 unfold b6c
 by_cases ha:b.Asked=true
 · rw [if_pos ha,if_pos ha];exact List.mem_singleton.2 rfl
 · rw [if_neg ha,if_neg ha];exact List.mem_singleton.2 rfl
theorem St.r1 {d:Int} (h:St n B d C A) (e:M8 (P0 (A.map wr) (A.map wr).length) (A.map wr)=some A'):b7f (Pr n B) A':=by
 intro k hk
 have h0:0≤B:=Int.le_trans (by decide) h.h6
 obtain⟨h1,h2⟩:=h.start
 obtain⟨x,hx,b,hb,b1,b2⟩:=h.bid
 have hlen:=h.rd.inv.len
 obtain⟨z,hz⟩:=a9q (l:=A) (i:=k) (by omega)
 have hc:=b4P (A:=A.map wr) (List.mem_of_getElem? (a7B hx)) hk (b5Y (x:=wr x) hb (k:Int))
 have hq:∃z,(A.map wr)[k]?=some z∧True:=⟨wr z,a7B hz,trivial⟩
 by_cases ha:b.Asked=true
 · rw [if_pos ha]at hc
   exact h1.gain h0 b8c b4F h2 e hq hc rfl fun me s t hv hj hb hb' et _=>by
    have hac:=Ac.gain (n:=n) hb h0 et rfl b1 b2
    obtain⟨u,u1,u2,u3⟩:=hac
    have hok:=(h1.inv.g.ok _ (h2 _ hc).1)
    have hu:t.Slots=upd (S4 b.Night) (C4 ⟨3,(wr x).Me,k,b.Night,b.Ballot,0,b.Value,0,0,0,0⟩) (a3y ⟨3,(wr x).Me,k,b.Night,b.Ballot,0,b.Value,0,0,0,0⟩) s.Slots:=by
     rcases a3n et with q|⟨q,_⟩|⟨_,q⟩
     · unfold N0 at et
       simp only [Int.reduceEq,if_false,if_true]at et
       split at et
       · cases et;rfl
       · cases et
     · cases q
     · exact q
    rw [hu]at u1
    have hle:u.Ballot≤u.Promised:=by
     rcases Z3 u1 with q|q|⟨y,hy,_,q⟩
     · rw [q];unfold a3y;split
       · exact Int.le_refl _
       · exact Int.le_refl _
     · exact a8P (hv.slots u q)
     · rw [q]
       have:=a8P (hv.slots y hy)
       unfold a3y;split
       · exact Int.le_refl _
       · exact this
    rw [←hu]at u1
    have:=hb'.sl u u1 u2
    exact⟨u,u1,u2,by omega⟩
 · rw [if_neg ha]at hc
   exact h1.gain h0 b8c b4F h2 e hq hc rfl fun me s t hv hj hb hb' et _=>Pr.gain hb' et rfl b1 b2
set_option maxRecDepth 100000 in theorem full_f : ∀ m : Fin 64, (∀ k : Fin 6, a1s m.val k.val = true) → qr m.val = true := by decide +kernel
theorem full {m:Int} (hm:0≤m∧m≤63) (h:∀k:Nat,k<6→a1s m (k:Int)=true):qr m=true:=by
 have:=full_f ⟨m.toNat,by omega⟩ (fun k=>by simpa only [Int.toNat_of_nonneg hm.1]using h k.val k.isLt)
 simpa only [Int.toNat_of_nonneg hm.1]using this
theorem St.asked {d:Int} (h:St n B d C A) {z:a8} (hz:z∈A) (p:Ac n B z.Now):∃x,A[d.toNat]?=some x∧As n B x.Now:=by
 obtain⟨u,u1,u2,u3⟩:=p
 obtain⟨c,hc,c3,cn,cb,cv⟩:=(h.rd.inv.j z hz _ (.inl rfl)).p4 u u1 (by have:=h.h6;omega)
 obtain⟨x,hx,_⟩:=h.bid
 have hm:=List.mem_of_getElem? hx
 have hme:=h.rd.inv.me _ x hx
 have hf:c.From=x.Me:=by
  have hd:=h.hd
  have hmod:=h.mod
  rcases(h.rd.inv.g.ok c hc).kind with k|k|⟨_,_,k,_⟩|k|k|k<;>first|(exfalso;omega)|skip
  omega
 obtain⟨_,b,b1,b2,b3⟩:=(h.rd.inv.j x hm _ (.inl rfl)).p7 c hc c3 hf
 have hle:=(h.rd.base x hm).bd b b1 (by omega)
 rcases b3 with⟨b3,_,b5⟩|b3
 · exact⟨x,hx,b,b1,by omega,by omega,b5⟩
 · omega
theorem St.r2 {d:Int} (h:St n B d C A) (hp:b7f (Pr n B) A) (e:M8 (P0 (A.map wr) (A.map wr).length) (A.map wr)=some A'):∃x,A'[d.toNat]?=some x∧As n B x.Now:=by
 have h0:0≤B:=Int.le_trans (by decide) h.h6
 obtain⟨h1,h2⟩:=h.start
 by_cases hq:∃x,A[d.toNat]?=some x∧As n B x.Now
 · obtain⟨x,hx,ha⟩:=hq
   exact h1.keep h0 c2F h2 e ⟨wr x,a7B hx,ha⟩
 · obtain⟨x,hx,hb⟩:=h.bid
   have hd:=h.hd
   have hmk:∀k:Nat,k<6→∃y,A'[d.toNat]?=some y∧Mk n B (k:Int) y.Now:=fun k hk=>by
    obtain⟨z,hz,u,u1,u2,u3⟩:=hp k hk
    have hzm:=List.mem_of_getElem? hz
    have hne:u.Ballot≠B:=fun q=>hq (h.asked hzm ⟨u,u1,u2,q⟩)
    have hle:=a8P ((h.rd.inv.v z hzm).1.slots u u1)
    have hme:=h.rd.inv.me k z hz
    have hc:(⟨2,z.Me,d,u.Night,u.Promised,u.Ballot,u.Value,0,0,0,0⟩:b8)∈a5T (wr z).Me (d.toNat:Int) (wr z).Safe:=by
     unfold a5T
     refine List.mem_append_right _ (List.mem_append_left _ (List.mem_flatMap.2 ⟨u,u1, ?_⟩))
     unfold a9j
     refine List.mem_append_left _ ?_
     rw [Int.toNat_of_nonneg hd.1,if_pos ⟨by rw [u3];exact h.mod,by omega⟩]
     exact List.mem_singleton.2 rfl
    have hc:=b4P (A:=A.map wr) (List.mem_of_getElem? (a7B hz)) (by omega) hc
    exact h1.gain h0 (c2Z (by omega)) b8E h2 e ⟨wr x,a7B hx,hb⟩ hc rfl fun me s t hv hj hb hb' et p=>Mk.gain p hv (h1.inv.g.ok _ (h2 _ hc).1) et rfl u2 u3 hme
   have h3:=(h.next e)
   obtain⟨y,hy,b,b1,b2,b3⟩:=h3.bid
   have hv:=(h3.rd.inv.v y (List.mem_of_getElem? hy)).1
   refine⟨y,hy,b,b1,b2,b3, ?_⟩
   have ho:=hv.bids b b1
   by_cases ha:b.Asked=true
   · exact ha
   · rw [ho.2.2.2.2.2.2]
     refine full ho.2.2.2.2.2.1 fun k hk=> ?_
     obtain⟨y',hy',b',c1,c2,c3,c4⟩:=hmk k hk
     rw [hy]at hy'
     obtain rfl:=Option.some.inj hy'
     have:=hv.bid1 b1 c1 (by omega)
     subst this
     rcases c4 with c4|c4
     · exact absurd c4 ha
     · exact c4
theorem St.r3 {d:Int} (h:St n B d C A) (ha:∃x,A[d.toNat]?=some x∧As n B x.Now) (e:M8 (P0 (A.map wr) (A.map wr).length) (A.map wr)=some A'):b7f (Ac n B) A':=by
 intro k hk
 have h0:0≤B:=Int.le_trans (by decide) h.h6
 obtain⟨h1,h2⟩:=h.start
 obtain⟨x,hx,b,hb,b1,b2,b3⟩:=ha
 have hlen:=h.rd.inv.len
 obtain⟨z,hz⟩:=a9q (l:=A) (i:=k) (by omega)
 have hc:=b4P (A:=A.map wr) (List.mem_of_getElem? (a7B hx)) hk (b5Y (x:=wr x) hb (k:Int))
 rw [if_pos b3]at hc
 exact h1.gain h0 c3b b4F h2 e ⟨wr z,a7B hz,trivial⟩ hc rfl fun me s t hv hj hb hb' et _=>Ac.gain (n:=n) hb h0 et rfl b1 b2
theorem St.r4 {d:Int} (h:St n B d C A) (ha:b7f (Ac n B) A) (e:M8 (P0 (A.map wr) (A.map wr).length) (A.map wr)=some A'):∀k:Nat,k<6→b7f (He n B (k:Int)) A':=by
 intro k hk i hi
 have h0:0≤B:=Int.le_trans (by decide) h.h6
 obtain⟨h1,h2⟩:=h.start
 have hlen:=h.rd.inv.len
 obtain⟨z,hz⟩:=a9q (l:=A) (i:=i) (by omega)
 obtain⟨x,hx,u,u1,u2,u3⟩:=ha k hk
 have hme:=h.rd.inv.me k x hx
 have hc:(⟨4,x.Me,i,u.Night,u.Ballot,0,u.Value,0,0,0,0⟩:b8)∈a5T (wr x).Me (i:Int) (wr x).Safe:=by
  unfold a5T
  refine List.mem_append_right _ (List.mem_append_left _ (List.mem_flatMap.2 ⟨u,u1, ?_⟩))
  unfold a9j
  refine List.mem_append_right _ ?_
  rw [if_pos (by have:=h.h6;omega)]
  exact List.mem_singleton.2 rfl
 have hc:=b4P (A:=A.map wr) (List.mem_of_getElem? (a7B hx)) hi hc
 exact h1.gain h0 (c2j (by omega)) b4F h2 e ⟨wr z,a7B hz,trivial⟩ hc rfl fun me s t hv hj hb hb' et _=>He.gain h1.inv.g hj hv (h2 _ hc).1 et rfl u2 u3 hme
theorem c5K (h:Inv C A) (he:∀k:Nat,k<6→b7f (He n B (k:Int)) A):∃v,∀x,x∈A→∃y,a1i x.Now n=some y∧y.Value=v:=by
 have hlen:=h.len
 have key:∀x,x∈A→∃y,a1i x.Now n=some y:=fun x hx=>by
  obtain⟨i,hi,ei⟩:=List.getElem_of_mem hx
  have hxi:A[i]?=some x:=by rw [List.getElem?_eq_getElem hi,ei]
  have hv:=(h.v x hx).1
  have hk:∀k:Nat,k<6→He n B (k:Int) x.Now:=fun k hk=>by
   obtain⟨y,hy,p⟩:=he k hk i (by omega)
   rw [hxi]at hy
   obtain rfl:=Option.some.inj hy
   exact p
  obtain⟨y,y1,y2,y3,_⟩:=hk 0 (by omega)
  have hq:qr y.Mask=true:=full (hv.heard y y1).2.2.2.2 fun k hk'=>by
   obtain⟨z,z1,z2,z3,z4⟩:=hk k hk'
   have:=hv.heard1 y1 z1 (by omega) (by omega)
   subst this
   exact z4
  cases hf:a1i x.Now n with
  |some y=>exact⟨y,rfl⟩
  |none=>
   unfold a1i at hf
   have:=List.find?_eq_none.1 hf y y1
   unfold a7e at this
   rw [hq,y2]at this
   simp at this
 have hch:∀x y,x∈A→a1i x.Now n=some y→∃b,a4V C n b y.Value:=fun x y hx hy=>by
  refine h.chosen (List.mem_flatMap.2 ⟨x,hx, ?_⟩)
  unfold b4d
  rw [hy]
  exact List.mem_singleton.2 rfl
 obtain⟨x0,hx0⟩:=a9q (l:=A) (i:=0) (by omega)
 have hx0:=List.mem_of_getElem? hx0
 obtain⟨y0,hy0⟩:=key x0 hx0
 refine⟨y0.Value,fun x hx=> ?_⟩
 obtain⟨y,hy⟩:=key x hx
 obtain⟨b,hb⟩:=hch x y hx hy
 obtain⟨b0,hb0⟩:=hch x0 y0 hx0 hy0
 exact⟨y,hy,h.g.once hb hb0⟩
end
end Go.Proofs.YtcedmbakcchkiaaGreatDoor
namespace Go.Proofs.YtcedmbakcchkiaaGreatDoor
open Go Go.Sx
open Classical
def Low (A:List a8) (m:Int):Prop:=∃y,y∈A∧m≤6*y.Safe.Round+5
structure Lim (N:Int) (C:List b8) (A:List a8):Prop where
 sr:∀x,x∈A→x.Safe.Round≤x.Now.Round
 rn:∀x,x∈A→x.Now.Round≤N
 nt:∀x,x∈A→∀s,Of x s→∀b,b∈s.Bids→0≤b.Night∧b.Night≤2
 kc:∀c,c∈C→c.Kind=1∨c.Kind=3→Low A c.Ballot
 sl:∀x,x∈A→∀s,Of x s→∀t,t∈s.Slots→Low A t.Promised
theorem Low.up {A:List a8} {k:Nat} {x y:a8} (hx:A[k]?=some x) (h:x.Safe.Round≤y.Safe.Round) {m:Int}:Low A m→Low (A.set k y) m:=by
 rintro⟨z,hz,hm⟩
 obtain⟨i,hi,rfl⟩:=List.getElem_of_mem hz
 have hk:=(List.getElem?_eq_some_iff.1 hx).1
 by_cases e:k=i
 · subst e
   rw [List.getElem?_eq_getElem hk]at hx
   obtain rfl:=Option.some.inj hx
   exact⟨y,List.mem_of_getElem? (i:=k) (by rw [List.getElem?_set_self hk]),by omega⟩
 · exact⟨A[i],List.mem_of_getElem? (i:=i) (by rw [List.getElem?_set_ne e,List.getElem?_eq_getElem hi]),hm⟩
theorem Lim.mono {N M:Int} {C:List b8} {A:List a8} (h:Lim N C A) (hm:N≤M):Lim M C A:= { h with rn:=fun x hx=>by have:=h.rn x hx;omega}
theorem Lim.chg {N:Int} {C:List b8} {A:List a8} (v:Inv C A) (h:Lim N C A) {k:Nat} {x y:a8} (hx:A[k]?=some x) (hc:Chg C x y):Lim (N+1) C (A.set k y):=by
 have hm:=List.mem_of_getElem? hx
 have hk:=(List.getElem?_eq_some_iff.1 hx).1
 have hr:=(v.v x hm).2.round
 have up:∀ {m},Low A m→Low (A.set k y) m:=Low.up hx (by rw [hc.safe];exact Int.le_refl _)
 exact {
  sr:=fun z hz=>by
   rcases F0 hx hz with rfl|hz
   · have:=hc.round;have:=h.sr x hm;rw [hc.safe];omega
   · exact h.sr z hz
  rn:=fun z hz=>by
   rcases F0 hx hz with rfl|hz
   · have:=hc.round;have:=h.rn x hm;omega
   · have:=h.rn z hz;omega
  nt:=fun z hz s hs b hb=>by
   rcases F0 hx hz with rfl|hz
   · rcases hs with rfl|rfl
     · rcases hc.bids b hb with q|⟨a,ha,e⟩
       · exact q
       · rw [←e];exact h.nt x hm _ (.inl rfl) a ha
     · rw [hc.safe]at hb;exact h.nt x hm _ (.inr rfl) b hb
   · exact h.nt z hz s hs b hb
  kc:=fun c hcC hk'=>up (h.kc c hcC hk')
  sl:=fun z hz s hs t ht=>by
   rcases F0 hx hz with rfl|hz
   · rcases hs with rfl|rfl
     · rcases hc.slots t ht with q|⟨u,hu,q⟩|⟨c,hcC,hk',q⟩
       · exact⟨z,List.mem_of_getElem? (i:=k) (by rw [List.getElem?_set_self hk]),by rw [hc.safe];omega⟩
       · obtain⟨w,hw,e⟩:=up (h.sl x hm _ (.inl rfl) u hu)
         exact⟨w,hw,by omega⟩
       · obtain⟨w,hw,e⟩:=up (h.kc c hcC hk')
         exact⟨w,hw,by omega⟩
     · rw [hc.safe]at ht;exact up (h.sl x hm _ (.inr rfl) t ht)
   · exact up (h.sl z hz s hs t ht)}
theorem Lim.fail {N:Int} {C:List b8} {A:List a8} (h:Lim N C A) {k:Nat} {x:a8} (hx:A[k]?=some x):Lim N C (A.set k ⟨x.Me,x.Safe,x.Safe⟩):=by
 have hm:=List.mem_of_getElem? hx
 have up:∀ {m},Low A m→Low (A.set k ⟨x.Me,x.Safe,x.Safe⟩) m:=Low.up (y:=⟨x.Me,x.Safe,x.Safe⟩) hx (Int.le_refl _)
 have of:∀s,Of (⟨x.Me,x.Safe,x.Safe⟩:a8) s→s=x.Safe:=fun s hs=>by rcases hs with e|e<;>exact e
 exact {
  sr:=fun z hz=>by
   rcases F0 hx hz with rfl|hz
   · exact Int.le_refl _
   · exact h.sr z hz
  rn:=fun z hz=>by
   rcases F0 hx hz with rfl|hz
   · have:=h.rn x hm;have:=h.sr x hm;show x.Safe.Round≤N;omega
   · exact h.rn z hz
  nt:=fun z hz s hs b hb=>by
   rcases F0 hx hz with rfl|hz
   · rw [of s hs]at hb;exact h.nt x hm _ (.inr rfl) b hb
   · exact h.nt z hz s hs b hb
  kc:=fun c hcC hk'=>up (h.kc c hcC hk')
  sl:=fun z hz s hs t ht=>by
   rcases F0 hx hz with rfl|hz
   · rw [of s hs]at ht;exact up (h.sl x hm _ (.inr rfl) t ht)
   · exact up (h.sl z hz s hs t ht)}
theorem Lim.wrote {N:Int} {C:List b8} {A:List a8} (v:Inv C A) (h:Lim N C A) {k:Nat} {x:a8} (hx:A[k]?=some x):Lim N (C++a8j ⟨x.Me,x.Now,x.Now⟩) (A.set k ⟨x.Me,x.Now,x.Now⟩):=by
 have hm:=List.mem_of_getElem? hx
 have hk:=(List.getElem?_eq_some_iff.1 hx).1
 have up:∀ {m},Low A m→Low (A.set k ⟨x.Me,x.Now,x.Now⟩) m:=Low.up (y:=⟨x.Me,x.Now,x.Now⟩) hx (h.sr x hm)
 have of:∀s,Of (⟨x.Me,x.Now,x.Now⟩:a8) s→s=x.Now:=fun s hs=>by rcases hs with e|e<;>exact e
 have hv:=(v.v x hm).1
 exact {
  sr:=fun z hz=>by
   rcases F0 hx hz with rfl|hz
   · exact Int.le_refl _
   · exact h.sr z hz
  rn:=fun z hz=>by
   rcases F0 hx hz with rfl|hz
   · exact h.rn x hm
   · exact h.rn z hz
  nt:=fun z hz s hs b hb=>by
   rcases F0 hx hz with rfl|hz
   · rw [of s hs]at hb;exact h.nt x hm _ (.inl rfl) b hb
   · exact h.nt z hz s hs b hb
  kc:=fun c hcC hk'=>by
   rcases List.mem_append.1 hcC with q|q
   · exact up (h.kc c q hk')
   · refine⟨⟨x.Me,x.Now,x.Now⟩,List.mem_of_getElem? (i:=k) (by rw [List.getElem?_set_self hk]), ?_⟩
     obtain⟨j,hj,q⟩:=List.mem_flatMap.1 q
     rw [List.mem_range]at hj
     have hd:=hv.dep
     cases b6U (by omega) q with
     |acc b to_ hb ha ht=>have:=(hv.bids b hb).2.1;show b.Ballot≤6*x.Now.Round+5;omega
     |prep b to_ hb ht=>have:=(hv.bids b hb).2.1;show b.Ballot≤6*x.Now.Round+5;omega
     |pro t hs hp=>rcases hk' with hk'|hk'<;>(simp only at hk';omega)
     |acd t to_ hs hb ht=>rcases hk' with hk'|hk'<;>(simp only at hk';omega)
     |grant l hl=>rcases hk' with hk'|hk'<;>(simp only at hk';omega)
     |back y hy hb=>rcases hk' with hk'|hk'<;>(simp only at hk';omega)
  sl:=fun z hz s hs t ht=>by
   rcases F0 hx hz with rfl|hz
   · rw [of s hs]at ht;exact up (h.sl x hm _ (.inl rfl) t ht)
   · exact up (h.sl z hz s hs t ht)}
theorem Lim.step {N:Int} {w w':j0} (v:Inv w.calls w.all) (h:Lim N w.calls w.all) (s:c4X w w'):Lim (N+1) w'.calls w'.all:=by
 cases s with
 |same h1 h2=>rw [h1,h2];exact h.mono (by omega)
 |one k x y hx h1 h2 hc=>
  rw [h1,h2]
  rcases hc with hc|rfl
  · exact h.chg v hx hc
  · exact(h.fail hx).mono (by omega)
 |wrote k x hx h1 h2=>rw [h1,h2];exact(h.wrote v hx).mono (by omega)
theorem b4c {N:Int} {C:List b8} {A:List a8} (v:Inv C A) (h:Lim N C A) (hN:N<9999) {k:Nat} {x:a8} (hx:A[k]?=some x) {n b:Int} (hn:0≤n∧n≤2) (hb:1≤b∧b≤9):
 ∃y,a0V x n b=(y,0)∧y.Me=x.Me∧y.Safe=x.Safe∧y.Now.Round=x.Now.Round+1∧Inv C (A.set k y)∧Lim (N+1) C (A.set k y)∧Bd n (6*y.Now.Round+y.Me) y.Now:=by
 have hm:=List.mem_of_getElem? hx
 have hs:=v.v x hm
 have hr:=h.rn x hm
 have hlen:(a3F x.Now x.Me n b).length≤12:=by
  have hall:∀y,y∈a3F x.Now x.Me n b→0≤y.Night∧y.Night≤2:=fun y hy=>by
   rcases Z3 hy with e|hy|⟨z,_,_,e⟩
   · rw [e];exact hn
   · exact h.nt x hm _ (.inl rfl) y hy
   · rw [e];exact hn
  have hris:I4 a3E (a3F x.Now x.Me n b):=by
   refine a3Q (fun x hx=> ?_) (fun x hx=> ?_) (fun x h0 y hy=> ?_) (fun x h0 y hy=> ?_) hs.1.rbids<;>unfold a3E at* <;>simp only [R2]
   · exact(a1C _ _).1.1 hx
   · have h1:=a1C n x
     have:¬x.Night<n:=fun q=>by have:=h1.1.2 q;omega
     have:¬x.Night=n:=fun q=>by have:=h1.2.2 q;omega
     omega
   · rw [←(a1C n x).2.1 h0];exact hy
   · rw [←(a1C n x).2.1 h0];exact hy
  have hpw:=a0m (fun a b c q r=>by unfold a3E at*;omega) (fun a q=>by unfold a3E at q;omega) hris
  have key:∀(l:List d9) (m:Int),l.Pairwise a3E→(∀y,y∈l→m≤y.Night∧y.Night≤2)→m≤3→(l.length:Int)≤3-m:=by
   intro l
   induction l with
   |nil=>intro m _ _ hm;simp;omega
   |cons y l ih=>
    intro m hp hl hm
    obtain⟨h1,h2⟩:=List.pairwise_cons.1 hp
    have hy:=hl y List.mem_cons_self
    have:=ih (y.Night+1) h2 (fun z hz=>by
     have:=h1 z hz
     have:=(hl z (List.mem_cons_of_mem _ hz)).2
     unfold a3E at*
     omega) (by omega)
    simp only [List.length_cons]
    omega
  have:=key _ 0 hpw hall (by omega)
  omega
 have e:a0V x n b=(⟨x.Me,⟨x.Now.Round+1,x.Now.Slots,a3F x.Now x.Me n b,x.Now.Heard,x.Now.Leases,x.Now.Loans⟩,x.Safe⟩,0):=by
  unfold a0V
  rw [if_pos hs,if_pos (by omega),if_pos (by omega),if_neg]
  rintro(q|q)
  · omega
  · exact q hlen
 have hop:=b1r v hx hn (v:=b) (by omega)
 rw [e]at hop
 rcases hop with q|⟨_,q,_⟩
 · rcases q with q|q|q|q|q<;>cases q
 · refine⟨_,e,rfl,rfl,rfl,q,h.chg v hx (.prop hn), ?_⟩
   obtain⟨z,_,_,hz⟩:=a7s (c:=b2X n) (new:=R2 x.Me x.Now.Round n b) (f:=fun _=>R2 x.Me x.Now.Round n b) ((a1C _ _).2.2 rfl) (l:=x.Now.Bids)
   exact⟨_,hz,rfl,rfl⟩
end Go.Proofs.YtcedmbakcchkiaaGreatDoor
namespace Go.Proofs.YtcedmbakcchkiaaGreatDoor
open Go Go.Sx
set_option maxRecDepth 100000
def SB0:c8:=⟨0, [], [], [], [], []⟩
def SB1:c8:=⟨1, [], [⟨4,7,77,0,14,false⟩], [], [], []⟩
def SB2:c8:=⟨1, [], [⟨4,7,77,0,46,true⟩], [], [], []⟩
def SL:a8:=⟨2,⟨0, [], [], [], [⟨1,8,0,100,200⟩], []⟩,SB0⟩
theorem sn1:a9V=some (⟨1,SB1,SB0⟩,true):=by decide+kernel
theorem sn2:Q6 ⟨1,SB1,SB0⟩ ⟨2,5,1,4,7,0,0,0,0,0,0⟩=some (⟨1,SB2,SB0⟩,0):=by decide+kernel
theorem sn3:R1 ⟨1,SB2,SB0⟩=some (⟨1,SB2,SB2⟩,0):=by decide+kernel
theorem sn4:U7 ⟨1,SB2,SB2⟩ 2=some ([⟨3,1,2,4,7,0,77,0,0,0,0⟩],0):=by decide+kernel
theorem sn5:a1k 2=some (⟨2,SB0,SB0⟩,0):=by decide+kernel
theorem sn6:O7 ⟨2,SB0,SB0⟩ 8 0 100 200=some (SL,0):=by decide+kernel
theorem sn7:a0s SL 8 150=some (false,0):=by decide+kernel
theorem sn8:a0s SL 8 200=some (true,0):=by decide+kernel
theorem sn9:O7 SL 8 1 150 250=some (⟨0,SB0,SB0⟩,93):=by decide+kernel
theorem sna:V3 [150,200]=some [150,200]:=by
 have:a7J [150,200]= [150,200]:=List.mergeSort_of_pairwise (by simp)
 unfold V3
 rw [this];rfl
theorem snb:S9 SL=some (some ⟨SL⟩,0):=by decide+kernel
theorem snc:s9 (a2S 8 150 ⟨SL⟩) (0, [150])=some (1, [150,200]):=by decide+kernel
theorem snd:(Option.bind (s9 (a3a 8 150 250 ⟨SL⟩ [150,200]) 0) fun e=>match e with| .inl _=>some ((0:Int),(3:Int))| .inr r=>some r)=some (200,0):=by decide+kernel
theorem sne:C8 8=some true:=by decide+kernel
theorem snf:j6 150=some true:=by decide+kernel
theorem sng:j6 250=some true:=by decide+kernel
theorem snh:a1E SL 8 150 250=some (200,0):=by
 unfold a1E
 rw [snb]
 have h2:((SL.Me !=SL.Me)=true)=False:=by simp
 simp only [Option.bind_some,b2G,sne,snf,sng,snc,sna,show((0:Int) !=0)=false from rfl,Bool.false_eq_true,if_false,Bool.not_true,j4,show((8:Int).tmod 6 !=SL.Me)=false from rfl,show decide ((150:Int)>250)=false from rfl]
 exact snd
theorem sni:a2x SB1=some (⟨#[114,111,117,110,100,32,49,10,98,105,100,32,52,32,55,32,55,55,32,48,32,49,52,32,48,10]⟩,0):=by decide+kernel
theorem snj:a1M [⟨3,1,2,4,7,0,77,0,0,0,0⟩] [⟨3,1,2,4,7,0,77,0,0,0,0⟩]=some true:=by decide+kernel
theorem b8p:a4u=some true:=by
 unfold a4u
 rw [sn1,Option.bind_some]
 dsimp only
 rw [sn2,Option.bind_some]
 dsimp only
 rw [sn3,Option.bind_some]
 dsimp only
 rw [sn4,Option.bind_some]
 dsimp only
 rw [if_neg (by decide),if_neg (by decide),if_neg (by decide),if_neg (by decide),if_neg (by decide),if_neg (by decide)]
 rw [show idx SB1.Bids 0=some ⟨4,7,77,0,14,false⟩ from rfl,Option.bind_some,if_pos (by decide)]
 rw [show idx SB2.Bids 0=some ⟨4,7,77,0,46,true⟩ from rfl,Option.bind_some]
 rw [snj,Option.bind_some,sn5,Option.bind_some]
 dsimp only
 rw [sn6,Option.bind_some]
 dsimp only
 rw [sn7,Option.bind_some]
 dsimp only
 rw [sn8,Option.bind_some]
 dsimp only
 rw [sn9,Option.bind_some]
 dsimp only
 rw [snh,Option.bind_some]
 dsimp only
 rw [sni,Option.bind_some]
 dsimp only
 rw [if_pos (by decide),if_pos (by decide),if_pos (by decide),if_pos (by decide),if_pos (by decide),if_pos (by decide),if_pos (by decide),if_pos (by decide),if_pos (by decide),if_pos (by decide),if_pos (by decide),if_pos (by decide)]
 rw [beq_self_eq_true]
end Go.Proofs.YtcedmbakcchkiaaGreatDoor
namespace Go.Proofs.YtcedmbakcchkiaaGreatDoor
open Go Go.Sx
open Classical
def e0:j0:=⟨[⟨0,S0,S0⟩,⟨1,S0,S0⟩,⟨2,S0,S0⟩,⟨3,S0,S0⟩,⟨4,S0,S0⟩,⟨5,S0,S0⟩], [],(0,0,0)⟩
theorem b6G:a6w=some (e0,true):=by decide+kernel
theorem J0e (i:Int):J [] i S0:=by constructor<;>(intro c hc;cases hc)
theorem c3H (k:Nat) (x:a8) (h:e0.all[k]?=some x):k≤5∧x=⟨(k:Int),S0,S0⟩:=by
 have hk:=(List.getElem?_eq_some_iff.1 h).1
 have hk:k<6:=hk
 have hc:k=0∨k=1∨k=2∨k=3∨k=4∨k=5:=by omega
 rcases hc with rfl|rfl|rfl|rfl|rfl|rfl<;>exact⟨by omega,(Option.some.inj h).symm⟩
theorem b4Q {x:a8} (hx:x∈e0.all):∃k:Nat,k≤5∧x=⟨(k:Int),S0,S0⟩:=by
 obtain⟨k,hk,e⟩:=List.getElem_of_mem hx
 exact⟨k,c3H k x (by rw [List.getElem?_eq_getElem hk,e])⟩
theorem b7Y {x:a8} {s:c8} (hx:x∈e0.all) (hs:Of x s):s=S0:=by
 obtain⟨k,_,rfl⟩:=b4Q hx
 rcases hs with e|e<;>exact e
theorem c6H:Inv e0.calls e0.all where
 len:=rfl
 me:=fun k x hx=>by rw [(c3H k x hx).2]
 v:=fun x hx=>by
  obtain⟨k,hk,rfl⟩:=b4Q hx
  have:=vs0 (me:=(k:Int)) (by omega)
  exact⟨this,this⟩
 g:=by constructor<;>(intro c hc;cases hc)
 j:=fun x hx s hs=>by rw [b7Y hx hs];exact J0e _
 l:=fun x hx d _ s hs t _ y hy=>by rw [b7Y hx hs]at hy;cases hy
theorem c7a:Lim 0 e0.calls e0.all where
 sr:=fun x hx=>by
  obtain⟨k,_,rfl⟩:=b4Q hx
  exact Int.le_refl _
 rn:=fun x hx=>by
  obtain⟨k,_,rfl⟩:=b4Q hx
  exact Int.le_refl _
 nt:=fun x hx s hs b hb=>by rw [b7Y hx hs]at hb;cases hb
 kc:=fun c hc=>by cases hc
 sl:=fun x hx s hs t ht=>by rw [b7Y hx hs]at ht;cases ht
theorem c3i (l:List N9) (hl:l.length≤9223372036854775807):∃w:j0,(∃i,s9 (S2 l) (true,0,e0.all,e0.calls,e0.told.1,e0.told.2.1,e0.told.2.2)=some (true,i,w.all,w.calls,w.told.1,w.told.2.1,w.told.2.2))∧Inv w.calls w.all∧Lim 30 w.calls w.all:=by
 obtain⟨e,he,n,w,rfl,hinv,hlim⟩:=a3Y (body:=S2 l) (fun st=>∃(n:Nat) (w:j0),st=(true,(n:Int),w.all,w.calls,w.told.1,w.told.2.1,w.told.2.2)∧n≤30∧Inv w.calls w.all∧Lim (n:Int) w.calls w.all∧w.calls.length≤6000*n) (fun st=>(30-st.2.1).toNat) (fun st=>∃(n:Nat) (w:j0),st=(true,(n:Int),w.all,w.calls,w.told.1,w.told.2.1,w.told.2.2)∧Inv w.calls w.all∧Lim 30 w.calls w.all) (by
  rintro _ ⟨n,w,rfl,hn,hinv,hlim,hc⟩
  have up:=hlim.mono (M:=30) (by omega)
  unfold S2
  by_cases h1:n<l.length
  · have e1:((n:Int)<(l.length:Int))=True:=eq_true (by omega)
    by_cases h2:n<30
    · right
      have e2:((n:Int)<30)=True:=eq_true (by omega)
      obtain⟨w',hw,hx⟩:=c3Z (w:=w) l[n] hinv (by omega)
      have hw:a0H ⟨w.all,w.calls,(w.told.1,w.told.2.1,w.told.2.2)⟩ l[n]=some (w',true):=hw
      have hl':=hx.len
      simp only [e1,e2,decide_true,if_true,O6 (List.getElem?_eq_getElem h1),Option.bind_some,hw,W_s (show n<9223372036854775807 by omega)]
      exact⟨_,rfl,⟨n+1,w',rfl,by omega,hx.inv,hlim.step hinv hx.st,by omega⟩,by simp only;omega⟩
    · left
      have e2:((n:Int)<30)=False:=eq_false (by omega)
      exact⟨(true,(n:Int),w.all,w.calls,w.told.1,w.told.2.1,w.told.2.2),by simp only [e1,e2,decide_true,decide_false,if_true,Bool.false_eq_true,if_false],n,w,rfl,hinv,up⟩
  · left
    have e1:((n:Int)<(l.length:Int))=False:=eq_false (by omega)
    exact⟨(true,(n:Int),w.all,w.calls,w.told.1,w.told.2.1,w.told.2.2),by simp only [e1,decide_false,Bool.false_eq_true,if_false],n,w,rfl,hinv,up⟩) (true,0,e0.all,e0.calls,e0.told.1,e0.told.2.1,e0.told.2.2) ⟨0,e0,rfl,by omega,c6H,c7a,by simp [e0]⟩ (by simp only [a3k];omega)
 exact⟨w,⟨_,he⟩,hinv,hlim⟩
theorem b5C {C:List b8} {A:List a8} (hi:Inv C A) (hl:Lim 30 C A):∃g i,s9 (L9 A) (0,0)=some (g,i)∧(0≤g∧g≤30)∧∀x,x∈A→x.Now.Round≤g∧x.Safe.Round≤g:=by
 have hlen:=hi.len
 obtain⟨e,he,g,i,rfl,hg,hx⟩:=a3Y (body:=L9 A) (fun st=>∃(g:Int) (n:Nat),st=(g,(n:Int))∧n≤6∧(0≤g∧g≤30)∧∀k x,k<n→A[k]?=some x→x.Now.Round≤g∧x.Safe.Round≤g) (fun st=>(6-st.2).toNat) (fun st=>∃(g i:Int),st=(g,i)∧(0≤g∧g≤30)∧∀x,x∈A→x.Now.Round≤g∧x.Safe.Round≤g) (by
  rintro _ ⟨g,n,rfl,hn,hg,hall⟩
  unfold L9
  by_cases h1:n<6
  · right
    have e1:((n:Int)<(A.length:Int))=True:=eq_true (by omega)
    obtain⟨x,hx⟩:=a9q (l:=A) (i:=n) (by omega)
    have hm:=List.mem_of_getElem? hx
    have h30:=hl.rn x hm
    have hsr:=hl.sr x hm
    simp only [e1,decide_true,if_true,O6 hx,Option.bind_some,W_s (show n<9223372036854775807 by omega),b4O]
    refine⟨_,rfl,⟨_,n+1,rfl,by omega,by omega,fun k z hk hz=> ?_⟩,by simp only;omega⟩
    by_cases e:k=n
    · subst e
      rw [hx]at hz
      obtain rfl:=Option.some.inj hz
      omega
    · have:=hall k z (by omega) hz
      omega
  · left
    have e1:((n:Int)<(A.length:Int))=False:=eq_false (by omega)
    refine⟨(g,(n:Int)),by simp only [e1,decide_false,Bool.false_eq_true,if_false],g,_,rfl,hg,fun x hx=> ?_⟩
    obtain⟨k,hk,e⟩:=List.getElem_of_mem hx
    exact hall k x (by omega) (by rw [List.getElem?_eq_getElem hk,e])) (0,0) ⟨0,0,rfl,by omega,by omega,fun k x hk=>by omega⟩ (by simp only [a3k];omega)
 exact⟨g,i,he,hg,hx⟩
def unS (x:a8):Int×Int×List d0×List d9×List c9×List c0×List d7×Int×List d0×List d9×List c9×List c0×List d7:=(x.Me,x.Now.Round,x.Now.Slots,x.Now.Bids,x.Now.Heard,x.Now.Leases,x.Now.Loans,x.Safe.Round,x.Safe.Slots,x.Safe.Bids,x.Safe.Heard,x.Safe.Leases,x.Safe.Loans)
theorem c2e {C:List b8} {A:List a8} (hi:Inv C A) (hl:Lim 30 C A) {g:Int} (hg:0≤g∧g≤30) {k:Nat} {x:a8} (hx:A[k]?=some x) (hxg:x.Now.Round≤g) (n:Int×Int×Int) {night:Int} (hn:0≤night∧night≤2):
 ∃y,s9 (M0 n night g) (unS x)=some (.inl (unS y))∧y.Me=x.Me∧y.Safe=x.Safe∧y.Now.Round=g+1∧Inv C (A.set k y)∧(∃N,Lim N C (A.set k y))∧Bd night (6*y.Now.Round+y.Me) y.Now:=by
 have hr:=(hi.v x (List.mem_of_getElem? hx)).1.round
 have hk:=(List.getElem?_eq_some_iff.1 hx).1
 obtain⟨e,he,y,rfl,h1,h2,h3,h4,h5,h6⟩:=a3Y (body:=M0 n night g) (fun st=>∃(j:Nat) (y:a8),st=unS y∧y.Me=x.Me∧y.Safe=x.Safe∧y.Now.Round=x.Now.Round+j∧y.Now.Round≤g+1∧Inv C (A.set k y)∧Lim (30+(j:Int)) C (A.set k y)∧(0<j→Bd night (6*y.Now.Round+y.Me) y.Now)) (fun st=>(g+1-st.2.1).toNat) (fun e=>∃y:a8,e= .inl (unS y)∧y.Me=x.Me∧y.Safe=x.Safe∧y.Now.Round=g+1∧Inv C (A.set k y)∧(∃N,Lim N C (A.set k y))∧Bd night (6*y.Now.Round+y.Me) y.Now) (by
  rintro _ ⟨j,y,rfl,h1,h2,h3,h4,h5,h6,h7⟩
  have hy:(A.set k y)[k]?=some y:=by rw [List.getElem?_set_self hk]
  unfold M0 unS
  by_cases hle:y.Now.Round≤g
  · right
    have q:(y.Now.Round≤g)=True:=eq_true hle
    obtain⟨z,e1,z1,z2,z3,z4,z5,z6⟩:=b4c h5 h6 (by omega) hy hn (b:=1+n.2.2 % 9) (by omega)
    rw [List.set_set]at z4 z5
    have hw:W (1+n.2.2 % 9)=1+n.2.2 % 9:=a2G (by omega)
    have hw2:W (y.Now.Round+1)=y.Now.Round+1:=a2G (by omega)
    simp only [q,decide_true,if_true]
    rw [a4w n.2.2 (by omega)]
    simp only [Option.bind_some,hw,b1s,e1,bne_self_eq_false,Bool.false_eq_true,if_false,hw2,z3]
    refine⟨_,rfl,⟨j+1,z,by rw [z3],by rw [z1,h1],by rw [z2,h2],by omega,by omega,z4,z5.mono (by omega),fun _=>z6⟩,by simp only;omega⟩
  · left
    have q:(y.Now.Round≤g)=False:=eq_false hle
    refine⟨_,by simp only [q,decide_false,Bool.false_eq_true,if_false],y,rfl,h1,h2,by omega,h5,⟨_,h6⟩,h7 (by omega)⟩) (unS x) ⟨0,x,rfl,rfl,rfl,by omega,by omega,by rw [a2z hx];exact hi,by rw [a2z hx];exact hl.mono (by omega),fun h=>by omega⟩ (by unfold unS a3k;simp only;omega)
 exact⟨y,he,h1,h2,h3,h4,h5,h6⟩
theorem c0a {C:List b8} {A:List a8} (h:Inv C A):s9 I8 (0,A)=some (.inl (6,A.map wr)):=by
 have hlen:=h.len
 have:=a9b (body:=I8) (fun j=>((j:Int),wrote A j)) A.length (by omega) (.inl (6,A.map wr)) (fun j hj=>by
  have hw:=h.wrote j (by omega)
  have hat:=b5g hj
  have hv:=hw.v _ (List.mem_of_getElem? hat)
  have hl:=b3L A j
  have h1:((j:Int)<((wrote A j).length:Int))=True:=eq_true (by omega)
  have e:a9D A[j]=(wr A[j],0):=b6f hv.1 hv.2
  unfold I8
  simp only [h1,decide_true,if_true,O6 hat,Option.bind_some,b5V,e,bne_self_eq_false,Bool.false_eq_true,if_false,W_s (show j<9223372036854775807 by omega),Int.toNat_natCast,b8k hj]) (by
  have hl:=b3L A A.length
  have h1:((A.length:Int)<((wrote A A.length).length:Int))=False:=eq_false (by omega)
  unfold I8
  simp only [h1,decide_false,Bool.false_eq_true,if_false]
  rw [b3U,hlen];rfl)
 simpa [wrote]using this
theorem b9n {A:List a8} {j:Nat} {x:a8} (hx:A[j]?=some x) (hv:y9 x) {L:List b8} (hn:L.length≤1000000) (a b c:Int):a0L A (j:Int) L a b c=some (L++a8j x,a,b,c,true):=by
 have e:s9 (B8 A (j:Int) a b c) (0,L)=some (.inl (6,L++a8j x)):=by
  have:=a9b (body:=B8 A (j:Int) a b c) (fun n=>((n:Int),L++upC x n)) 6 (by omega) (.inl (6,L++a8j x)) (fun n h6=>by
   have hl:=a6T hv n
   have hl2:=a8Z hv.2 (n:Int)
   have h1:((n:Int)<6)=True:=eq_true (by omega)
   unfold B8
   simp only [h1,decide_true,if_true,O6 hx,Option.bind_some,b5m,b5H hv.1 hv.2 (show 0≤(n:Int)∧(n:Int)≤5 by omega),bne_self_eq_false,Bool.false_eq_true,if_false,List.nil_append,List.length_nil]
   rw [a7x (by rw [List.length_append];omega),a7x (by rw [List.length_append];omega),W_s (by omega),c3D,List.append_assoc]) (by simp [B8];rfl)
  simpa [upC]using this
 unfold a0L
 rw [e]
 rfl
theorem c2n {A:List a8} (hl:A.length=6) (hv:∀x,x∈A→y9 x) (a b c:Int):s9 (I6 A) (true,0, [],a,b,c)=some (.inl (true,6,P0 A A.length,a,b,c)):=by
 have hlen:∀j,j≤6→(P0 A j).length≤6000*j:=fun j=>by
  induction j with
  |zero=>intro _;simp [P0]
  |succ j ih=>
   intro hj
   have hm:A[j]∈A:=List.getElem_mem (by omega)
   have:=a6T (hv _ hm) 6
   have:=ih (by omega)
   rw [a9s (by omega),List.length_append]
   unfold a8j
   omega
 have:=a9b (body:=I6 A) (fun j=>(true,(j:Int),P0 A j,a,b,c)) 6 (by omega) (.inl (true,6,P0 A A.length,a,b,c)) (fun j hj=>by
  have h1:((j:Int)<(A.length:Int))=True:=eq_true (by omega)
  have hx:A[j]?=some A[j]:=List.getElem?_eq_getElem (by omega)
  have:=hlen j (by omega)
  unfold I6
  simp only [h1,decide_true,if_true,b9n hx (hv _ (List.mem_of_getElem? hx)) (show(P0 A j).length≤1000000 by omega),Option.bind_some,Bool.not_true,Bool.false_eq_true,if_false,W_s (show j<9223372036854775807 by omega)]
  rw [a9s (by omega)]) (by
  unfold I6
  rw [hl];simp)
 simpa [P0]using this
theorem c1S {n B:Int} {C:List b8} (h6:0≤B) {L:List b8} (hL:Okc n B C L) (hn:L.length≤1000000) {A:List a8} (h:Rd n B C A):s9 (I7 L) (0,A)=some (.inr true)∨∃A',s9 (I7 L) (0,A)=some (.inl ((L.length:Int),A'))∧M8 L A=some A':=by
 obtain⟨e,he,r⟩:=a3Y (body:=I7 L) (fun st=>∃(k:Nat) (A1:List a8),st=((k:Int),A1)∧k≤L.length∧M8 (L.take k) A=some A1) (fun st=>((L.length:Int)-st.1).toNat) (fun e=>e= .inr true∨∃A',e= .inl ((L.length:Int),A')∧M8 L A=some A') (by
  rintro _ ⟨k,A1,rfl,hk,hA⟩
  have hr:=Rd.all h6 h (fun c hc=>hL c (List.mem_of_mem_take hc)) hA
  have hlen:=hr.inv.len
  unfold I7
  by_cases h1:k<L.length
  · have e1:((k:Int)<(L.length:Int))=True:=eq_true (by omega)
    have hc:L[k]?=some L[k]:=List.getElem?_eq_getElem h1
    obtain⟨hcC,hg⟩:=hL L[k] (List.getElem_mem h1)
    have hok:=hr.inv.g.ok _ hcC
    have hto:=hok.to_
    obtain⟨z,hz,hzm⟩:=hr.inv.at_ hto
    have hzv:=hr.inv.v z (List.mem_of_getElem? hz)
    have hi2:idx A1 L[k].To=some z:=by
     have:=O6 hz
     rwa [Int.toNat_of_nonneg hto.1]at this
    have t1:(L[k].To<0)=False:=eq_false (by omega)
    have t2:(L[k].To≥(A1.length:Int))=False:=eq_false (by omega)
    have hS:b2g z L[k]=(match N0 z.Now L[k]with|some s=>(⟨z.Me,s,z.Safe⟩,0)|none=>(Z0,2)):=by
     unfold b2g
     rw [if_pos hzv,if_pos ⟨hok,hzm.symm⟩]
     try (cases N0 z.Now L[k]<;>rfl)
    simp only [e1,decide_true,if_true,O6 hc,Option.bind_some,t1,t2,decide_false,Bool.false_eq_true,if_false,hi2,b8f,hS]
    cases ht:N0 z.Now L[k]with
    |none=>
     left
     refine⟨_, ?_, .inl rfl⟩
     simp only [Int.reduceBEq,beq_self_eq_true,if_true,b8p,Option.bind_some]
    |some t=>
     right
     refine⟨((((k+1:Nat)):Int),A1.set L[k].To.toNat ⟨z.Me,t,z.Safe⟩), ?_,⟨k+1,_,rfl,by omega, ?_⟩,by simp only;omega⟩
     · simp only [Int.reduceBEq,Bool.false_eq_true,if_false,bne_self_eq_false,W_s (show k<9223372036854775807 by omega)]
     · rw [a7p hc,a6N,hA]
       show M8 [L[k]] A1=_
       rw [M8,hz]
       simp only [ht]
       rfl
  · left
    have e1:((k:Int)<(L.length:Int))=False:=eq_false (by omega)
    obtain rfl:k=L.length:=by omega
    rw [List.take_length]at hA
    exact⟨.inl ((L.length:Int),A1),by simp only [e1,decide_false,Bool.false_eq_true,if_false], .inr ⟨A1,rfl,hA⟩⟩) (0,A) ⟨0,A,rfl,by omega,rfl⟩ (by simp only [a3k];omega)
 rw [he]
 rcases r with rfl|⟨A',rfl,hA'⟩
 · exact .inl rfl
 · exact .inr ⟨A',rfl,hA'⟩
theorem a9l {n B d:Int} {C:List b8} {A:List a8} (h:St n B d C A) (r:Nat) (hr:r<4) (a b c:Int) (L0:List b8):
 o6 (true,(r:Int),L0,a,b,c,A)=some (.inr (.inr true))∨∃A',o6 (true,(r:Int),L0,a,b,c,A)=some (.inl (true,((r+1:Nat):Int),P0 (A.map wr) (A.map wr).length,a,b,c,A'))∧M8 (P0 (A.map wr) (A.map wr).length) (A.map wr)=some A':=by
 obtain⟨h1,h2⟩:=h.start
 have hlen:=h1.inv.len
 have hl:(P0 (A.map wr) (A.map wr).length).length≤1000000:=by
  have key:∀j,j≤6→(P0 (A.map wr) j).length≤6000*j:=fun j=>by
   induction j with
   |zero=>intro _;simp [P0]
   |succ j ih=>
    intro hj
    have hm:(A.map wr)[j]'(by omega)∈A.map wr:=List.getElem_mem (by omega)
    have:=a6T (h1.inv.v _ hm) 6
    have:=ih (by omega)
    rw [a9s (by omega),List.length_append]
    unfold a8j
    omega
  have:=key 6 (by omega)
  rw [hlen];omega
 have e1:((r:Int)<4)=True:=eq_true (by omega)
 unfold o6
 simp only [e1,decide_true,if_true,c0a h.rd.inv,Option.bind_some,c2n hlen h1.inv.v]
 rcases c1S (Int.le_trans (by decide) h.h6) h2 hl h1 with e|⟨A',e,e'⟩
 · left
   rw [e];rfl
 · right
   refine⟨A', ?_,e'⟩
   rw [e]
   simp only [Option.bind_some,W_s (show r<9223372036854775807 by omega)]
theorem b8X {n B d:Int} {C:List b8} {A:List a8} (h:St n B d C A) (a b c:Int) (L0:List b8):
 s9 o6 (true,0,L0,a,b,c,A)=some (.inr true)∨∃L A' C',s9 o6 (true,0,L0,a,b,c,A)=some (.inl (true,4,L,a,b,c,A'))∧Inv C' A'∧∀k:Nat,k<6→b7f (He n B (k:Int)) A':=by
 have go:∀(m:Nat) (s s':Bool×Int×List b8×Int×Int×Int×List a8),o6 s=some (.inl s')→a0I o6 (m+1) s=a0I o6 m s':=fun m s s' e=>by
  rw [a0I,e]
 have stop:∀(m:Nat) (s:Bool×Int×List b8×Int×Int×Int×List a8) (e':Sum (Bool×Int×List b8×Int×Int×Int×List a8) Bool),o6 s=some (.inr e')→a0I o6 (m+1) s=some e':=fun m s e' e=>by
  rw [a0I,e]
 obtain⟨F,hF⟩:∃F,a3k=F+5:=⟨a3k-5,by unfold a3k;omega⟩
 unfold s9
 rw [hF]
 rcases a9l h 0 (by omega) a b c L0 with e1|⟨A1,e1,g1⟩
 · left;exact stop _ _ _ e1
 rw [show F+5=(F+4)+1 from rfl,show(0:Int)=((0:Nat):Int) from rfl,go _ _ _ e1]
 have h1:=h.next g1
 have p1:=h.r1 g1
 rcases a9l h1 1 (by omega) a b c _ with e2|⟨A2,e2,g2⟩
 · left;exact stop _ _ _ e2
 rw [show F+4=(F+3)+1 from rfl,go _ _ _ e2]
 have h2:=h1.next g2
 have p2:=h1.r2 p1 g2
 rcases a9l h2 2 (by omega) a b c _ with e3|⟨A3,e3,g3⟩
 · left;exact stop _ _ _ e3
 rw [show F+3=(F+2)+1 from rfl,go _ _ _ e3]
 have h3:=h2.next g3
 have p3:=h2.r3 p2 g3
 rcases a9l h3 3 (by omega) a b c _ with e4|⟨A4,e4,g4⟩
 · left;exact stop _ _ _ e4
 rw [show F+2=(F+1)+1 from rfl,go _ _ _ e4]
 have h4:=h3.next g4
 have p4:=h3.r4 p3 g4
 right
 refine⟨P0 (A3.map wr) (A3.map wr).length,A4,_,stop _ _ _ ?_,h4.rd.inv,p4⟩
 unfold o6
 simp
theorem c2P {C:List b8} {A:List a8} (hi:Inv C A) {n v:Int} (hn:0≤n∧n≤2) (hk:∀x,x∈A→∃y,a1i x.Now n=some y∧y.Value=v):∃s,s9 (I9 n A) (0,0)=some (.inl s):=by
 have hlen:=hi.len
 have:=a9b (body:=I9 n A) (fun j=>((if j=0 then 0 else v),(j:Int))) 6 (by omega) (.inl (v,6)) (fun j hj=>by
  have h1:((j:Int)<(A.length:Int))=True:=eq_true (by omega)
  obtain⟨x,hx⟩:=a9q (l:=A) (i:=j) (by omega)
  have hm:=List.mem_of_getElem? hx
  obtain⟨y,hy,hv⟩:=hk x hm
  have e:b1f x n=(v,0):=by
   unfold b1f
   rw [if_pos (hi.v x hm),if_pos (by omega),hy]
   simp only [hv]
  unfold I9
  simp only [h1,decide_true,if_true,O6 hx,Option.bind_some,b8V,e,bne_self_eq_false,Bool.false_eq_true,if_false,W_s (show j<9223372036854775807 by omega)]
  by_cases h0:j=0
  · subst h0;simp
  · have:((j:Int)>0)=True:=eq_true (by omega)
    simp [h0,this]) (by
  unfold I9
  rw [hlen];simp)
 exact⟨_,by simpa using this⟩
theorem c0M (y:a8):(⟨y.Me,⟨y.Now.Round,y.Now.Slots,y.Now.Bids,y.Now.Heard,y.Now.Leases,y.Now.Loans⟩,⟨y.Safe.Round,y.Safe.Slots,y.Safe.Bids,y.Safe.Heard,y.Safe.Leases,y.Safe.Loans⟩⟩:a8)=y:=rfl
theorem bds {α β:Type} {m:Option α} {a:α} {k:α→Option β} {r:Option β} (h:m=some a) (hk:k a=r):Option.bind m k=r:=by rw [h];exact hk
theorem b2U (l:List N9) (n:Int×Int×Int) (h:(l.length*72≤reachBytes∧l.length≤maxLen∧∀y:N9,y∈l→N9.G y)) (_:(InK .i64 n.1∧InK .i64 n.2.1∧InK .i64 n.2.2)):a3f l n=some true:=by
 obtain⟨w,⟨i,hw⟩,hinv,hlim⟩:=c3i l h.2.1
 obtain⟨g,gi,hgl,hg,hall⟩:=b5C hinv hlim
 have hlen:=hinv.len
 obtain⟨x,hx,hme⟩:=hinv.at_ (d:=n.1 % 6) (by omega)
 have hxm:=List.mem_of_getElem? hx
 have hi:idx w.all (n.1 % 6)=some x:=by
  have:=O6 hx
  rwa [Int.toNat_of_nonneg (by omega)]at this
 obtain⟨y,hy,y1,y2,y3,y4,⟨N,y5⟩,y6⟩:=c2e hinv hlim hg hx (hall x hxm).1 n (night:=n.2.1 % 3) (by omega)
 have hk:=(List.getElem?_eq_some_iff.1 hx).1
 have hst:St (n.2.1 % 3) (6*y.Now.Round+y.Me) (n.1 % 6) w.calls (w.all.set (n.1 % 6).toNat y):= {
  rd:=⟨y4,fun z hz=>⟨fun t ht _=>by
   obtain⟨u,hu,hle⟩:=y5.sl z hz _ (.inl rfl) t ht
   have:u.Safe.Round≤g:=by
    rcases F0 hx hu with rfl|hu
    · rw [y2];exact(hall x hxm).2
    · exact(hall u hu).2
   omega,fun b hb _=>by
   have hb':=((y4.v z hz).1.bids b hb).2.1
   have hd:=(y4.v z hz).1.dep
   rcases F0 hx hz with rfl|hz
   · omega
   · have:=(hall z hz).1;omega⟩⟩
  h6:=by omega
  hd:=by omega
  mod:=by omega
  bid:=⟨y,by rw [List.getElem?_set_self hk],y6⟩}
 unfold a3f
 refine bds b6G ?_
 refine bds hw ?_
 refine(if_neg (by decide)).trans ?_
 refine bds (a8K n.1) ?_
 refine bds (a4w n.2.1 (by omega)) ?_
 refine bds hgl ?_
 refine bds hi ?_
 refine bds hy ?_
 refine(a7x (by rw [List.length_nil];omega)).trans ?_
 refine bds (a:=x) (by rw [List.nil_append];exact hi) ?_
 refine bds (a:=x) (by rw [List.nil_append];exact hi) ?_
 rcases b8X hst w.told.1 w.told.2.1 w.told.2.2 w.calls with e|⟨L,A',C',e,i',k'⟩
 · exact bds (a:= .inr true) (by rw [List.nil_append,c0M];exact e) rfl
 · obtain⟨v,hv⟩:=c5K i' k'
   obtain⟨⟨s1,s2⟩,hs⟩:=c2P i' (n:=n.2.1 % 3) (by omega) hv
   refine bds (a:= .inl (true,4,L,w.told.1,w.told.2.1,w.told.2.2,A')) (by rw [List.nil_append,c0M];exact e) ?_
   refine bds hs ?_
   exact bds b8p rfl
end Go.Proofs.YtcedmbakcchkiaaGreatDoor
