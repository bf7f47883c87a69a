/- What may be read at the types of the statement's parameters; plain facts. -/
import Derived.Test.YtlngjieodaocfaaGreatDoorL2
set_option linter.unusedVariables false
set_option linter.unusedSimpArgs false
namespace Go.Proofs.YtlngjieodaocfaaGreatDoor
open Go Go.RowKit Go.Sx
def U6.G (x:U6):Prop:=InK .i64 x.Kind∧InK .i64 x.Depot∧InK .i64 x.Night∧InK .i64 x.Value∧InK .i64 x.Thing∧InK .i64 x.To∧InK .i64 x.From∧InK .i64 x.Long∧InK .i64 x.Pick
theorem c6H:w3 Tryz.prog 59 U6.c U6.G:=
 (w3.struct Tryz.underlying59 (F9.cons (s:=1) (w3.int Tryz.underlying3) (F9.cons (s:=1) (w3.int Tryz.underlying3) (F9.cons (s:=1) (w3.int Tryz.underlying3) (F9.cons (s:=1) (w3.int Tryz.underlying3) (F9.cons (s:=1) (w3.int Tryz.underlying3) (F9.cons (s:=1) (w3.int Tryz.underlying3) (F9.cons (s:=1) (w3.int Tryz.underlying3) (F9.cons (s:=1) (w3.int Tryz.underlying3) (F9.last (s:=1) (w3.int Tryz.underlying3) rfl (by kernel_rfl) rfl) rfl (by kernel_rfl)) rfl (by kernel_rfl)) rfl (by kernel_rfl)) rfl (by kernel_rfl)) rfl (by kernel_rfl)) rfl (by kernel_rfl)) rfl (by kernel_rfl)) rfl (by kernel_rfl)) (by kernel_rfl)).iso (fun x=>(⟨x.1,x.2.1,x.2.2.1,x.2.2.2.1,x.2.2.2.2.1,x.2.2.2.2.2.1,x.2.2.2.2.2.2.1,x.2.2.2.2.2.2.2.1,x.2.2.2.2.2.2.2.2⟩:U6)) (fun _=>rfl) (fun _ h=>h)
theorem c6K:w3 Tryz.prog 22 (fun l:(List U6)=> [.lst 9 l.length (l.flatMap U6.c)]) (fun l=>(l.length*72≤reachBytes∧l.length≤maxLen∧∀y:U6,y∈l→U6.G y)):=
 w3.slice Tryz.underlying22 c6H (by kernel_rfl) (by kernel_rfl) (fun _=>rfl) (fun _=>rfl) (by decide)
def b5.G (x:b5):Prop:=InK .i64 x.Kind∧InK .i64 x.From∧InK .i64 x.To∧InK .i64 x.Night∧InK .i64 x.Ballot∧InK .i64 x.Best∧InK .i64 x.Value∧InK .i64 x.No∧InK .i64 x.Thing∧InK .i64 x.Start∧InK .i64 x.Until
theorem c5Y:w3 Tryz.prog 24 b5.c b5.G:=
 (w3.struct Tryz.underlying24 (F9.cons (s:=1) (w3.int Tryz.underlying3) (F9.cons (s:=1) (w3.int Tryz.underlying3) (F9.cons (s:=1) (w3.int Tryz.underlying3) (F9.cons (s:=1) (w3.int Tryz.underlying3) (F9.cons (s:=1) (w3.int Tryz.underlying3) (F9.cons (s:=1) (w3.int Tryz.underlying3) (F9.cons (s:=1) (w3.int Tryz.underlying3) (F9.cons (s:=1) (w3.int Tryz.underlying3) (F9.cons (s:=1) (w3.int Tryz.underlying3) (F9.cons (s:=1) (w3.int Tryz.underlying3) (F9.last (s:=1) (w3.int Tryz.underlying3) rfl (by kernel_rfl) rfl) rfl (by kernel_rfl)) rfl (by kernel_rfl)) rfl (by kernel_rfl)) rfl (by kernel_rfl)) rfl (by kernel_rfl)) rfl (by kernel_rfl)) rfl (by kernel_rfl)) rfl (by kernel_rfl)) rfl (by kernel_rfl)) rfl (by kernel_rfl)) (by kernel_rfl)).iso (fun x=>(⟨x.1,x.2.1,x.2.2.1,x.2.2.2.1,x.2.2.2.2.1,x.2.2.2.2.2.1,x.2.2.2.2.2.2.1,x.2.2.2.2.2.2.2.1,x.2.2.2.2.2.2.2.2.1,x.2.2.2.2.2.2.2.2.2.1,x.2.2.2.2.2.2.2.2.2.2⟩:b5)) (fun _=>rfl) (fun _ h=>h)
def a2Z.G (x:a2Z):Prop:=InK .i64 x.Thing∧InK .i64 x.To∧InK .i64 x.From∧InK .i64 x.Until
theorem c6G:w3 Tryz.prog 26 a2Z.c a2Z.G:=
 (w3.struct Tryz.underlying26 (F9.cons (s:=1) (w3.int Tryz.underlying3) (F9.cons (s:=1) (w3.int Tryz.underlying3) (F9.cons (s:=1) (w3.int Tryz.underlying3) (F9.last (s:=1) (w3.int Tryz.underlying3) rfl (by kernel_rfl) rfl) rfl (by kernel_rfl)) rfl (by kernel_rfl)) rfl (by kernel_rfl)) (by kernel_rfl)).iso (fun x=>(⟨x.1,x.2.1,x.2.2.1,x.2.2.2⟩:a2Z)) (fun _=>rfl) (fun _ h=>h)
theorem c6c:w3 Tryz.prog 27 (fun(x:(Int×Int×Int))=> [DI x.1,DI x.2.1,DI x.2.2]) (fun x:(Int×Int×Int)=>(InK .i64 x.1∧InK .i64 x.2.1∧InK .i64 x.2.2)):=
 (w3.arr Tryz.underlying27 (a6w.cons (s:=1) (w3.int Tryz.underlying3) (a6w.cons (s:=1) (w3.int Tryz.underlying3) (a6w.last (s:=1) (w3.int Tryz.underlying3) rfl (by kernel_rfl) rfl) rfl (by kernel_rfl)) rfl (by kernel_rfl)) (by kernel_rfl)).iso (fun x=>x) (fun _=>rfl) (fun _ h=>h)
def a7X.G (x:a7X):Prop:=InK .i64 x.Night∧InK .i64 x.Value∧a2Z.G x.Deal∧(InK .i64 x.Loan.1∧InK .i64 x.Loan.2.1∧InK .i64 x.Loan.2.2)
theorem c5Z:w3 Tryz.prog 29 a7X.c a7X.G:=
 (w3.struct Tryz.underlying29 (F9.cons (s:=1) (w3.int Tryz.underlying3) (F9.cons (s:=1) (w3.int Tryz.underlying3) (F9.cons (s:=4) c6G (F9.last (s:=3) c6c rfl (by kernel_rfl) rfl) rfl (by kernel_rfl)) rfl (by kernel_rfl)) rfl (by kernel_rfl)) (by kernel_rfl)).iso (fun x=>(⟨x.1,x.2.1,x.2.2.1,x.2.2.2⟩:a7X)) (fun _=>rfl) (fun _ h=>h)
end Go.Proofs.YtlngjieodaocfaaGreatDoor
namespace Go.Proofs.YtlngjieodaocfaaGreatDoor
open Go Go.Sx
open Classical
theorem a0D {z:Int} (h: -9223372036854775808≤z∧z≤9223372036854775807):W z=z:=c0b h
theorem W_s {k:Nat} (h:k<9223372036854775807):W ((k:Int)+1)=((k+1:Nat):Int):=c5y h
def b3Y {R:Type} (q:Nat→Option R):Nat→Nat→Sum Nat R
 |k,0=> .inl k
 |k,m+1=>match q k with|none=>b3Y q (k+1) m|some r=> .inr r
theorem a2l {R:Type} {body:Int→Option (Sum Int (Sum Int R))} (n:Nat) (hn:n≤9223372036854775807) (q:Nat→Option R) (k:Nat) (hk:k≤n)
 (h:∀i,k≤i→i<n→body (i:Int)=some (match q i with|none=> .inl ((i+1:Nat):Int)|some r=> .inr (.inr r)))
 (he:body (n:Int)=some (.inr (.inl (n:Int)))):
 j4 body (k:Int)=some (match b3Y q k (n-k)with| .inl j=> .inl (j:Int)| .inr r=> .inr r):=by
 have key:∀(m k N:Nat),k+m=n→m<N→(∀i,k≤i→i<n→body (i:Int)=some (match q i with|none=> .inl ((i+1:Nat):Int)|some r=> .inr (.inr r)))→
  a2j body N (k:Int)=some (match b3Y q k m with| .inl j=> .inl (j:Int)| .inr r=> .inr r):=by
  intro m
  induction m with
  |zero=>
   intro k N hkm hN _
   cases N with
   |zero=>omega
   |succ N=>
    have:k=n:=by omega
    subst this
    simp only [a2j,he,b3Y]
  |succ m ih=>
   intro k N hkm hN hb
   cases N with
   |zero=>omega
   |succ N=>
    simp only [a2j,hb k (Nat.le_refl _) (by omega),b3Y]
    cases hq:q k with
    |none=>exact ih (k+1) N (by omega) (by omega) (fun i h1 h2=>hb i (by omega) h2)
    |some r=>rfl
 exact key (n-k) k a7j (by omega) (by unfold a7j;omega) h
theorem a3n {R:Type} {q:Nat→Option R}:∀(m k:Nat),(∀i,k≤i→i<k+m→q i=none)→b3Y q k m= .inl (k+m)
 |0,k,_=>rfl
 |m+1,k,h=>by
  simp only [b3Y,h k (Nat.le_refl _) (by omega)]
  rw [a3n m (k+1) (fun i h1 h2=>h i (by omega) (by omega))]
  congr 1;omega
theorem a4r {R:Type} {q:Nat→Option R}:∀(m k i:Nat),k≤i→i<k+m→q i≠none→∃j r,k≤j∧j<k+m∧q j=some r∧b3Y q k m= .inr r
 |0,k,i,h1,h2,_=>by omega
 |m+1,k,i,h1,h2,h3=>by
  cases hq:q k with
  |some r=>exact⟨k,r,Nat.le_refl _,by omega,hq,by simp only [b3Y,hq]⟩
  |none=>
   have:k≠i:=fun e=>h3 (e▸hq)
   obtain⟨j,r,a,b,c,d⟩:=a4r m (k+1) i (by omega) (by omega) h3
   exact⟨j,r,by omega,by omega,c,by simp only [b3Y,hq,d]⟩
theorem c3g {body:Int→Option (Sum Int (Sum Int Bool))} (n:Nat) (hn:n≤9223372036854775807) (q:Nat→Prop) [DecidablePred q] (k:Nat) (hk:k≤n)
 (h:∀i,k≤i→i<n→body (i:Int)=some (if q i then .inl ((i+1:Nat):Int)else .inr (.inr false)))
 (he:body (n:Int)=some (.inr (.inl (n:Int)))) (ans:Bool) (hb:ans=true↔∀i,k≤i→i<n→q i):
 (j4 body (k:Int)).bind (fun e=>match e with| .inl _=>some true| .inr r=>some r)=some ans:=by
 rw [a2l n hn (fun i=>if q i then none else some false) k hk (fun i h1 h2=>by rw [h i h1 h2];by_cases hq:q i<;>simp [hq]) he]
 by_cases hall:∀i,k≤i→i<n→q i
 · rw [a3n _ _ (fun i h1 h2=>by simp [hall i h1 (by omega)])]
   simp only [Option.bind_some,hb.2 hall]
 · have:∃i,k≤i∧i<n∧¬q i:=by
    refine Classical.byContradiction fun hn2=>hall fun i h1 h2=>Classical.byContradiction fun h3=>hn2 ⟨i,h1,h2,h3⟩
   obtain⟨i,h1,h2,h3⟩:=this
   obtain⟨j,r,a,b,c,d⟩:=a4r (q:=fun i=>if q i then none else some false) (n-k) k i h1 (by omega) (by simp [h3])
   have hr:r=false:=by
    by_cases hqj:q j
    · simp [hqj]at c
    · simpa [hqj]using c.symm
   rw [d,hr]
   have:ans=false:=by cases ans with|true=>exact absurd (hb.1 rfl) hall|false=>rfl
   simp only [Option.bind_some,this]
theorem c0B {body:Int→Option (Sum Int (Sum Int Bool))} (n:Nat) (hn:n≤9223372036854775807) (q:Nat→Prop) (k:Nat) (hk:k≤n)
 (h:∀i,k≤i→i<n→(q i∧body (i:Int)=some (.inl ((i+1:Nat):Int)))∨(¬q i∧body (i:Int)=some (.inr (.inr false))))
 (he:body (n:Int)=some (.inr (.inl (n:Int)))) (ans:Bool) (hb:ans=true↔∀i,k≤i→i<n→q i):
 (j4 body (k:Int)).bind (fun e=>match e with| .inl _=>some true| .inr r=>some r)=some ans:=by
 letI:DecidablePred q:=fun _=>Classical.propDecidable _
 exact c3g n hn q k hk (fun i h1 h2=>by rcases h i h1 h2 with⟨a,b⟩|⟨a,b⟩<;>simp only [b,a,if_true,if_false]) he ans hb
theorem b6r {α:Type} (l:List α) (hl:l.length≤9223372036854775807) (P:α→Option Bool) (p:α→Bool) (hP:∀x,x∈l→P x=some (p x)):
 (Option.bind (Option.bind (j4 (fun(v:Int)=>if(decide (v<(l.length:Int)))=true then Option.bind (idx l v) fun e=>Option.bind (P e) fun x=>if x=true then some (.inr (.inr v))else some (.inl (W (v+1)))else some (.inr (.inl v))) 0)
  fun(e:Sum Int Int)=>match e with| .inl _=>some (-1)| .inr r=>some r) fun x=>some (decide (x≥0)))=some (l.any p):=by
 have hs:=a2l (body:=fun(v:Int)=>if(decide (v<(l.length:Int)))=true then Option.bind (idx l v) fun e=>Option.bind (P e) fun x=>if x=true then some (.inr (.inr v))else some (.inl (W (v+1)))else some (.inr (.inl v)))
  l.length hl (fun i=>match l[i]? with|some x=>if p x then some (i:Int)else none|none=>none) 0 (Nat.zero_le _) (fun i _ h2=>by
   have hx:idx l (i:Int)=some l[i]:=by simp [idx,h2]
   have hlt:((i:Int)<(l.length:Int)):=by omega
   simp only [hlt,decide_true,if_true,hx,Option.bind_some,hP _ (List.getElem_mem h2),List.getElem?_eq_getElem h2]
   by_cases hp:p l[i]=true
   · simp [hp]
   · simp [hp];exact W_s (by omega)) (by simp)
 rw [show((0:Int))=((0:Nat):Int) from rfl,hs]
 by_cases hany:l.any p=true
 · rw [hany]
   obtain⟨x,hx,hpx⟩:=List.any_eq_true.1 hany
   obtain⟨i,hi,rfl⟩:=List.getElem_of_mem hx
   obtain⟨j,r,a,b,c,d⟩:=a4r (q:=fun i=>match l[i]? with|some x=>if p x then some (i:Int)else none|none=>none) (l.length-0) 0 i (Nat.zero_le _) (by omega) (by simp [List.getElem?_eq_getElem hi,hpx])
   rw [d]
   have hj:j<l.length:=by omega
   simp only [List.getElem?_eq_getElem hj]at c
   split at c
   · simp only [Option.some.injEq]at c
     subst c
     simp
   · cases c
 · rw [a3n _ _ (fun i _ h2=>by
    have hi:i<l.length:=by omega
    simp only [List.getElem?_eq_getElem hi]
    rw [if_neg]
    intro hp
    exact hany (List.any_eq_true.2 ⟨l[i],List.getElem_mem hi,hp⟩))]
   simp [Bool.not_eq_true _▸hany]
def Ans (m:Option Bool) (P:Prop):Prop:=∃b,m=some b∧(b=true↔P)
theorem Ans.eq {m:Option Bool} {P:Prop} (h:Ans m P):m=some (decide P):=by
 obtain⟨b,rfl,hb⟩:=h
 congr 1
 by_cases hp:P
 · rw [hb.2 hp];simp [hp]
 · have:b=false:=by cases b with|false=>rfl|true=>exact absurd (hb.1 rfl) hp
   rw [this];simp [hp]
theorem Ans.of {P:Prop} [Decidable P]:Ans (some (decide P)) P:=⟨_,rfl,by simp⟩
theorem Ans.ofb {b:Bool} {P:Prop} (h:b=true↔P):Ans (some b) P:=⟨b,rfl,h⟩
theorem Ans.yes {P:Prop} (h:P):Ans (some true) P:=⟨_,rfl,by simp [h]⟩
theorem Ans.no {P:Prop} (h:¬P):Ans (some false) P:=⟨_,rfl,by simp [h]⟩
theorem Ans.iff {m:Option Bool} {P Q:Prop} (h:Ans m P) (e:P↔Q):Ans m Q:=by
 obtain⟨b,hm,hb⟩:=h
 exact⟨b,hm,hb.trans e⟩
theorem Ans.id {m:Option Bool} {P:Prop} (h:Ans m P):Ans (Option.bind m fun x=>some x) P:=by
 obtain⟨b,rfl,hb⟩:=h
 exact⟨b,rfl,hb⟩
theorem Ans.not {m:Option Bool} {P:Prop} (h:Ans m P):Ans (Option.bind m fun x=>some (!x)) (¬P):=by
 obtain⟨b,rfl,hb⟩:=h
 exact⟨!b,rfl,by rw [←hb];simp⟩
theorem Ans.and {m n:Option Bool} {P Q:Prop} (h:Ans m P) (k:P→Ans n Q):Ans (Option.bind m fun x=>if x=true then n else some false) (P∧Q):=by
 obtain⟨b,rfl,hb⟩:=h
 by_cases hp:P
 · obtain⟨c,rfl,hc⟩:=k hp
   exact⟨c,by simp [hb.2 hp],by simp [hp,hc]⟩
 · have:b=false:=by cases b with|false=>rfl|true=>exact absurd (hb.1 rfl) hp
   exact⟨false,by simp [this],by simp [hp]⟩
theorem Ans.nand {m n:Option Bool} {P Q:Prop} (h:Ans m P) (k:P→Ans n Q):Ans (Option.bind m fun x=>if(!x)=true then some false else n) (P∧Q):=by
 obtain⟨b,rfl,hb⟩:=h
 by_cases hp:P
 · obtain⟨c,rfl,hc⟩:=k hp
   exact⟨c,by simp [hb.2 hp],by simp [hp,hc]⟩
 · have:b=false:=by cases b with|false=>rfl|true=>exact absurd (hb.1 rfl) hp
   exact⟨false,by simp [this],by simp [hp]⟩
theorem Ans.ite {n:Option Bool} {b:Bool} {P Q:Prop} (h:b=true↔P) (k:P→Ans n Q):Ans (if b=true then n else some false) (P∧Q):=Ans.and (m:=some b) (Ans.ofb h) k
theorem Ans.ite' {n:Option Bool} {b:Bool} {P Q:Prop} (h:b=true↔¬P) (k:P→Ans n Q):Ans (if b=true then some false else n) (P∧Q):=by
 by_cases hp:P
 · obtain⟨c,rfl,hc⟩:=k hp
   have:b=false:=by cases b with|false=>rfl|true=>exact absurd hp (h.1 rfl)
   exact⟨c,by simp [this],by simp [hp,hc]⟩
 · exact⟨false,by simp [h.2 hp],by simp [hp]⟩
def jn (i:Int) (b:Bool):Option (Sum Int (Sum Int Bool)):=if b=true then some (.inl (W (i+1)))else some (.inr (.inr false))
theorem c1k (i:Int):(some (.inl (W (i+1))):Option (Sum Int (Sum Int Bool)))=jn i true:=rfl
theorem c1s (i:Int):(some (.inr (.inr false)):Option (Sum Int (Sum Int Bool)))=jn i false:=rfl
theorem b5a (i:Int) (a b c:Bool):(if a=true then jn i b else jn i c)=jn i ((a&&b)||(!a&&c)):=by cases a<;>simp
def Rnd (i:Int) (m:Option (Sum Int (Sum Int Bool))) (P:Prop):Prop:=∃b,m=jn i b∧(b=true↔P)
theorem Rnd.go {i:Int} {P:Prop} (h:P):Rnd i (some (.inl (W (i+1)))) P:=⟨true,rfl,by simp [h]⟩
theorem Rnd.end {i:Int} {P:Prop} (h:¬P):Rnd i (some (.inr (.inr false))) P:=⟨false,rfl,by simp [h]⟩
theorem Rnd.iff {i:Int} {m:Option (Sum Int (Sum Int Bool))} {P Q:Prop} (h:Rnd i m P) (e:P↔Q):Rnd i m Q:=by
 obtain⟨b,hm,hb⟩:=h
 exact⟨b,hm,hb.trans e⟩
theorem Rnd.nand {i:Int} {m:Option Bool} {n:Option (Sum Int (Sum Int Bool))} {P Q:Prop} (h:Ans m P) (k:P→Rnd i n Q):Rnd i (Option.bind m fun x=>if(!x)=true then some (.inr (.inr false))else n) (P∧Q):=by
 obtain⟨b,rfl,hb⟩:=h
 by_cases hp:P
 · obtain⟨c,rfl,hc⟩:=k hp
   exact⟨c,by simp [hb.2 hp],by simp [hp,hc]⟩
 · have:b=false:=by cases b with|false=>rfl|true=>exact absurd (hb.1 rfl) hp
   exact⟨false,by simp [this];rfl,by simp [hp]⟩
theorem Rnd.and {i:Int} {m:Option Bool} {n:Option (Sum Int (Sum Int Bool))} {P Q:Prop} (h:Ans m P) (k:¬P→Rnd i n Q):Rnd i (Option.bind m fun x=>if x=true then some (.inr (.inr false))else n) (¬P∧Q):=by
 obtain⟨b,rfl,hb⟩:=h
 by_cases hp:P
 · exact⟨false,by simp [hb.2 hp];rfl,by simp [hp]⟩
 · obtain⟨c,rfl,hc⟩:=k hp
   have:b=false:=by cases b with|false=>rfl|true=>exact absurd (hb.1 rfl) hp
   exact⟨c,by simp [this],by simp [hp,hc]⟩
theorem Rnd.ite {i:Int} {b:Bool} {n:Option (Sum Int (Sum Int Bool))} {P Q:Prop} (h:b=true↔¬P) (k:P→Rnd i n Q):Rnd i (if b=true then some (.inr (.inr false))else n) (P∧Q):=by
 by_cases hp:P
 · obtain⟨c,rfl,hc⟩:=k hp
   have:b=false:=by cases b with|false=>rfl|true=>exact absurd hp (h.1 rfl)
   exact⟨c,by simp [this],by simp [hp,hc]⟩
 · exact⟨false,by simp [h.2 hp];rfl,by simp [hp]⟩
theorem Rnd.get {i:Int} {α:Type} {l:List α} {j:Nat} (hj:j<l.length) {n:α→Option (Sum Int (Sum Int Bool))} {P:Prop} (h:Rnd i (n l[j]) P):Rnd i (Option.bind (idx l (j:Int)) n) P:=by
 have:Sx.idx l (j:Int)=some l[j]:=by simp [Sx.idx,hj]
 rw [this];exact h
theorem b7d {body:Int→Option (Sum Int (Sum Int Bool))} (n:Nat) (hn:n≤9223372036854775807) (q:Nat→Prop) (k:Nat) (hk:k≤n) (h:∀i:Nat,k≤i→i<n→Rnd (i:Int) (body (i:Int)) (q i))
 (he:body (n:Int)=some (.inr (.inl (n:Int)))):
 Ans ((j4 body (k:Int)).bind fun e=>match e with| .inl _=>some true| .inr r=>some r) (∀i,k≤i→i<n→q i):=by
 refine⟨decide (∀i,k≤i→i<n→q i), ?_,by simp⟩
 refine c0B n hn q k hk (fun i h1 h2=> ?_) he _ (by simp)
 obtain⟨b,hb,hq⟩:=h i h1 h2
 have hw:W ((i:Int)+1)=((i+1:Nat):Int):=W_s (by omega)
 cases b with
 |true=>exact .inl ⟨hq.1 rfl,by rw [hb];simp [jn,hw]⟩
 |false=>exact .inr ⟨fun h=>by simpa using hq.2 h,by rw [hb];rfl⟩
def Lp (m:Option (Sum Int Bool)) (P:Prop):Prop:=(P∧∃j,m=some (.inl j))∨(¬P∧m=some (.inr false))
theorem Lp.iff {m:Option (Sum Int Bool)} {P Q:Prop} (h:Lp m P) (e:P↔Q):Lp m Q:=by
 rcases h with⟨h,h'⟩|⟨h,h'⟩
 · exact .inl ⟨e.1 h,h'⟩
 · exact .inr ⟨fun q=>h (e.2 q),h'⟩
theorem Ans.loop {m:Option (Sum Int Bool)} {n:Option Bool} {P Q:Prop} (h:Lp m P) (k:P→Ans n Q):Ans (m.bind fun e=>match e with| .inl _=>n| .inr r=>some r) (P∧Q):=by
 rcases h with⟨h,j,rfl⟩|⟨h,rfl⟩
 · obtain⟨b,hb,hq⟩:=k h
   exact⟨b,hb,by simp [h,hq]⟩
 · exact⟨false,rfl,by simp [h]⟩
theorem Ans.lp {m:Option (Sum Int Bool)} {P:Prop} (h:Lp m P):Ans (m.bind fun e=>match e with| .inl _=>some true| .inr r=>some r) P:=(Ans.loop (Q:=True) h fun _=> .yes trivial).iff (by simp)
theorem a3x {body:Int→Option (Sum Int (Sum Int Bool))} (n:Nat) (hn:n≤9223372036854775807) (q:Nat→Prop) (h:∀i:Nat,i<n→Rnd (i:Int) (body (i:Int)) (q i))
 (he:body (n:Int)=some (.inr (.inl (n:Int)))):Lp (j4 body 0) (∀i,i<n→q i):=by
 by_cases hall:∀i,i<n→q i
 · have hs:=a2l (body:=body) n hn (fun _=>(none:Option Bool)) 0 (Nat.zero_le _) (fun i _ h2=>by
    obtain⟨b,hb,hq⟩:=h i h2
    rw [hb,hq.2 (hall i h2)];simp only [jn,if_true];rw [W_s (by omega)]) he
   rw [a3n _ _ (fun _ _ _=>rfl)]at hs
   exact .inl ⟨hall,_,hs⟩
 · refine .inr ⟨hall, ?_⟩
   have h2:=b7d n hn q 0 (Nat.zero_le _) (fun i _ h2=>h i h2) he
   have h3:=h2.eq
   rw [decide_eq_false (fun h=>hall fun i hi=>h i (Nat.zero_le _) hi)]at h3
   rw [show((0:Int))=((0:Nat):Int) from rfl]
   cases hl:j4 body ((0:Nat):Int)with
   |none=>rw [hl]at h3;cases h3
   |some e=>
    rw [hl]at h3
    cases e with
    |inl x=>simp at h3
    |inr r=>simp at h3;rw [h3]
theorem Rnd.loop {j:Int} {m:Option (Sum Int Bool)} {P:Prop} (h:Lp m P):Rnd j (m.bind fun e=>match e with| .inl _=>some (.inl (W (j+1)))| .inr r=>some (.inr (.inr r))) P:=by
 rcases h with⟨h,_,rfl⟩|⟨h,rfl⟩
 · exact .go h
 · exact .end h
theorem a1b {α:Type} (l:List α) (hl:l.length≤9223372036854775807) (P:α→Option Bool) (Q:α→Prop) (hP:∀x,x∈l→Ans (P x) (Q x)):
 Ans (Option.bind (Option.bind (j4 (fun(v:Int)=>if(decide (v<(l.length:Int)))=true then Option.bind (idx l v) fun e=>Option.bind (P e) fun x=>if x=true then some (.inr (.inr v))else some (.inl (W (v+1)))else some (.inr (.inl v))) 0)
  fun(e:Sum Int Int)=>match e with| .inl _=>some (-1)| .inr r=>some r) fun x=>some (decide (x≥0))) (∃x,x∈l∧Q x):=
 ⟨_,b6r l hl P (fun x=>decide (Q x)) (fun x hx=>(hP x hx).eq),by simp⟩
theorem b3H {α:Type} {l:List α} {most:Int} {C:Option Bool} {ok:α→Prop} (hC:l.length≤9223372036854775807→Ans C (∃x,x∈l∧¬ok x)) (hm:most≤9223372036854775807):
 Ans (if(decide ((l.length:Int)≤most))=true then Option.bind C fun x=>some (!x)else some false) ((l.length:Int)≤most∧∀x,x∈l→ok x):=
 Ans.ite (by simp) fun h=>(hC (by omega)).not.iff (by simp)
def G3 {α:Type} (f:α→α→Prop) (l:List α):Prop:=∀i a b,l[i]?=some a→l[i+1]?=some b→f a b
theorem b1Y {α:Type} (l:List α) (hl:l.length≤9223372036854775807) (cmp:α→α→Option Int) (c:α→α→Int) (f:α→α→Prop) (hc:∀a b,cmp a b=some (c a b)) (hf:∀a b,c a b<0↔f a b):
 Ans (Option.bind (j4 (fun(i:Int)=>if(decide (i<(l.length:Int)))=true then Option.bind (idx l (W (i-1))) fun a=>Option.bind (idx l i) fun b=>Option.bind (cmp a b) fun x=>
  if(decide (x≥0))=true then some (.inr (.inr false))else some (.inl (W (i+1)))else some (.inr (.inl i))) 1) fun(e:Sum Int Bool)=>match e with| .inl _=>some true| .inr r=>some r) (G3 f l):=by
 by_cases h0:l.length=0
 · refine⟨true, ?_,by simp;intro i a b h1 _;rw [List.getElem?_eq_none (by omega)]at h1;cases h1⟩
   have:=a2l (R:=Bool) (body:=fun(i:Int)=>if(decide (i<(l.length:Int)))=true then Option.bind (idx l (W (i-1))) fun a=>Option.bind (idx l i) fun b=>Option.bind (cmp a b) fun x=>
    if(decide (x≥0))=true then some (.inr (.inr false))else some (.inl (W (i+1)))else some (.inr (.inl i))) 1 (by omega) (fun _=>none) 1 (Nat.le_refl _) (fun i h1 h2=>by omega) (by simp [h0])
   exact(congrArg (fun o=>Option.bind o _) this).trans rfl
 · refine(b7d (body:=fun(i:Int)=>if(decide (i<(l.length:Int)))=true then Option.bind (idx l (W (i-1))) fun a=>Option.bind (idx l i) fun b=>Option.bind (cmp a b) fun x=>
    if(decide (x≥0))=true then some (.inr (.inr false))else some (.inl (W (i+1)))else some (.inr (.inl i))) l.length hl (fun i=>∀a b,l[i-1]?=some a→l[i]?=some b→f a b) 1 (by omega) (fun i h1 h2=> ?_) (by simp)).iff ?_
   · have e1:W ((i:Int)-1)=((i-1:Nat):Int):=by rw [a0D (by omega)];omega
     have e2:idx l ((i-1:Nat):Int)=some (l[i-1]'(by omega)):=by simp [idx,show i-1<l.length by omega]
     have e3:idx l ((i:Nat):Int)=some (l[i]'h2):=by simp [idx,h2]
     have hlt:((i:Int)<(l.length:Int)):=by omega
     simp only [hlt,decide_true,if_true,e1,e2,e3,Option.bind_some,hc]
     rw [List.getElem?_eq_getElem (show i-1<l.length by omega),List.getElem?_eq_getElem h2]
     refine(Rnd.ite (P:=c (l[i-1]'(by omega)) (l[i]'h2)<0) (Q:=True) (by simp) fun _=> .go trivial).iff ?_
     rw [and_true,hf]
     exact⟨fun h a b ha hb=>by cases ha;cases hb;exact h,fun h=>h _ _ rfl rfl⟩
   · constructor
     · intro h i a b ha hb'
       have:i+1<l.length:=by
        rcases Nat.lt_or_ge (i+1) l.length with h|h
        · exact h
        · rw [List.getElem?_eq_none h]at hb';cases hb'
       exact h (i+1) (by omega) this a b (by simpa using ha) hb'
     · intro h i h1 h2 a b ha hb'
       exact h (i-1) a b ha (by rw [Nat.sub_add_cancel h1];exact hb')
theorem b2g {α:Type} (l:List α) (ok:α→Prop) (f:α→α→Prop):(∀i,0≤i→i<l.length→(∀x,l[i]?=some x→ok x)∧(0<i→∀a,l[i-1]?=some a→∀b,l[i]?=some b→f a b))↔(∀x,x∈l→ok x)∧G3 f l:=by
 constructor
 · intro h
   refine⟨fun x hx=> ?_,fun i a b ha hb=> ?_⟩
   · obtain⟨i,hi,rfl⟩:=List.getElem_of_mem hx
     exact(h i (Nat.zero_le _) hi).1 _ (List.getElem?_eq_getElem hi)
   · have:i+1<l.length:=by
      rcases Nat.lt_or_ge (i+1) l.length with h|h
      · exact h
      · rw [List.getElem?_eq_none h]at hb;cases hb
     exact(h (i+1) (Nat.zero_le _) this).2 (by omega) a (by simpa using ha) b hb
 · intro⟨h1,h2⟩ i _ hi
   refine⟨fun x hx=>h1 x (List.mem_of_getElem? hx),fun h0 a ha b hb=>h2 (i-1) a b ha (by rw [Nat.sub_add_cancel h0];exact hb)⟩
theorem U8 (n lo hi:Int):Ans (i5 n lo hi) (lo≤n∧n≤hi):=Ans.ite (by simp) fun _=>Ans.ofb (by simp)
theorem a9d (n lo hi:Int):Ans (C7 n lo hi) (lo≤n∧n≤hi):=Ans.ite (by simp) fun _=>Ans.ofb (by simp)
theorem a3r (n:Int):Ans (u7 n) (0≤n∧n≤5):=(U8 _ _ _).id
theorem a5O (n:Int):Ans (u6 n) (0≤n∧n≤100000):=(U8 _ _ _).id
theorem a5P (n:Int):Ans (j0 n) (1≤n∧n≤1000000):=(U8 _ _ _).id
theorem a9i (n:Int):Ans (A5 n) (6≤n∧n≤59999):=(U8 _ _ _).id
theorem a8h (n:Int):Ans (A1 n) (1≤n∧n≤99):=(U8 _ _ _).id
theorem a3g (n:Int):Ans (d9 n) (0≤n∧n≤144001439):=(U8 _ _ _).id
theorem b9T (n:Int):Ans (X9 n) (0≤n∧n≤63):=(U8 _ _ _).id
theorem a0S (n:Int):Ans (M0 n) (0≤n∧n≤5):=(a9d _ _ _).id
theorem a3i (n:Int):Ans (W9 n) (0≤n∧n≤100000):=(a9d _ _ _).id
theorem a4J (n:Int):Ans (u2 n) (1≤n∧n≤1000000):=(a9d _ _ _).id
theorem a7H (n:Int):Ans (Y0 n) (6≤n∧n≤59999):=(a9d _ _ _).id
theorem a6H (n:Int):Ans (a0x n) (1≤n∧n≤99):=(a9d _ _ _).id
theorem U5 (n:Int):Ans (F7 n) (0≤n∧n≤144001439):=(a9d _ _ _).id
theorem b5m (n:Int):Ans (a1d n) (0≤n∧n≤63):=(a9d _ _ _).id
def qr (n:Int):Bool:=(M4 n).getD false
set_option maxRecDepth 10000 in theorem quorum_f : ∀ n : Fin 64, O6 (n.val : Int) = some (qr (n.val : Int)) ∧ M4 (n.val : Int) = some (qr (n.val : Int)) := by decide +kernel
theorem b4I {n:Int} (h:0≤n∧n≤63):O6 n=some (qr n)∧M4 n=some (qr n):=by
 have:=quorum_f ⟨n.toNat,by omega⟩
 simpa [Int.toNat_of_nonneg h.1]using this
theorem a7N {n:Int} (h:0≤n):n.tmod 6=n % 6:=Int.tmod_eq_emod_of_nonneg h
def Z7 (s:a8):Prop:=(0≤s.Night∧s.Night≤100000)∧(6≤s.Promised∧s.Promised≤59999)∧((s.Ballot=0∧s.Value=0)∨((6≤s.Ballot∧s.Ballot≤s.Promised)∧(1≤s.Value∧s.Value≤1000000)))
def a3W (me r:Int) (b:c0):Prop:=(0≤b.Night∧b.Night≤100000)∧(6≤b.Ballot∧b.Ballot≤6*r+me)∧b.Ballot % 6=me∧(1≤b.Value∧b.Value≤1000000)∧(0≤b.Best∧b.Best≤b.Ballot-1)∧(0≤b.Mask∧b.Mask≤63)∧b.Asked=qr b.Mask
def a4l (h:a7):Prop:=(6≤h.Ballot∧h.Ballot≤59999)∧(0≤h.Night∧h.Night≤100000)∧(1≤h.Value∧h.Value≤1000000)∧h.Mask≠0∧(0≤h.Mask∧h.Mask≤63)
def a2E (me:Int) (l:b8):Prop:=(1≤l.Thing∧l.Thing≤99)∧l.Thing % 6=me∧(0≤l.To∧l.To≤5)∧l.To≠me∧(0≤l.From∧l.From≤144001439)∧(0≤l.Until∧l.Until≤144001439)∧l.From≤l.Until
def a3s (me:Int) (l:b6):Prop:=(0≤l.Owner∧l.Owner≤5)∧l.Owner≠me∧(1≤l.No∧l.No≤40)∧(1≤l.Thing∧l.Thing≤99)∧l.Thing % 6=l.Owner∧(0≤l.From∧l.From≤144001439)∧(0≤l.Until∧l.Until≤144001439)∧l.From≤l.Until
def a1A (a b:b8):Prop:=max a.From b.From<min a.Until b.Until
def a2O (a b:a8):Prop:=a.Night<b.Night
def a6W (a b:c0):Prop:=a.Night<b.Night
def a1j (a b:a7):Prop:=a.Ballot<b.Ballot∨(a.Ballot=b.Ballot∧a.Night<b.Night)
def a0Z (a b:b6):Prop:=a.Owner<b.Owner∨(a.Owner=b.Owner∧a.No<b.No)
def a7F {α:Type} (f:α→α→Prop) (l:List α):Prop:=∀(i:Nat) x,l[i]?=some x→∀y,y∈l.take i→¬f y x
structure m9 (me:Int) (s:b7):Prop where
 dep:0≤me∧me≤5
 round:0≤s.Round∧s.Round≤9999
 nslots:(s.Slots.length:Int)≤12
 slots:∀x,x∈s.Slots→Z7 x
 nbids:(s.Bids.length:Int)≤12
 bids:∀x,x∈s.Bids→a3W me s.Round x
 nheard:(s.Heard.length:Int)≤60
 heard:∀x,x∈s.Heard→a4l x
 nleases:(s.Leases.length:Int)≤40
 leases:∀x,x∈s.Leases→a2E me x
 nloans:(s.Loans.length:Int)≤60
 loans:∀x,x∈s.Loans→a3s me x
 rslots:G3 a2O s.Slots
 rbids:G3 a6W s.Bids
 rheard:G3 a1j s.Heard
 rloans:G3 a0Z s.Loans
 ballots:a7F (fun a b=>a.Ballot=b.Ballot) s.Bids
 nos:∀(i:Nat) x,s.Leases[i]?=some x→x.No=(i:Int)+1
 meets:a7F (fun a b=>a.Thing=b.Thing∧a1A a b) s.Leases
theorem c3O (s:a8):Ans (a1C s) (Z7 s):=by
 have e1:=(a5O s.Night).eq
 have e2:=(a9i s.Promised).eq
 have e3:=(a5P s.Value).eq
 have e4:=(U8 s.Ballot 6 s.Promised).eq
 unfold a1C
 simp only [e1,e2,e3,e4,Option.bind_some]
 refine⟨decide (Z7 s), ?_,by simp⟩
 unfold Z7
 by_cases h1:s.Ballot=0<;>by_cases h2:s.Value=0<;>by_cases h3:(0≤s.Night∧s.Night≤100000)<;>by_cases h4:(6≤s.Promised∧s.Promised≤59999)<;>by_cases h5:(6≤s.Ballot∧s.Ballot≤s.Promised)<;>simp [h1,h2,h3,h4,h5]<;>omega
theorem b3i (f u:Int):Ans (U3 f u) ((0≤f∧f≤144001439)∧(0≤u∧u≤144001439)∧f≤u):=
 Ans.and (a3g f) fun _=>Ans.and (a3g u) fun _=> .of
theorem c6z {me:Int} {s:b7} (hm:0≤me∧me≤5) (hr:0≤s.Round∧s.Round≤9999) (b:c0):Ans (a0c b s me) (a3W me s.Round b):=by
 have w:W (W (6*s.Round)+me)=6*s.Round+me:=by rw [a0D (z:=6*s.Round) (by omega),a0D (by omega)]
 unfold a0c
 rw [w]
 refine Ans.and (a5O _) fun h1=>Ans.and (U8 _ _ _) fun h2=> ?_
 rw [a0D (z:=b.Ballot-1) (by omega)]
 show Ans (if(b.Ballot.tmod 6==me)=true then _ else some false) _
 refine Ans.ite (by rw [a7N (by omega)];simp) fun h3=>Ans.and (a5P _) fun h4=>Ans.and (U8 _ _ _) fun h5=>Ans.and (b9T _) fun h6=> ?_
 rw [(b4I h6).1]
 exact Ans.ofb (by simp)
theorem c4b (h:a7):Ans (a1R h) (a4l h):=
 Ans.and (a9i _) fun _=>Ans.and (a5O _) fun _=>Ans.and (a5P _) fun _=>Ans.ite (by simp) fun _=>(b9T _).id
theorem c4T (me:Int) (l:b8):Ans (a0g l me) (a2E me l):=by
 unfold a0g
 refine Ans.and (a8h _) fun h1=> ?_
 show Ans (if(l.Thing.tmod 6==me)=true then _ else some false) _
 exact Ans.ite (by rw [a7N (by omega)];simp) fun h3=>Ans.and (a3r _) fun _=>Ans.ite (by simp) fun _=>(b3i _ _).id
theorem c5o (me:Int) (l:b6):Ans (a0d l me) (a3s me l):=by
 unfold a0d
 refine Ans.and (a3r _) fun _=>Ans.ite (by simp) fun _=>Ans.and (U8 _ _ _) fun _=>Ans.and (a8h _) fun h1=> ?_
 show Ans (if(l.Thing.tmod 6==l.Owner)=true then _ else some false) _
 exact Ans.ite (by rw [a7N (by omega)];simp) fun h3=>(b3i _ _).id
theorem c4j (l:List a8):Ans (J5 l 12) ((l.length:Int)≤12∧∀x,x∈l→Z7 x):=
 b3H (fun hl=>a1b l hl I3 _ fun x _=>(c3O x).not) (by omega)
theorem c5n {me:Int} {s:b7} (hm:0≤me∧me≤5) (hr:0≤s.Round∧s.Round≤9999) (l:List c0):Ans (I2 l 12 s me) ((l.length:Int)≤12∧∀x,x∈l→a3W me s.Round x):=
 b3H (fun hl=>a1b l hl (fun x=>F6 x s me) _ fun x _=>(c6z hm hr x).not) (by omega)
theorem c1X (l:List a7):Ans (F5 l 60) ((l.length:Int)≤60∧∀x,x∈l→a4l x):=
 b3H (fun hl=>a1b l hl D5 _ fun x _=>(c4b x).not) (by omega)
theorem c2K (me:Int) (l:List b8):Ans (F3 l 40 me) ((l.length:Int)≤40∧∀x,x∈l→a2E me x):=
 b3H (fun hl=>a1b l hl (fun x=>D6 x me) _ fun x _=>(c4T me x).not) (by omega)
theorem c4G (me:Int) (l:List b6):Ans (G6 l 60 me) ((l.length:Int)≤60∧∀x,x∈l→a3s me x):=
 b3H (fun hl=>a1b l hl (fun x=>E4 x me) _ fun x _=>(c5o me x).not) (by omega)
def a8Y (x y:Int):Int:=if x<y then-1 else if x>y then 1 else 0
theorem b6J (x y:Int):H5 x y=some (a8Y x y):=by
 unfold a8Y
 simp only [H5,a1J,Option.bind_some,bne_self_eq_false,if_false]
 by_cases h1:x<y<;>by_cases h2:x>y<;>simp [h1,h2]
theorem X8 {x y:Int}:a8Y x y<0↔x<y:=by
 unfold a8Y;split
 · simp;assumption
 · split<;>simp<;>omega
theorem a1D {x y:Int}:a8Y x y=0↔x=y:=by
 unfold a8Y;split
 · simp;omega
 · split<;>simp<;>omega
def b4l (a b c d:Int):Int:=if a8Y a b=0 then a8Y c d else a8Y a b
theorem a8b {a b c d:Int}:b4l a b c d<0↔a<b∨(a=b∧c<d):=by
 unfold b4l
 split
 · rename_i h;rw [a1D]at h;rw [X8];omega
 · rename_i h;rw [a1D]at h;rw [X8];omega
theorem b9V {a b c d:Int}:b4l a b c d=0↔a=b∧c=d:=by
 unfold b4l
 split
 · rename_i h;rw [a1D]at h;rw [a1D];omega
 · rename_i h;have h':=h;rw [a1D]at h;rw [a1D];omega
theorem c5j (a b:Int):a2A [a,b]=some (if a=0 then b else a):=by
 have hs:=a2l (R:=Int) (body:=a0t [a,b]) 2 (by omega) (fun i=>if i=0 then(if a=0 then none else some a)else(if b=0 then none else some b)) 0 (Nat.zero_le _) (fun i _ h2=>by
  have:i=0∨i=1:=by omega
  unfold a0t
  rcases this with rfl|rfl
  · by_cases h:a=0<;>simp [idx,h];exact W_s (by omega)
  · by_cases h:b=0<;>simp [idx,h];exact W_s (by omega)) (by simp [a0t])
 unfold a2A
 rw [show((0:Int))=((0:Nat):Int) from rfl,hs]
 by_cases h:a=0<;>by_cases h':b=0<;>simp [b3Y,h,h']
theorem a6Y (a b:a8):G5 a b=some (a8Y a.Night b.Night):=by simp only [G5,b6J,Option.bind_some]
theorem a7K (a b:c0):I6 a b=some (a8Y a.Night b.Night):=by simp only [I6,b6J,Option.bind_some]
theorem a7b (a b:a7):G8 a b=some (b4l a.Ballot b.Ballot a.Night b.Night):=by simp only [G8,b6J,Option.bind_some,c5j,b4l]
theorem a6S (a b:b6):G7 a b=some (b4l a.Owner b.Owner a.No b.No):=by simp only [G7,b6J,Option.bind_some,c5j,b4l]
theorem c2s (l:List a8) (hl:l.length≤9223372036854775807):Ans (C6 l) (G3 a2O l):=b1Y l hl _ _ _ a6Y fun _ _=>X8
theorem c4H (l:List c0) (hl:l.length≤9223372036854775807):Ans (E6 l) (G3 a6W l):=b1Y l hl _ _ _ a7K fun _ _=>X8
theorem c3n (l:List a7) (hl:l.length≤9223372036854775807):Ans (B7 l) (G3 a1j l):=b1Y l hl _ _ _ a7b fun _ _=>a8b
theorem c3l (l:List b6) (hl:l.length≤9223372036854775807):Ans (D0 l) (G3 a0Z l):=b1Y l hl _ _ _ a6S fun _ _=>a8b
theorem b0L (a b:Int):(if b>a then b else a)=max a b:=by split<;>omega
theorem b0Y (a b:Int):(if b<a then b else a)=min a b:=by split<;>omega
theorem c2W (a b:b8):Ans (a1s a b) (a1A a b):=by
 unfold a1s a1A
 rw [b0L,b0Y];exact .of
theorem c6j {α:Type} (l:List α) (k:Nat):sub l 0 k=l.take k:=by simp [sub]
theorem c0R (s:b7) (hl:s.Bids.length≤9223372036854775807):Lp (j4 (Q2 s) 0) (a7F (fun a b=>a.Ballot=b.Ballot) s.Bids):=by
 refine(a3x s.Bids.length hl (fun i=>∀x,s.Bids[i]?=some x→∀y,y∈s.Bids.take i→¬y.Ballot=x.Ballot) (fun i h2=> ?_) (by simp [Q2])).iff ?_
 · have hlt:((i:Int)<(s.Bids.length:Int)):=by omega
   have hg:0≤(i:Int)∧(i:Int)≤(s.Bids.length:Int):=by omega
   unfold Q2
   simp only [hlt,decide_true,if_true]
   refine Rnd.get h2 ?_
   simp only [gd,hg,and_self,if_true,Option.bind_some,c6j,Int.toNat_natCast]
   refine(Rnd.and (a1b _ (by simp;omega) (fun x=>a1Y x s.Bids[i]) (fun y=>y.Ballot=s.Bids[i].Ballot) fun x _=>Ans.ofb (by simp)) fun _=> .go trivial).iff ?_
   rw [List.getElem?_eq_getElem h2]
   simp
 · exact⟨fun h i x hx=>h i ((List.getElem?_eq_some_iff.1 hx).1) x hx,fun h i _=>h i⟩
theorem c3Y (s:b7) (hl:s.Leases.length≤9223372036854775806):Lp (j4 (Q3 s) 0) ((∀(i:Nat) x,s.Leases[i]?=some x→x.No=(i:Int)+1)∧a7F (fun a b=>a.Thing=b.Thing∧a1A a b) s.Leases):=by
 refine(a3x s.Leases.length (by omega) (fun i=>∀x,s.Leases[i]?=some x→x.No=(i:Int)+1∧∀y,y∈s.Leases.take i→¬(y.Thing=x.Thing∧a1A y x)) (fun i h2=> ?_) (by simp [Q3])).iff ?_
 · have hlt:((i:Int)<(s.Leases.length:Int)):=by omega
   have hg:0≤(i:Int)∧(i:Int)≤(s.Leases.length:Int):=by omega
   unfold Q3
   simp only [hlt,decide_true,if_true]
   refine Rnd.get h2 ?_
   refine(Rnd.ite (P:=s.Leases[i].No=(i:Int)+1) (Q:=∀y,y∈s.Leases.take i→¬(y.Thing=s.Leases[i].Thing∧a1A y s.Leases[i])) (by rw [a0D (by omega)];simp) fun _=> ?_).iff (Q:=∀x,s.Leases[i]?=some x→x.No=(i:Int)+1∧∀y,y∈s.Leases.take i→¬(y.Thing=x.Thing∧a1A y x)) ?_
   · simp only [gd,hg,and_self,if_true,Option.bind_some,c6j,Int.toNat_natCast]
     refine(Rnd.and (a1b _ (by simp;omega) (fun x=>a1O x s.Leases[i]) (fun y=>y.Thing=s.Leases[i].Thing∧a1A y s.Leases[i]) fun x _=>Ans.ite (by simp) fun _=>(c2W _ _).id) fun _=> .go trivial).iff ?_
     simp
   · rw [List.getElem?_eq_getElem h2]
     simp
 · constructor
   · intro h
     exact⟨fun i x hx=>(h i ((List.getElem?_eq_some_iff.1 hx).1) x hx).1,fun i x hx=>(h i ((List.getElem?_eq_some_iff.1 hx).1) x hx).2⟩
   · exact fun h i _ x hx=>⟨h.1 i x hx,h.2 i x hx⟩
theorem b3y {me:Int} {s:b7}:m9 me s↔(0≤me∧me≤5)∧(0≤s.Round∧s.Round≤9999)∧((s.Slots.length:Int)≤12∧∀x,x∈s.Slots→Z7 x)∧((s.Bids.length:Int)≤12∧∀x,x∈s.Bids→a3W me s.Round x)∧((s.Heard.length:Int)≤60∧∀x,x∈s.Heard→a4l x)∧((s.Leases.length:Int)≤40∧∀x,x∈s.Leases→a2E me x)∧((s.Loans.length:Int)≤60∧∀x,x∈s.Loans→a3s me x)∧G3 a2O s.Slots∧G3 a6W s.Bids∧G3 a1j s.Heard∧G3 a0Z s.Loans∧a7F (fun a b=>a.Ballot=b.Ballot) s.Bids∧((∀(i:Nat) x,s.Leases[i]?=some x→x.No=(i:Int)+1)∧a7F (fun a b=>a.Thing=b.Thing∧a1A a b) s.Leases):=by
 constructor
 · rintro⟨a,b,c1,c2,d1,d2,e1,e2,f1,f2,g1,g2,h1,h2,h3,h4,h5,h6,h7⟩
   exact⟨a,b,⟨c1,c2⟩,⟨d1,d2⟩,⟨e1,e2⟩,⟨f1,f2⟩,⟨g1,g2⟩,h1,h2,h3,h4,h5,h6,h7⟩
 · rintro⟨a,b,⟨c1,c2⟩,⟨d1,d2⟩,⟨e1,e2⟩,⟨f1,f2⟩,⟨g1,g2⟩,h1,h2,h3,h4,h5,h6,h7⟩
   exact⟨a,b,c1,c2,d1,d2,e1,e2,f1,f2,g1,g2,h1,h2,h3,h4,h5,h6,h7⟩
theorem b4C (me:Int) (s:b7):Ans (R5 me s) (m9 me s):=by
 refine Ans.iff ?_ b3y.symm
 unfold R5
 exact Ans.nand (a3r _) fun hm=>Ans.nand (U8 _ _ _) fun hr=>Ans.nand (c4j _) fun h1=>Ans.nand (c5n hm hr _) fun h2=>Ans.nand (c1X _) fun h3=>Ans.nand (c2K _ _) fun h4=>Ans.nand (c4G _ _) fun h5=>
  Ans.nand (c2s _ (by omega)) fun _=>Ans.nand (c4H _ (by omega)) fun _=>Ans.nand (c3n _ (by omega)) fun _=>Ans.nand (c3l _ (by omega)) fun _=>Ans.loop (c0R s (by omega)) fun _=>Ans.lp (c3Y s (by omega))
theorem a4F (n:Int):w7 n 6=some (n % 6):=by
 unfold w7
 simp only [gd,ne_eq,show¬(6:Int)=0 by omega,not_false_eq_true,if_true,Option.some.injEq]
 have h3:=Int.tmod_eq_emod (a:=n) (b:=6)
 have h1: -6<n.tmod 6∧n.tmod 6<6∧(n.tmod 6=n % 6∨n.tmod 6=n % 6-6):=by
  rw [h3];split<;>simp<;>omega
 rw [a0D (by omega),a7N (by omega)]
 omega
theorem b8o (m:Int):∃b,M4 m=some b:=by
 obtain⟨e,he,n,d,rfl⟩:=b1d (body:=a1I m) (fun st=>∃(n:Nat) (d:Nat),st=((n:Int),(d:Int))∧n≤d∧d≤6) (fun st=>(6-st.2).toNat) (fun st=>∃n d:Int,st=(n,d)) (by
  rintro st ⟨n,d,rfl,h1,h2⟩
  unfold a1I P4
  by_cases h:(d:Int)<6
  · right
    have hd:(0:Int)≤d:=by omega
    simp only [h,decide_true,if_true,gd,hd,Option.bind_some]
    split
    · exact⟨_,rfl,⟨n+1,d+1,by rw [W_s (by omega),W_s (by omega)],by omega,by omega⟩,by simp only;rw [W_s (by omega)];omega⟩
    · exact⟨_,rfl,⟨n,d+1,by rw [W_s (by omega)],by omega,by omega⟩,by simp only;rw [W_s (by omega)];omega⟩
  · left
    exact⟨((n:Int),(d:Int)),by simp only [h,decide_false,Bool.false_eq_true,if_false],_,_,rfl⟩) (0,0) ⟨0,0,rfl,by omega,by omega⟩ (by simp [a7j])
 unfold M4
 rw [he]
 exact⟨_,rfl⟩
theorem b3a (m:Int):M4 m=some (qr m):=by
 obtain⟨b,hb⟩:=b8o m
 rw [hb,qr,hb];rfl
theorem b2b {i:Nat} (h:0<i) (h2:i<9223372036854775807):W ((i:Int)-1)=((i-1:Nat):Int):=by rw [a0D (by omega)];omega
theorem v8 {α:Type} {l:List α} {i:Nat} {x:α} (h:l[i]?=some x):idx l (i:Int)=some x:=by simp [idx,h]
theorem a0P {α:Type} {l:List α} {i:Nat} (h:i<l.length):∃x,l[i]?=some x:=⟨_,List.getElem?_eq_getElem h⟩
theorem b6q {α:Type} {l:List α} {i:Nat} {m:Option (Sum Int (Sum Int Bool))} {ok:α→Prop} {f:α→α→Prop} (h:i<l.length) (k:∀x,l[i]?=some x→Rnd i m (ok x∧(0<i→∀y,l[i-1]?=some y→f y x))):
 Rnd (i:Int) m ((∀x,l[i]?=some x→ok x)∧(0<i→∀a,l[i-1]?=some a→∀b,l[i]?=some b→f a b)):=by
 obtain⟨x,hx⟩:=a0P h
 refine(k x hx).iff ?_
 rw [hx]
 simp
theorem c4a (l:List a8) (i:Nat) (h:i<l.length) (hl:l.length≤12):Rnd (i:Int) (V3 l i) ((∀x,l[i]?=some x→Z7 x)∧(0<i→∀a,l[i-1]?=some a→∀b,l[i]?=some b→a2O a b)):=by
 refine b6q h fun x hx=> ?_
 have hlt:((i:Int)<(l.length:Int)):=by omega
 have e1:=(a3i x.Night).eq
 have e2:=(a7H x.Promised).eq
 have e3:=(a4J x.Value).eq
 have e4:=(a9d x.Ballot 6 x.Promised).eq
 unfold V3
 simp only [hlt,decide_true,if_true,v8 hx,Option.bind_some,e1,e2,e3,e4]
 by_cases h0:0<i
 · obtain⟨y,hy⟩:=a0P (l:=l) (i:=i-1) (by omega)
   have h00:(i:Int)>0:=by omega
   simp only [h00,decide_true,if_true,b2b h0 (by omega),v8 hy,hy,Option.bind_some,c1k,c1s (i:Int),b5a,h0,true_imp_iff,Option.some.injEq,forall_eq']
   refine⟨_,rfl, ?_⟩
   simp only [Z7,a2O,Bool.or_eq_true,Bool.and_eq_true,Bool.not_eq_true',decide_eq_true_eq,decide_eq_false_iff_not,beq_iff_eq,Bool.not_not,beq_eq_false_iff_ne,ne_eq,Bool.and_false,Bool.and_true,Bool.false_or,Bool.or_false,Bool.false_eq_true]
   omega
 · have h00:¬((i:Int)>0):=by omega
   simp only [h00,decide_false,Bool.false_eq_true,if_false,c1k,c1s (i:Int),b5a,h0,false_imp_iff,and_true]
   refine⟨_,rfl, ?_⟩
   simp only [Z7,Bool.or_eq_true,Bool.and_eq_true,Bool.not_eq_true',decide_eq_true_eq,decide_eq_false_iff_not,beq_iff_eq,Bool.not_not,beq_eq_false_iff_ne,ne_eq,Bool.and_false,Bool.and_true,Bool.false_or,Bool.or_false,Bool.false_eq_true]
   omega
theorem c1N (l:List a7) (i:Nat) (h:i<l.length) (hl:l.length≤60):Rnd (i:Int) (V1 l i) ((∀x,l[i]?=some x→a4l x)∧(0<i→∀a,l[i-1]?=some a→∀b,l[i]?=some b→a1j a b)):=by
 refine b6q h fun x hx=> ?_
 have hlt:((i:Int)<(l.length:Int)):=by omega
 have e1:=(a3i x.Night).eq
 have e2:=(a7H x.Ballot).eq
 have e3:=(a4J x.Value).eq
 have e4:=(b5m x.Mask).eq
 unfold V1
 simp only [hlt,decide_true,if_true,v8 hx,Option.bind_some,e1,e2,e3,e4]
 by_cases h0:0<i
 · obtain⟨y,hy⟩:=a0P (l:=l) (i:=i-1) (by omega)
   have h00:(i:Int)>0:=by omega
   simp only [h00,decide_true,if_true,b2b h0 (by omega),v8 hy,hy,Option.bind_some,c1k,c1s (i:Int),b5a,h0,true_imp_iff,Option.some.injEq,forall_eq']
   refine⟨_,rfl, ?_⟩
   simp only [a4l,a1j,Bool.or_eq_true,Bool.and_eq_true,Bool.not_eq_true',decide_eq_true_eq,decide_eq_false_iff_not,beq_iff_eq,Bool.not_not,beq_eq_false_iff_ne,ne_eq,Bool.and_false,Bool.and_true,Bool.false_or,Bool.or_false,Bool.false_eq_true]
   omega
 · have h00:¬((i:Int)>0):=by omega
   simp only [h00,decide_false,Bool.false_eq_true,if_false,c1k,c1s (i:Int),b5a,h0,false_imp_iff,and_true]
   refine⟨_,rfl, ?_⟩
   simp only [a4l,Bool.or_eq_true,Bool.and_eq_true,Bool.not_eq_true',decide_eq_true_eq,decide_eq_false_iff_not,beq_iff_eq,Bool.not_not,beq_eq_false_iff_ne,ne_eq,Bool.and_false,Bool.and_true,Bool.false_or,Bool.or_false,Bool.false_eq_true]
   omega
theorem c4K (l:List b6) (me:Int) (i:Nat) (h:i<l.length) (hl:l.length≤60):Rnd (i:Int) (V0 l me i) ((∀x,l[i]?=some x→a3s me x)∧(0<i→∀a,l[i-1]?=some a→∀b,l[i]?=some b→a0Z a b)):=by
 refine b6q h fun x hx=> ?_
 have hlt:((i:Int)<(l.length:Int)):=by omega
 have e1:=(a0S x.Owner).eq
 have e2:=(a9d x.No 1 40).eq
 have e3:=(a6H x.Thing).eq
 have e4:=(U5 x.From).eq
 have e5:=(U5 x.Until).eq
 have et:1≤x.Thing∧x.Thing≤99→x.Thing.tmod 6=x.Thing % 6:=fun h=>a7N (by omega)
 unfold V0
 simp only [hlt,decide_true,if_true,v8 hx,Option.bind_some,e1,e2,e3,e4,e5]
 generalize x.Thing.tmod 6=tm at et⊢
 by_cases h0:0<i
 · obtain⟨y,hy⟩:=a0P (l:=l) (i:=i-1) (by omega)
   have h00:(i:Int)>0:=by omega
   simp only [h00,decide_true,if_true,b2b h0 (by omega),v8 hy,hy,Option.bind_some,c1k,c1s (i:Int),b5a,h0,true_imp_iff,Option.some.injEq,forall_eq']
   refine⟨_,rfl, ?_⟩
   simp only [a3s,a0Z,Bool.or_eq_true,Bool.and_eq_true,Bool.not_eq_true',decide_eq_true_eq,decide_eq_false_iff_not,beq_iff_eq,Bool.not_not,beq_eq_false_iff_ne,ne_eq,Bool.and_false,Bool.and_true,Bool.false_or,Bool.or_false,Bool.false_eq_true,bne_iff_ne,bne_eq_false_iff_eq]
   omega
 · have h00:¬((i:Int)>0):=by omega
   simp only [h00,decide_false,Bool.false_eq_true,if_false,c1k,c1s (i:Int),b5a,h0,false_imp_iff,and_true]
   refine⟨_,rfl, ?_⟩
   simp only [a3s,Bool.or_eq_true,Bool.and_eq_true,Bool.not_eq_true',decide_eq_true_eq,decide_eq_false_iff_not,beq_iff_eq,Bool.not_not,beq_eq_false_iff_ne,ne_eq,Bool.and_false,Bool.and_true,Bool.false_or,Bool.or_false,Bool.false_eq_true,bne_iff_ne,bne_eq_false_iff_eq]
   omega
theorem c4R (l:List c0) (i:Nat) (h:i<l.length) (hl:l.length≤12) (x:c0):Lp (j4 (L5 l i x) 0) (∀y,y∈l.take i→¬y.Ballot=x.Ballot):=by
 refine(a3x i (by omega) (fun k=>∀y,l[k]?=some y→¬y.Ballot=x.Ballot) (fun k hk=> ?_) (by simp [L5])).iff ?_
 · obtain⟨y,hy⟩:=a0P (l:=l) (i:=k) (by omega)
   have hlt:((k:Int)<(i:Int)):=by omega
   unfold L5
   simp only [hlt,decide_true,if_true,v8 hy,Option.bind_some,hy,Option.some.injEq,forall_eq']
   exact(Rnd.ite (P:=¬y.Ballot=x.Ballot) (by simp) fun _=> .go trivial).iff (by simp)
 · constructor
   · intro h' y hy
     obtain⟨k,hk,rfl⟩:=List.mem_take_iff_getElem.1 hy
     exact h' k (by omega) _ (List.getElem?_eq_getElem _)
   · intro h' k hk y hy
     exact h' y (List.mem_take_iff_getElem.2 ⟨k,by omega,(List.getElem?_eq_some_iff.1 hy).2⟩)
theorem b9Z (a b:b8):Ans (a4X a b) (a.Thing=b.Thing∧a1A a b):=by
 unfold a4X a1A
 rw [b0L,b0Y]
 exact Ans.ite (by simp) fun _=> .of
theorem c1J (l:List b8) (i:Nat) (h:i<l.length) (hl:l.length≤40) (x:b8):Lp (j4 (R6 l i x) 0) (∀y,y∈l.take i→¬(y.Thing=x.Thing∧a1A y x)):=by
 refine(a3x i (by omega) (fun k=>∀y,l[k]?=some y→¬(y.Thing=x.Thing∧a1A y x)) (fun k hk=> ?_) (by simp [R6])).iff ?_
 · obtain⟨y,hy⟩:=a0P (l:=l) (i:=k) (by omega)
   have hlt:((k:Int)<(i:Int)):=by omega
   unfold R6
   simp only [hlt,decide_true,if_true,v8 hy,Option.bind_some,hy,Option.some.injEq,forall_eq']
   exact(Rnd.and (b9Z y x) fun _=> .go trivial).iff (by simp)
 · constructor
   · intro h' y hy
     obtain⟨k,hk,rfl⟩:=List.mem_take_iff_getElem.1 hy
     exact h' k (by omega) _ (List.getElem?_eq_getElem _)
   · intro h' k hk y hy
     exact h' y (List.mem_take_iff_getElem.2 ⟨k,by omega,(List.getElem?_eq_some_iff.1 hy).2⟩)
theorem c5F (l:List c0) (me r:Int) (hm:0≤me∧me≤5) (hr:0≤r∧r≤9999) (i:Nat) (h:i<l.length) (hl:l.length≤12):Rnd (i:Int) (Z4 l me r i) ((∀x,l[i]?=some x→a3W me r x∧∀y,y∈l.take i→¬y.Ballot=x.Ballot)∧(0<i→∀a,l[i-1]?=some a→∀b,l[i]?=some b→a6W a b)):=by
 refine b6q (ok:=fun x=>a3W me r x∧∀y,y∈l.take i→¬y.Ballot=x.Ballot) h fun x hx=> ?_
 have hlt:((i:Int)<(l.length:Int)):=by omega
 have w1:W (W (6*r)+me)=6*r+me:=by rw [a0D (z:=6*r) (by omega),a0D (by omega)]
 have w2:W (6+me)=6+me:=a0D (by omega)
 have hlp:=c4R l i h hl x
 unfold Z4
 simp only [hlt,decide_true,if_true]
 simp only [v8 hx,Option.bind_some,w1,w2,a4F,b3a]
 have tail:Rnd (i:Int) (Option.bind (u2 x.Value) fun x154=>if(!x154)=true then some (.inr (.inr false))else Option.bind (C7 x.Ballot (6+me) (6*r+me)) fun x157=>if(!x157)=true then some (.inr (.inr false))else
  if(x.Ballot % 6 !=me)=true then some (.inr (.inr false))else Option.bind (C7 x.Best 0 (W (x.Ballot-1))) fun x163=>if(!x163)=true then some (.inr (.inr false))else Option.bind (a1d x.Mask) fun x166=>if(!x166)=true then some (.inr (.inr false))else
  if(!(x.Asked==qr x.Mask))=true then some (.inr (.inr false))else Option.bind (j4 (L5 l i x) 0) fun e=>match e with| .inl _=>some (.inl (W ((i:Int)+1)))| .inr r=>some (.inr (.inr r)))
  ((1≤x.Value∧x.Value≤1000000)∧(6+me≤x.Ballot∧x.Ballot≤6*r+me)∧x.Ballot % 6=me∧(0≤x.Best∧x.Best≤x.Ballot-1)∧(0≤x.Mask∧x.Mask≤63)∧x.Asked=qr x.Mask∧∀y,y∈l.take i→¬y.Ballot=x.Ballot):=by
  refine Rnd.nand (a4J _) fun h1=>Rnd.nand (a9d _ _ _) fun h2=>Rnd.ite (by simp) fun h3=> ?_
  rw [a0D (z:=x.Ballot-1) (by omega)]
  exact Rnd.nand (a9d _ _ _) fun h4=>Rnd.nand (b5m _) fun h5=>Rnd.ite (by simp) fun h6=>Rnd.loop hlp
 by_cases h0:0<i
 · obtain⟨y,hy⟩:=a0P (l:=l) (i:=i-1) (by omega)
   have h00:(i:Int)>0:=by omega
   simp only [h00,decide_true,if_true,b2b h0 (by omega),v8 hy,hy,Option.bind_some,h0,true_imp_iff,Option.some.injEq,forall_eq']
   refine(Rnd.nand (a3i _) fun h1=>Rnd.ite (P:=y.Night<x.Night) (by simp) fun h2=>tail).iff ?_
   unfold a3W a6W
   constructor
   · rintro⟨a,b,c,d,e,f,g,h,k⟩;exact⟨⟨⟨a,by omega,e,c,f,g,h⟩,k⟩,b⟩
   · rintro⟨⟨⟨a,b,c,d,e,f,g⟩,k⟩,m⟩;exact⟨a,m,d,by omega,c,e,f,g,k⟩
 · have h00:¬((i:Int)>0):=by omega
   simp only [h00,decide_false,Bool.false_eq_true,if_false,h0,false_imp_iff,and_true]
   refine(Rnd.nand (a3i _) fun h1=>tail).iff ?_
   unfold a3W
   constructor
   · rintro⟨a,c,d,e,f,g,h,k⟩;exact⟨⟨a,by omega,e,c,f,g,h⟩,k⟩
   · rintro⟨⟨a,b,c,d,e,f,g⟩,k⟩;exact⟨a,d,by omega,c,e,f,g,k⟩
theorem c2c (l:List b8) (me:Int) (i:Nat) (h:i<l.length) (hl:l.length≤40):Rnd (i:Int) (S2 l me i) (∀x,l[i]?=some x→a2E me x∧x.No=(i:Int)+1∧∀y,y∈l.take i→¬(y.Thing=x.Thing∧a1A y x)):=by
 obtain⟨x,hx⟩:=a0P h
 have hlt:((i:Int)<(l.length:Int)):=by omega
 have hlp:=c1J l i h hl x
 unfold S2
 simp only [hlt,decide_true,if_true,v8 hx,Option.bind_some,hx,Option.some.injEq,forall_eq']
 refine(Rnd.ite (P:=x.No=(i:Int)+1) (by rw [a0D (by omega)];simp) fun _=>Rnd.nand (a6H _) fun h1=>Rnd.ite (P:=x.Thing % 6=me) (by rw [a7N (by omega)];simp) fun _=>Rnd.nand (a0S _) fun _=>Rnd.ite (P:=¬x.To=me) (by simp) fun _=>
  Rnd.nand (U5 _) fun _=>Rnd.nand (U5 _) fun _=>Rnd.ite (P:=x.From≤x.Until) (by simp) fun _=>Rnd.loop hlp).iff ?_
 unfold a2E
 constructor
 · rintro⟨a,b,c,d,e,f,g,h,k⟩;exact⟨⟨b,c,d,e,f,g,h⟩,a,k⟩
 · rintro⟨⟨b,c,d,e,f,g,h⟩,a,k⟩;exact⟨a,b,c,d,e,f,g,h,k⟩
theorem b7P {m:Option (Sum Int Bool)} {n most:Int} {P:Prop} (h:n≤most→Lp m P):Ans (if(decide (n>most))=true then some false else m.bind fun e=>match e with| .inl _=>some true| .inr r=>some r) (n≤most∧P):=
 Ans.ite' (by simp) fun h'=>Ans.lp (h h')
theorem a9p {i:Nat} {P:Prop}:(0≤i→P)↔P:=⟨fun h=>h (Nat.zero_le _),fun h _=>h⟩
theorem b7X (l:List a8):Ans (a4v l) ((l.length:Int)≤12∧(∀x,x∈l→Z7 x)∧G3 a2O l):=
 b7P fun h=>(a3x l.length (by omega) _ (fun i hi=>c4a l i hi (by omega)) (by simp [V3])).iff ((forall_congr' fun _=>a9p.symm).trans (b2g l Z7 a2O))
theorem b7C (l:List a7):Ans (a4Z l) ((l.length:Int)≤60∧(∀x,x∈l→a4l x)∧G3 a1j l):=
 b7P fun h=>(a3x l.length (by omega) _ (fun i hi=>c1N l i hi (by omega)) (by simp [V1])).iff ((forall_congr' fun _=>a9p.symm).trans (b2g l a4l a1j))
theorem b6O (l:List b6) (me:Int):Ans (a5b l me) ((l.length:Int)≤60∧(∀x,x∈l→a3s me x)∧G3 a0Z l):=
 b7P fun h=>(a3x l.length (by omega) _ (fun i hi=>c4K l me i hi (by omega)) (by simp [V0])).iff ((forall_congr' fun _=>a9p.symm).trans (b2g l (a3s me) a0Z))
theorem b8G (l:List c0) (me r:Int) (hm:0≤me∧me≤5) (hr:0≤r∧r≤9999):Ans (a5F l me r) ((l.length:Int)≤12∧(∀x,x∈l→a3W me r x)∧G3 a6W l∧a7F (fun a b=>a.Ballot=b.Ballot) l):=
 b7P fun h=>(a3x l.length (by omega) _ (fun i hi=>c5F l me r hm hr i hi (by omega)) (by simp [Z4])).iff (by
  have key:=b2g l (a3W me r) a6W
  constructor
  · intro h
    obtain⟨h1,h2⟩:=key.1 fun i _ hi=>⟨fun x hx=>((h i hi).1 x hx).1,(h i hi).2⟩
    exact⟨h1,h2,fun i x hx=>((h i (List.getElem?_eq_some_iff.1 hx).1).1 x hx).2⟩
  · rintro⟨h1,h2,h3⟩ i hi
    have:=key.2 ⟨h1,h2⟩ i (Nat.zero_le _) hi
    exact⟨fun x hx=>⟨this.1 x hx,h3 i x hx⟩,this.2⟩)
theorem b5H (l:List b8) (me:Int):Ans (a3Q l me) ((l.length:Int)≤40∧(∀x,x∈l→a2E me x)∧(∀(i:Nat) x,l[i]?=some x→x.No=(i:Int)+1)∧a7F (fun a b=>a.Thing=b.Thing∧a1A a b) l):=
 b7P fun h=>(a3x l.length (by omega) _ (fun i hi=>c2c l me i hi (by omega)) (by simp [S2])).iff (by
  constructor
  · intro h
    refine⟨fun x hx=> ?_,fun i x hx=>((h i (List.getElem?_eq_some_iff.1 hx).1) x hx).2.1,fun i x hx=>((h i (List.getElem?_eq_some_iff.1 hx).1) x hx).2.2⟩
    obtain⟨i,hi,rfl⟩:=List.getElem_of_mem hx
    exact((h i hi) _ (List.getElem?_eq_getElem hi)).1
  · rintro⟨h1,h2,h3⟩ i hi x hx
    exact⟨h1 x (List.mem_of_getElem? hx),h2 i x hx,h3 i x hx⟩)
def Err (m:Option Int) (P:Prop) (e:Int):Prop:=m=some (if P then 0 else e)
theorem Err.nand {m:Option Bool} {n:Option Int} {P Q:Prop} {e:Int} (h:Ans m P) (k:P→Err n Q e):Err (Option.bind m fun x=>if(!x)=true then some e else n) (P∧Q) e:=by
 obtain⟨b,rfl,hb⟩:=h
 unfold Err
 by_cases hp:P
 · have:=k hp
   unfold Err at this
   simp [hb.2 hp,hp,this]
 · have:b=false:=by cases b with|false=>rfl|true=>exact absurd (hb.1 rfl) hp
   simp [this,hp]
theorem Err.one {m:Option Bool} {P:Prop} {e:Int} (h:Ans m P):Err (Option.bind m fun x=>if(!x)=true then some e else some 0) P e:=by
 have:=Err.nand (Q:=True) (n:=some 0) (e:=e) h (fun _=>by simp [Err])
 simpa using this
theorem Err.iff {m:Option Int} {P Q:Prop} {e:Int} (h:Err m P e) (k:P↔Q):Err m Q e:=by
 unfold Err at*;rw [h];simp [k]
theorem a8P (me:Int) (s:b7):Err (a1f me s) (m9 me s) 90:=by
 refine Err.iff (Err.nand (a0S _) fun hm=>Err.nand (a9d _ _ _) fun hr=>Err.nand (b7X _) fun _=>Err.nand (b8G _ _ _ hm hr) fun _=>Err.nand (b7C _) fun _=>Err.nand (b5H _ _) fun _=>Err.one (b6O _ _)) ?_
 rw [b3y]
 constructor
 · rintro⟨a,b,⟨c1,c2,c3⟩,⟨d1,d2,d3,d4⟩,⟨e1,e2,e3⟩,⟨f1,f2,f3,f4⟩,⟨g1,g2,g3⟩⟩
   exact⟨a,b,⟨c1,c2⟩,⟨d1,d2⟩,⟨e1,e2⟩,⟨f1,f2⟩,⟨g1,g2⟩,c3,d3,e3,g3,d4,f3,f4⟩
 · rintro⟨a,b,⟨c1,c2⟩,⟨d1,d2⟩,⟨e1,e2⟩,⟨f1,f2⟩,⟨g1,g2⟩,c3,d3,e3,g3,d4,f3,f4⟩
   exact⟨a,b,⟨c1,c2,c3⟩,⟨d1,d2,d3,d4⟩,⟨e1,e2,e3⟩,⟨f1,f2,f3,f4⟩,⟨g1,g2,g3⟩⟩
def j1 (x:a6):Prop:=m9 x.Me x.Now∧m9 x.Me x.Safe
theorem b5V (x:a6):Err (Y8 x) (j1 x) 90:=Err.nand (b4C _ _) fun _=>Err.one (b4C _ _)
theorem a4z (x:a6):Err (Q9 x) (j1 x) 90:=by
 have e1:=a8P x.Me x.Now
 have e2:=a8P x.Me x.Safe
 unfold Err at*
 unfold Q9
 rw [e1,e2]
 unfold j1
 by_cases h1:m9 x.Me x.Now<;>by_cases h2:m9 x.Me x.Safe<;>simp [h1,h2]
def a3a (c:b5):Prop:=(0≤c.Night∧c.Night≤100000)∧(6≤c.Ballot∧c.Ballot≤59999)∧c.No=0∧c.Thing=0∧c.Start=0∧c.Until=0
def b0E (c:b5):Prop:=c.From≠c.To∧(1≤c.No∧c.No≤40)∧(1≤c.Thing∧c.Thing≤99)∧(0≤c.Until∧c.Until≤144001439)∧c.Night=0∧c.Ballot=0∧c.Best=0∧c.Value=0
def a7x (v:Int):Prop:=1≤v∧v≤1000000
structure a2B (c:b5):Prop where
 from_:0≤c.From∧c.From≤5
 to_:0≤c.To∧c.To≤5
 kind:(c.Kind=1∧a3a c∧c.Ballot % 6=c.From∧c.Best=0∧c.Value=0)∨(c.Kind=2∧a3a c∧c.Ballot % 6=c.To∧((c.Best=0∧c.Value=0)∨((6≤c.Best∧c.Best≤c.Ballot-1)∧a7x c.Value)))∨
  (c.Kind=3∧a3a c∧c.Ballot % 6=c.From∧c.Best=0∧a7x c.Value)∨(c.Kind=4∧a3a c∧c.Best=0∧a7x c.Value)∨
  (c.Kind=5∧b0E c∧c.Thing % 6=c.From∧(0≤c.Start∧c.Start≤144001439)∧c.Start≤c.Until)∨(c.Kind=6∧b0E c∧c.Thing % 6=c.To∧c.Start=0)
theorem b4A (c:b5):a2B c↔(0≤c.From∧c.From≤5)∧(0≤c.To∧c.To≤5)∧((c.Kind=1∧a3a c∧c.Ballot % 6=c.From∧c.Best=0∧c.Value=0)∨(c.Kind=2∧a3a c∧c.Ballot % 6=c.To∧((c.Best=0∧c.Value=0)∨((6≤c.Best∧c.Best≤c.Ballot-1)∧a7x c.Value)))∨
 (c.Kind=3∧a3a c∧c.Ballot % 6=c.From∧c.Best=0∧a7x c.Value)∨(c.Kind=4∧a3a c∧c.Best=0∧a7x c.Value)∨
 (c.Kind=5∧b0E c∧c.Thing % 6=c.From∧(0≤c.Start∧c.Start≤144001439)∧c.Start≤c.Until)∨(c.Kind=6∧b0E c∧c.Thing % 6=c.To∧c.Start=0)):=
 ⟨fun⟨a,b,c⟩=>⟨a,b,c⟩,fun⟨a,b,c⟩=>⟨a,b,c⟩⟩
theorem c6l (a b c:Bool):(if a=true then some b else some c)=some ((a&&b)||(!a&&c)):=by cases a<;>simp
def er (b:Bool):Option Int:=some (if b=true then 0 else 91)
theorem c8G:(some 0:Option Int)=er true:=rfl
theorem c8o:(some 91:Option Int)=er false:=rfl
theorem c6X (a b c:Bool):(if a=true then er b else er c)=er ((a&&b)||(!a&&c)):=by cases a<;>simp
structure Rck (c:b5) (w tb tt:Int):Prop where
 w:6≤c.Ballot∧c.Ballot≤59999→w=c.Ballot-1
 tb:0≤c.Ballot→tb=c.Ballot % 6
 tt:0≤c.Thing→tt=c.Thing % 6
theorem c5s (c:b5):Rck c (W (c.Ballot-1)) (c.Ballot.tmod 6) (c.Thing.tmod 6):=⟨fun h=>a0D (by omega),fun h=>a7N h,fun h=>a7N h⟩
theorem c4c (c:b5):Rck c (W (c.Ballot-1)) (c.Ballot % 6) (c.Thing.tmod 6):=⟨fun h=>a0D (by omega),fun h=>rfl,fun h=>a7N h⟩
set_option maxHeartbeats 1000000 in theorem isCall_a (c : b5) : Ans (a0p c) (a2B c) := by
  refine Ans.iff ?_ (b4A c).symm
  have e1 := (a3r c.From).eq
  have e2 := (a3r c.To).eq
  have e3 := (U8 c.No 1 40).eq
  have e4 := (a8h c.Thing).eq
  have e5 := (a5O c.Night).eq
  have e6 := (a9i c.Ballot).eq
  have e7 := (a5P c.Value).eq
  have e8 := (U8 c.Best 6 (W (c.Ballot - 1))).eq
  have e9 := (b3i c.Start c.Until).eq
  have e10 := (a3g c.Until).eq
  have hr := c5s c
  have hd : ∀ n, d8 n = some (n.tmod 6) := fun _ => rfl
  unfold a0p a5J
  simp only [e1, e2, e3, e4, e5, e6, e7, e8, e9, e10, hd]
  clear e1 e2 e3 e4 e5 e6 e7 e8 e9 e10 hd
  generalize W (c.Ballot - 1) = w at hr ⊢
  generalize c.Ballot.tmod 6 = tb at hr ⊢
  generalize c.Thing.tmod 6 = tt at hr ⊢
  obtain ⟨h1, h2, h3⟩ := hr
  obtain ⟨Kind, From, To, Night, Ballot, Best, Value, No, Thing, Start, Until⟩ := c
  simp only [a3a, b0E, a7x] at *
  have hk : Kind = 1 ∨ Kind = 2 ∨ Kind = 3 ∨ Kind = 4 ∨ Kind = 5 ∨ Kind = 6 ∨ (Kind ≠ 1 ∧ Kind ≠ 2 ∧ Kind ≠ 3 ∧ Kind ≠ 4 ∧ Kind ≠ 5 ∧ Kind ≠ 6) := by omega
  rcases hk with rfl | rfl | rfl | rfl | rfl | rfl | ⟨k1, k2, k3, k4, k5, k6⟩
  all_goals try simp only [Int.reduceBEq, Int.reduceBNe, if_true, Bool.false_eq_true, if_false, Option.bind_some, Bool.not_true, Bool.not_false, c6l]
  iterate 6
    · refine ⟨_, rfl, ?_⟩
      simp only [Bool.or_eq_true, Bool.and_eq_true, Bool.not_eq_true', decide_eq_true_eq, decide_eq_false_iff_not, beq_iff_eq, Bool.not_not, beq_eq_false_iff_ne, ne_eq, Bool.and_false, Bool.and_true, Bool.false_or, Bool.or_false, Bool.false_eq_true, bne_iff_ne, bne_eq_false_iff_eq, Bool.true_and, Bool.false_and, true_and, false_and, or_false, false_or, Int.reduceEq, and_true, and_false, or_true, true_or, not_true_eq_false, not_false_eq_true]
      first | omega | (constructor <;> intro h <;> omega) | grind
  have q1 : (Kind == 1) = false := by simp [k1]
  have q2 : (Kind == 2) = false := by simp [k2]
  have q3 : (Kind == 3) = false := by simp [k3]
  have q4 : (Kind == 4) = false := by simp [k4]
  have q5 : (Kind == 5) = false := by simp [k5]
  have q6 : (Kind == 6) = false := by simp [k6]
  simp only [q1, q2, q3, q4, q5, q6, Bool.false_eq_true, if_false, Option.bind_some, Bool.not_false, if_true]
  exact .no (by rintro ⟨_, _, h⟩; omega)
set_option maxHeartbeats 1000000 in theorem rCheckCall_e (c : b5) : Err (a1G c) (a2B c) 91 := by
  refine Err.iff ?_ (b4A c).symm
  have e0 := (a9d c.Kind 1 6).eq
  have e1 := (a0S c.From).eq
  have e2 := (a0S c.To).eq
  have e3 := (a9d c.No 1 40).eq
  have e4 := (a6H c.Thing).eq
  have e5 := (a3i c.Night).eq
  have e6 := (a7H c.Ballot).eq
  have e7 := (a4J c.Value).eq
  have e8 := (a9d c.Best 6 (W (c.Ballot - 1))).eq
  have e9 := (U5 c.Start).eq
  have e10 := (U5 c.Until).eq
  have hr := c4c c
  unfold a1G a9l
  simp only [e0, e1, e2, e3, e4, e5, e6, e7, e8, e9, e10, a4F]
  clear e0 e1 e2 e3 e4 e5 e6 e7 e8 e9 e10
  generalize W (c.Ballot - 1) = w at hr ⊢
  generalize c.Thing.tmod 6 = tt at hr ⊢
  obtain ⟨h1, h2, h3⟩ := hr
  obtain ⟨Kind, From, To, Night, Ballot, Best, Value, No, Thing, Start, Until⟩ := c
  simp only [a3a, b0E, a7x] at *
  have fin : ∀ {b : Bool} {P : Prop}, (b = true ↔ P) → Err (er b) P 91 := fun {b P} h => by
    unfold Err er
    by_cases hp : P
    · rw [if_pos (h.2 hp), if_pos hp]
    · rw [if_neg (fun hb => hp (h.1 hb)), if_neg hp]
  have hk : Kind = 1 ∨ Kind = 2 ∨ Kind = 3 ∨ Kind = 4 ∨ Kind = 5 ∨ Kind = 6 ∨ ¬ (1 ≤ Kind ∧ Kind ≤ 6) := by omega
  rcases hk with rfl | rfl | rfl | rfl | rfl | rfl | k
  iterate 6
    · simp only [Int.reduceBEq, Int.reduceBNe, Int.reduceLE, and_self, decide_true, decide_false, if_true, Bool.false_eq_true, if_false, Option.bind_some, Bool.not_true, Bool.not_false, c8G, c8o, c6X]
      refine fin ?_
      simp only [Bool.or_eq_true, Bool.and_eq_true, Bool.not_eq_true', decide_eq_true_eq, decide_eq_false_iff_not, beq_iff_eq, Bool.not_not, beq_eq_false_iff_ne, ne_eq, Bool.and_false, Bool.and_true, Bool.false_or, Bool.or_false, Bool.false_eq_true, bne_iff_ne, bne_eq_false_iff_eq, Bool.true_and, Bool.false_and, true_and, false_and, or_false, false_or, Int.reduceEq, and_true, and_false, or_true, true_or, not_true_eq_false, not_false_eq_true]
      first | omega | (constructor <;> intro h <;> omega) | grind
  · simp only [k, decide_false, Option.bind_some, Bool.not_false, if_true]
    unfold Err
    rw [if_neg]
    rintro ⟨_, _, h⟩; omega
theorem b0B {α:Type} {l:List α} (hl:l.length≤9223372036854775806) {q:α→α→Bool} (hq:∀x,q x x=true) {body:Int→Option (Sum Int (Sum Int Bool))}
 (hb:body=fun i=>if(decide (i<(l.length:Int)))=true then Option.bind (idx l i) fun a=>Option.bind (idx l i) fun b=>if(!(q a b))=true then some (.inr (.inr false))else some (.inl (W (i+1)))else some (.inr (.inl i))):Lp (j4 body 0) True:=by
 refine(a3x l.length (by omega) (fun _=>True) (fun i hi=> ?_) (by rw [hb];simp)).iff (by simp)
 rw [hb]
 have hlt:((i:Int)<(l.length:Int)):=by omega
 simp only [hlt,decide_true,if_true]
 refine Rnd.get hi (Rnd.get hi ?_)
 rw [hq]
 exact .go trivial
structure b5z (s:b7):Prop where
 a:s.Slots.length≤9223372036854775806
 b:s.Bids.length≤9223372036854775806
 c:s.Heard.length≤9223372036854775806
 d:s.Leases.length≤9223372036854775806
 e:s.Loans.length≤9223372036854775806
theorem a3K (s:b7) (h:b5z s):Ans (I9 s s) True:=by
 unfold I9
 have n0:∀ {x:Int},(x !=x)=true↔¬True:=by simp
 refine(Ans.ite' n0 fun _=>Ans.ite' n0 fun _=>Ans.ite' n0 fun _=>Ans.ite' n0 fun _=>Ans.ite' n0 fun _=>Ans.ite' n0 fun _=>
  Ans.loop (b0B h.a (q:=fun a b=>(a.Night==b.Night)&&((a.Promised==b.Promised)&&((a.Ballot==b.Ballot)&&(a.Value==b.Value)))) (by simp) rfl) fun _=>
  Ans.loop (b0B h.b (q:=fun a b=>(a.Night==b.Night)&&((a.Ballot==b.Ballot)&&((a.Value==b.Value)&&((a.Best==b.Best)&&((a.Mask==b.Mask)&&(a.Asked==b.Asked)))))) (by simp) rfl) fun _=>
  Ans.loop (b0B h.c (q:=fun a b=>(a.Night==b.Night)&&((a.Ballot==b.Ballot)&&((a.Value==b.Value)&&(a.Mask==b.Mask)))) (by simp) rfl) fun _=>
  Ans.loop (b0B h.d (q:=fun a b=>(a.No==b.No)&&((a.Thing==b.Thing)&&((a.To==b.To)&&((a.From==b.From)&&(a.Until==b.Until))))) (by simp) rfl) fun _=>
  Ans.lp (b0B h.e (q:=fun a b=>(a.Owner==b.Owner)&&((a.No==b.No)&&((a.Thing==b.Thing)&&((a.From==b.From)&&((a.Until==b.Until)&&(a.Back==b.Back)))))) (by simp) rfl)).iff (by simp)
theorem Ans.true {m:Option Bool} (h:Ans m True):m=some true:=by rw [h.eq];simp
theorem c1z (x:a6) (h1:b5z x.Now) (h2:b5z x.Safe):a5a x x=some true:=by
 unfold a5a
 rw [(a3K _ h1).true,(a3K _ h2).true]
 simp
def S0:b7:=⟨0, [], [], [], [], []⟩
def b7s {α σ R:Type} (f:σ→α→Sum σ R):List α→σ→Sum σ R
 | [],s=> .inl s
 |x::l,s=>match f s x with| .inl s'=>b7s f l s'| .inr r=> .inr r
theorem c1H {α σ S E R:Type} {body:S→Option (Sum S E)} (l:List α) (hl:l.length≤9223372036854775807) (enc:Nat→σ→S) (f:σ→α→Sum σ R) (out:R→E) (fin:σ→E) (P:List α→σ→Prop)
 (h:∀pre x post s,l=pre++x::post→P pre s→body (enc pre.length s)=some (match f s x with| .inl s'=> .inl (enc (pre.length+1) s')| .inr r=> .inr (out r))∧∀s',f s x= .inl s'→P (pre++ [x]) s')
 (he:∀s,P l s→body (enc l.length s)=some (.inr (fin s))) (s0:σ) (h0:P [] s0):
 j4 body (enc 0 s0)=some (match b7s f l s0 with| .inl s=>fin s| .inr r=>out r):=by
 have key:∀(post pre:List α) (s:σ) (n:Nat),l=pre++post→P pre s→post.length<n→a2j body n (enc pre.length s)=some (match b7s f post s with| .inl s=>fin s| .inr r=>out r):=by
  intro post
  induction post with
  |nil=>
   intro pre s n hp hs hn
   cases n with
   |zero=>omega
   |succ n=>
    simp only [List.append_nil]at hp
    subst hp
    simp only [a2j,he s hs,b7s]
  |cons x post ih=>
   intro pre s n hp hs hn
   cases n with
   |zero=>omega
   |succ n=>
    obtain⟨h1,h2⟩:=h pre x post s hp hs
    simp only [a2j,h1,b7s]
    cases hf:f s x with
    |inl s'=>
     have:=ih (pre++ [x]) s' n (by simp [hp]) (h2 s' hf) (by simp at hn;omega)
     simpa using this
    |inr r=>rfl
 exact key l [] s0 a7j rfl h0 (by unfold a7j;omega)
theorem c3H {α β R:Type} (em:α→List β) (l:List α) (s:List β):b7s (R:=R) (fun s x=> .inl (s++em x)) l s= .inl (s++l.flatMap em):=by
 induction l generalizing s with
 |nil=>simp [b7s]
 |cons x l ih=>simp [b7s,ih]
theorem b0f {α β S:Type} {body:S→Option (Sum S S)} (l:List α) (hl:l.length≤1000) (enc:Nat→List β→S) (em:α→List β) (acc:List β) (ha:acc.length≤10000) (hem:∀x,(em x).length≤2)
 (h:∀pre x post s,l=pre++x::post→s.length≤20000→body (enc pre.length s)=some (.inl (enc (pre.length+1) (s++em x)))) (he:∀s,body (enc l.length s)=some (.inr (enc l.length s))):
 j4 body (enc 0 acc)=some (enc l.length (acc++l.flatMap em)):=by
 have:=c1H (R:=S) (body:=body) l (by omega) enc (fun s x=> .inl (s++em x)) id (fun s=>enc l.length s) (fun pre s=>s.length≤acc.length+2*pre.length∧pre.length≤l.length) (fun pre x post s hp hs=>⟨h pre x post s hp (by omega),fun s' hs'=>by
  have hx:=hem x
  have hpl:pre.length+1≤l.length:=by rw [hp];simp
  simp only [Sum.inl.injEq]at hs'
  subst hs'
  simp only [List.length_append,List.length_singleton]
  omega⟩) (fun s _=>he s) acc ⟨by simp,by simp⟩
 rw [this,c3H]
theorem b2m {α:Type} {pre post:List α} {x:α}:idx (pre++x::post) (pre.length:Int)=some x:=by
 unfold idx;simp
theorem b5T {α:Type} {pre post:List α} {x:α}:((pre.length:Int)<((pre++x::post).length:Int)):=by simp;omega
theorem M9 {α:Type} {p:Prop} [Decidable p] {k:Option α} (h:p):gd p k=k:=by unfold gd;rw [if_pos h]
theorem m9.short {me:Int} {s:b7} (h:m9 me s):b5z s:=by
 have:=h.nslots;have:=h.nbids;have:=h.nheard;have:=h.nleases;have:=h.nloans
 constructor<;>omega
theorem a4p {me:Int} {s:b7} (h:m9 me s):C5 s=some s:=by
 have:=h.nslots;have:=h.nbids;have:=h.nheard;have:=h.nleases;have:=h.nloans
 unfold C5 H3 J6 E2 E7 G9
 rw [M9 (by omega),M9 (by omega),M9 (by omega),M9 (by omega),M9 (by omega)]
 rfl
theorem a6N {me:Int} {s:b7} (h:m9 me s):O3 s=some s:=by
 have:=h.nslots;have:=h.nbids;have:=h.nheard;have:=h.nleases;have:=h.nloans
 unfold O3
 rw [M9 (by simp;omega),M9 (by simp;omega),M9 (by simp;omega),M9 (by simp;omega),M9 (by simp;omega)]
 rfl
theorem b7H (x:a6):X7 x=some (if j1 x then .inr (x.Me,x.Now.Round,x.Now.Slots,x.Now.Bids,x.Now.Heard,x.Now.Leases,x.Now.Loans,x.Safe.Round,x.Safe.Slots,x.Safe.Bids,x.Safe.Heard,x.Safe.Leases,x.Safe.Loans)else .inl 90):=by
 have e:=b5V x
 unfold Err at e
 unfold X7
 rw [e]
 by_cases h:j1 x
 · rw [if_pos h,if_pos h,a4p h.1,a4p h.2];rfl
 · rw [if_neg h,if_neg h];rfl
def Z0:a6:=⟨0,S0,S0⟩
noncomputable def a7u (x:a6):a6×Int:=if j1 x then(⟨x.Me,x.Now,x.Now⟩,0)else(Z0,90)
noncomputable def b1D (x:a6):a6×Int:=if j1 x then(⟨x.Me,x.Safe,x.Safe⟩,0)else(Z0,90)
theorem c1Z (x:a6):Y2 x=some (a7u x):=by
 unfold Y2 a7u
 rw [b7H]
 by_cases h:j1 x
 · rw [if_pos h,if_pos h]
   simp only [Option.bind_some]
   rw [a4p h.1];rfl
 · rw [if_neg h,if_neg h];rfl
theorem c4O (x:a6):a3w x=some (b1D x):=by
 unfold a3w b1D
 rw [b7H]
 by_cases h:j1 x
 · rw [if_pos h,if_pos h]
   simp only [Option.bind_some]
   rw [a4p h.2];rfl
 · rw [if_neg h,if_neg h];rfl
theorem c0F (x:a6):a5y x=some (a7u x):=by
 have e:=a4z x
 unfold Err at e
 unfold a5y a7u
 rw [e]
 by_cases h:j1 x
 · rw [if_pos h,if_pos h,a6N h.1];rfl
 · rw [if_neg h,if_neg h];rfl
theorem c3E (x:a6):a6K x=some (b1D x):=by
 have e:=a4z x
 unfold Err at e
 unfold a6K b1D
 rw [e]
 by_cases h:j1 x
 · rw [if_pos h,if_pos h,a6N h.2];rfl
 · rw [if_neg h,if_neg h];rfl
def b6z (me to_:Int) (b:c0):List b5:=if b.Asked=true then [⟨3,me,to_,b.Night,b.Ballot,0,b.Value,0,0,0,0⟩]else [⟨1,me,to_,b.Night,b.Ballot,0,0,0,0,0,0⟩]
def b1w (me to_:Int) (s:a8):List b5:=(if s.Promised % 6=to_∧s.Promised>s.Ballot then [⟨2,me,to_,s.Night,s.Promised,s.Ballot,s.Value,0,0,0,0⟩]else [])++(if s.Ballot≠0 then [⟨4,me,to_,s.Night,s.Ballot,0,s.Value,0,0,0,0⟩]else [])
def a9n (me to_:Int) (l:b8):List b5:=if l.To=to_ then [⟨5,me,to_,0,0,0,0,l.No,l.Thing,l.From,l.Until⟩]else []
def b5i (me to_:Int) (l:b6):List b5:=if l.Owner=to_∧l.Back=true then [⟨6,me,to_,0,0,0,0,l.No,l.Thing,0,l.Until⟩]else []
def b0q (me to_:Int) (s:b7):List b5:=s.Bids.flatMap (b6z me to_)++(s.Slots.flatMap (b1w me to_)++(s.Leases.flatMap (a9n me to_)++s.Loans.flatMap (b5i me to_)))
theorem a0s {α β:Type} (f:α→List β) (n:Nat) (h:∀x,(f x).length≤n):∀l:List α,(l.flatMap f).length≤n*l.length
 | []=>by simp
 |x::l=>by
  have:=a0s f n h l
  have:=h x
  simp only [List.flatMap_cons,List.length_append,List.length_cons,Nat.mul_add];omega
theorem b3O (me t:Int) (x:c0):(b6z me t x).length≤2:=by unfold b6z;split<;>simp
theorem b1c (me t:Int) (x:a8):(b1w me t x).length≤2:=by unfold b1w;split<;>split<;>simp
theorem a9a (me t:Int) (x:b8):(a9n me t x).length≤2:=by unfold a9n;split<;>simp
theorem b4K (me t:Int) (x:b6):(b5i me t x).length≤2:=by unfold b5i;split<;>simp
theorem b7W {me:Int} {s:b7} (h:m9 me s) (to_:Int):(b0q me to_ s).length≤1000:=by
 have:=h.nslots;have:=h.nbids;have:=h.nheard;have:=h.nleases;have:=h.nloans
 have:=a0s _ 2 (b3O me to_) s.Bids
 have:=a0s _ 2 (b1c me to_) s.Slots
 have:=a0s _ 2 (a9a me to_) s.Leases
 have:=a0s _ 2 (b4K me to_) s.Loans
 unfold b0q
 simp only [List.length_append]
 omega
noncomputable def b2S (x:a6) (to_:Int):List b5×Int:=if j1 x then(if 0≤to_∧to_≤5 then(b0q x.Me to_ x.Safe,0)else([],1))else([],90)
theorem c1l (x:a6) (to_:Int):a5w x to_=some (b2S x to_):=by
 have e:=a4z x
 unfold Err at e
 unfold a5w b2S
 rw [e,(a0S to_).eq]
 by_cases hv:j1 x
 · simp only [hv,if_true,Option.bind_some,bne_self_eq_false,Bool.false_eq_true,if_false]
   by_cases h2:0≤to_∧to_≤5
   · obtain⟨_,h⟩:=hv
     have hs:=h.short
     have n1:=h.nslots;have n2:=h.nbids;have n3:=h.nleases;have n4:=h.nloans
     have b1:=a0s _ 2 (b3O x.Me to_) x.Safe.Bids
     have b2:=a0s _ 2 (b1c x.Me to_) x.Safe.Slots
     have b3:=a0s _ 2 (a9a x.Me to_) x.Safe.Leases
     have l1:=b0f (body:=a0J x to_) x.Safe.Bids (by omega) (fun k a=>([],(k:Int),a)) (b6z x.Me to_) [] (by simp) (b3O x.Me to_) (fun pre y post a hp ha=>by
      have hw:W ((pre.length:Int)+1)=((pre.length+1:Nat):Int):=W_s (by rw [hp]at n2;simp at n2;omega)
      unfold a0J b6z
      simp only [hp,b5T,decide_true,if_true,b2m,Option.bind_some,hw]
      split<;>rw [M9 (by simp;omega)]) (fun a=>by simp [a0J])
     have l2:=b0f (body:=a0T x to_) x.Safe.Slots (by omega) (fun k a=>((k:Int),a)) (b1w x.Me to_) (x.Safe.Bids.flatMap (b6z x.Me to_)) (by omega) (b1c x.Me to_) (fun pre y post a hp ha=>by
      have hw:W ((pre.length:Int)+1)=((pre.length+1:Nat):Int):=W_s (by rw [hp]at n1;simp at n1;omega)
      unfold a0T b1w
      simp only [hp,b5T,decide_true,if_true,b2m,Option.bind_some,hw,a4F]
      by_cases g1:y.Promised % 6=to_<;>by_cases g2:y.Promised>y.Ballot<;>simp [g1,g2,gd]<;>by_cases g3:y.Ballot=0<;>simp [g3]<;>omega) (fun a=>by simp [a0T])
     have l3:=b0f (body:=a0W x to_) x.Safe.Leases (by omega) (fun k a=>((k:Int),a)) (a9n x.Me to_) (x.Safe.Bids.flatMap (b6z x.Me to_)++x.Safe.Slots.flatMap (b1w x.Me to_)) (by simp only [List.length_append];omega) (a9a x.Me to_) (fun pre y post a hp ha=>by
      have hw:W ((pre.length:Int)+1)=((pre.length+1:Nat):Int):=W_s (by rw [hp]at n3;simp at n3;omega)
      unfold a0W a9n
      simp only [hp,b5T,decide_true,if_true,b2m,Option.bind_some,hw]
      by_cases g1:y.To=to_<;>simp [g1,gd]<;>omega) (fun a=>by simp [a0W])
     have l4:=b0f (body:=a0Y x to_) x.Safe.Loans (by omega) (fun k a=>((k:Int),a)) (b5i x.Me to_) (x.Safe.Bids.flatMap (b6z x.Me to_)++x.Safe.Slots.flatMap (b1w x.Me to_)++x.Safe.Leases.flatMap (a9n x.Me to_)) (by simp only [List.length_append];omega) (b4K x.Me to_) (fun pre y post a hp ha=>by
      have hw:W ((pre.length:Int)+1)=((pre.length+1:Nat):Int):=W_s (by rw [hp]at n4;simp at n4;omega)
      unfold a0Y b5i
      simp only [hp,b5T,decide_true,if_true,b2m,Option.bind_some,hw]
      by_cases g1:y.Owner=to_<;>by_cases g2:y.Back=true<;>simp [g1,g2,gd]<;>omega) (fun a=>by simp [a0Y])
     simp only [show((0:Nat):Int)=0 from rfl,List.nil_append]at l1 l2 l3 l4
     simp only [h2,and_self,decide_true,Bool.not_true,Bool.false_eq_true,if_false,if_true,l1,l2,l3,l4,Option.bind_some]
     unfold b0q
     simp
   · simp only [h2,decide_false,Bool.not_false,if_true,if_false]
 · simp [hv]
theorem c5U {z:Int} (h:0≤z∧z≤18446744073709551615):IntKind.u64.wrap z=z:=by
 simp only [IntKind.wrap,IntKind.signed,IntKind.bits]
 simp
 omega
theorem c8h (i j:Nat) (h:i+j≤9223372036854775807):W ((IntKind.u64.wrap (W ((i:Int)+(j:Int)))).fdiv (2^(min (1:Int).toNat IntKind.u64.bits)))=(((i+j) / 2:Nat):Int):=by
 have e:(2:Int)^(min (1:Int).toNat IntKind.u64.bits)=2:=by decide
 rw [e,a0D (z:=(i:Int)+j) (by omega),c5U (by omega),Int.fdiv_eq_ediv_of_nonneg _ (by omega)]
 have e2:((i:Int)+j) / 2=(((i+j) / 2:Nat):Int):=by simp
 rw [e2,a0D (by omega)]
structure Cut {α:Type} (c:α→Int) (l:List α) (i:Nat):Prop where
 le:i≤l.length
 lo:∀k (h:k<l.length),k<i→c l[k]<0
 hi:∀k (h:k<l.length),i≤k→¬c l[k]<0
def bsB {α:Type} (l:List α) (cm:α→Option Int):(Int×Int)→Option (Sum (Int×Int) (Int×Int)):=fun(i,j)=>
 if(decide (i<j))=true then
  Option.bind (idx l (W ((IntKind.u64.wrap (W (i+j))).fdiv (2^(min (1:Int).toNat IntKind.u64.bits))))) fun e=>
  Option.bind (cm e) fun x=>
  if(decide (x<0))=true then
   some (.inl ((W ((W ((IntKind.u64.wrap (W (i+j))).fdiv (2^(min (1:Int).toNat IntKind.u64.bits))))+1)),j))
  else
   some (.inl (i,(W ((IntKind.u64.wrap (W (i+j))).fdiv (2^(min (1:Int).toNat IntKind.u64.bits))))))
 else
  some (.inr (i,j))
def bsM {α:Type} (l:List α) (cm:α→Option Int):Option (Int×Bool):=
 Option.bind (j4 (bsB l cm) (0,(l.length:Int))) fun(i,_)=>
 if(decide (i<(l.length:Int)))=true then
  Option.bind (idx l i) fun e=>
  Option.bind (cm e) fun x=>
  some (i,(x==0))
 else
  some (i,false)
theorem a4E {α:Type} (l:List α) (c:α→Int) (hl:l.length≤1000) (hm:∀i j (hi:i<l.length) (hj:j<l.length),i≤j→c l[j]<0→c l[i]<0) (cm:α→Option Int) (hc:∀x,x∈l→cm x=some (c x)):
 ∃i,Cut c l i∧bsM l cm=some ((i:Int),decide (∃x,l[i]?=some x∧c x=0)):=by
 obtain⟨e,he,i,rfl,hi⟩:=b1d (body:=bsB l cm) (fun st:Int×Int=>∃i j:Nat,st=((i:Int),(j:Int))∧i≤j∧j≤l.length∧(∀k (hk:k<l.length),k<i→c l[k]<0)∧(∀k (hk:k<l.length),j≤k→¬c l[k]<0))
  (fun st=>(st.2-st.1).toNat) (fun st=>∃i:Nat,st=((i:Int),(i:Int))∧Cut c l i) (by
  rintro⟨_,_⟩ ⟨i,j,he,hij,hj,ha,hb⟩
  cases he
  unfold bsB
  by_cases hlt:i<j
  · right
    have c1:(i:Int)<(j:Int):=by omega
    have hmid:(i+j) / 2<l.length:=by omega
    have hx:idx l (((i+j) / 2:Nat):Int)=some l[(i+j) / 2]:=v8 (List.getElem?_eq_getElem hmid)
    simp only [c1,decide_true,if_true,c8h i j (by omega),hx,Option.bind_some,hc _ (List.getElem_mem hmid)]
    by_cases hcc:c l[(i+j) / 2]<0
    · refine⟨((((i+j) / 2+1:Nat):Int),(j:Int)), ?_,⟨(i+j) / 2+1,j,rfl,by omega,hj,fun k hk hki=> ?_,hb⟩,by simp only;omega⟩
      · simp only [hcc,decide_true,if_true]
        rw [a0D (z:=(((i+j) / 2:Nat):Int)+1) (by omega)];rfl
      · exact hm k ((i+j) / 2) hk hmid (by omega) hcc
    · refine⟨((i:Int),(((i+j) / 2:Nat):Int)), ?_,⟨i,(i+j) / 2,rfl,by omega,by omega,ha,fun k hk hki h=>hcc (hm _ _ hmid hk hki h)⟩,by simp only;omega⟩
      simp only [hcc,decide_false,Bool.false_eq_true,if_false]
  · left
    have c1:¬(i:Int)<(j:Int):=by omega
    obtain rfl:i=j:=by omega
    exact⟨_,by simp only [c1,decide_false,Bool.false_eq_true,if_false],i,rfl,hj,ha,hb⟩) (0,(l.length:Int)) ⟨0,l.length,rfl,by omega,by omega,by omega,by omega⟩ (by simp only [a7j];omega)
 refine⟨i,hi, ?_⟩
 unfold bsM
 rw [he]
 have hle:=hi.le
 by_cases h:i<l.length
 · have c1:(i:Int)<(l.length:Int):=by omega
   have hx:idx l (i:Int)=some l[i]:=by simp [idx,h]
   simp only [Option.bind_some,c1,decide_true,if_true,hx,hc _ (List.getElem_mem h),List.getElem?_eq_getElem h,Option.some.injEq,exists_eq_left']
   congr 2
 · have c1:¬(i:Int)<(l.length:Int):=by omega
   simp only [Option.bind_some,c1,decide_false,Bool.false_eq_true,if_false,List.getElem?_eq_none (show l.length≤i by omega)]
   simp
noncomputable def upd {α:Type} (c:α→Int) (new:α) (f:α→α):List α→List α
 | []=> [f new]
 |x::l=>if c x<0 then x::upd c new f l else if c x=0 then f x::l else f new::x::l
theorem a9A {α:Type} {c:α→Int} {new:α} {f:α→α}:∀ {l:List α} {i:Nat},Cut c l i→upd c new f l=l.take i++(match l.drop i with| []=> [f new]|x::r=>if c x=0 then f x::r else f new::x::r)
 | [],i,h=>by simp [upd]
 |x::l,0,h=>by
  have:=h.hi 0 (by simp) (Nat.le_refl _)
  simp only [List.getElem_cons_zero]at this
  simp [upd,this]
 |x::l,i+1,h=>by
  have h0:=h.lo 0 (by simp) (by omega)
  simp only [List.getElem_cons_zero]at h0
  have ih:=a9A (c:=c) (new:=new) (f:=f) (l:=l) (i:=i) ⟨by have:=h.le;simpa using this,fun k hk hki=>h.lo (k+1) (by simpa using hk) (by omega),fun k hk hki=>h.hi (k+1) (by simpa using hk) (by omega)⟩
  simp only [upd,h0,if_true,ih,List.take_succ_cons,List.drop_succ_cons,List.cons_append]
theorem b6g {α:Type} {l:List α} {i:Nat} {x:α} (h:l[i]?=some x):l.drop i=x::l.drop (i+1):=by
 obtain⟨hi,rfl⟩:=List.getElem?_eq_some_iff.1 h
 exact List.drop_eq_getElem_cons hi
theorem a3j {α:Type} {c:α→Int} {l:List α} {i:Nat} (h:Cut c l i) {x:α} (hx:l[i]?=some x) (h0:c x=0) (new:α) (f:α→α):l.set i (f x)=upd c new f l∧(upd c new f l).length=l.length:=by
 have e:l.set i (f x)=upd c new f l:=by
  rw [a9A h,b6g hx]
  simp only [h0,if_true]
  have hi:=(List.getElem?_eq_some_iff.1 hx).1
  rw [List.set_eq_take_append_cons_drop,if_pos hi]
 exact⟨e,by rw [←e];simp⟩
theorem a6v {α:Type} {c:α→Int} {l:List α} {i:Nat} (h:Cut c l i) (hn:¬∃x,l[i]?=some x∧c x=0) (new:α) (f:α→α):(l.take i++new::l.drop i)[i]?=some new∧(l.take i++new::l.drop i).set i (f new)=upd c new f l∧(upd c new f l).length=l.length+1:=by
 have hle:=h.le
 have hlen:(l.take i).length=i:=by simp;omega
 have e:(l.take i++new::l.drop i).set i (f new)=upd c new f l:=by
  rw [a9A h,List.set_append_right _ _ (by omega),hlen,Nat.sub_self,List.set_cons_zero]
  cases hd:l.drop i with
  |nil=>rfl
  |cons y r=>
   have hy:l[i]?=some y:=by rw [←List.head?_drop,hd];rfl
   have:¬c y=0:=fun h0=>hn ⟨y,hy,h0⟩
   simp only [this,if_false]
 refine⟨by rw [List.getElem?_append_right (by omega),hlen];simp,e, ?_⟩
 rw [←e]
 simp
 omega
theorem b2c {α:Type} (s:List α) (i:Nat) (v:α) (b:Nat) (hl:s.length≤1000) (hb:b≤1000) (hi:i≤s.length):
 (gd (0≤(i:Int)∧(i:Int).toNat≤s.length)<|if(([v].length:Int)==0)=true then some s else if((i:Int)==(s.length:Int))=true then gd ((s.length+ [v].length)*b≤140737488355328∧s.length+ [v].length≤9223372036854775807)<|some (s++ [v])else
  gd (0≤(i:Int)∧(i:Int).toNat<s.length∧0< [v].length∧(s.length+ [v].length)*b≤140737488355328∧s.length+ [v].length≤9223372036854775807) (some (s.take (i:Int).toNat++ [v]++s.drop (i:Int).toNat)))=some (s.take i++v::s.drop i):=by
 have hm:(s.length+ [v].length)*b≤140737488355328:=by
  have:(s.length+ [v].length)*b≤1001*1000:=Nat.mul_le_mul (by simp;omega) hb
  omega
 have h2:s.length+ [v].length≤9223372036854775807:=by simp;omega
 rw [M9 (by omega)]
 have e1:(([v].length:Int)==0)=false:=rfl
 simp only [e1,Bool.false_eq_true,if_false]
 by_cases h:i=s.length
 · subst h
   simp only [beq_self_eq_true,if_true]
   rw [M9 ⟨hm,h2⟩]
   simp
 · have e2:((i:Int)==(s.length:Int))=false:=by rw [beq_eq_false_iff_ne];omega
   simp only [e2,Bool.false_eq_true,if_false]
   rw [M9 ⟨by omega,by omega,by simp,hm,h2⟩]
   simp
theorem a5z {α:Type} {l:List α} {f:α→α→Prop} {c:α→Int} (h:G3 f l) (hc:∀a b,f a b→c b<0→c a<0):∀i j (hi:i<l.length) (hj:j<l.length),i≤j→c l[j]<0→c l[i]<0:=by
 intro i j hi hj hij
 induction j with
 |zero=>
  obtain rfl:i=0:=by omega
  exact id
 |succ j ih=>
  intro h1
  by_cases e:i=j+1
  · subst e;exact h1
  · exact ih (by omega) (by omega) (hc _ _ (h j _ _ (List.getElem?_eq_getElem _) (List.getElem?_eq_getElem hj)) h1)
def H6 (n:Int) (s:a8):Int:=a8Y s.Night n
def a7h (n:Int) (b:c0):Int:=a8Y b.Night n
def K4 (b n:Int) (h:a7):Int:=b4l h.Ballot b h.Night n
def N3 (o n:Int) (l:b6):Int:=b4l l.Owner o l.No n
theorem b8I {me:Int} {s:b7} (h:m9 me s) (t:a8):∃i,Cut (H6 t.Night) s.Slots i∧u9 s.Slots t=some ((i:Int),decide (∃x,s.Slots[i]?=some x∧H6 t.Night x=0)):=by
 obtain⟨i,hi,e⟩:=a4E s.Slots (H6 t.Night) (by have:=h.nslots;omega) (a5z h.rslots fun a b hab hb=>by unfold H6 at*;rw [X8]at*;unfold a2O at hab;omega) (fun x=>G5 x t) (fun x _=>a6Y x t)
 refine⟨i,hi, ?_⟩
 unfold u9
 rw [show j6 s.Slots t=_ from e]
 rfl
theorem c0I {me:Int} {s:b7} (h:m9 me s) (t:c0):∃i,Cut (a7h t.Night) s.Bids i∧w5 s.Bids t=some ((i:Int),decide (∃x,s.Bids[i]?=some x∧a7h t.Night x=0)):=by
 obtain⟨i,hi,e⟩:=a4E s.Bids (a7h t.Night) (by have:=h.nbids;omega) (a5z h.rbids fun a b hab hb=>by unfold a7h at*;rw [X8]at*;unfold a6W at hab;omega) (fun x=>I6 x t) (fun x _=>a7K x t)
 refine⟨i,hi, ?_⟩
 unfold w5
 rw [show l9 s.Bids t=_ from e]
 rfl
theorem b6Y {me:Int} {s:b7} (h:m9 me s) (t:a7):∃i,Cut (K4 t.Ballot t.Night) s.Heard i∧u5 s.Heard t=some ((i:Int),decide (∃x,s.Heard[i]?=some x∧K4 t.Ballot t.Night x=0)):=by
 obtain⟨i,hi,e⟩:=a4E s.Heard (K4 t.Ballot t.Night) (by have:=h.nheard;omega) (a5z h.rheard fun a b hab hb=>by unfold K4 at*;rw [a8b]at*;unfold a1j at hab;omega) (fun x=>G8 x t) (fun x _=>a7b x t)
 refine⟨i,hi, ?_⟩
 unfold u5
 rw [show i6 s.Heard t=_ from e]
 rfl
theorem a9g {me:Int} {s:b7} (h:m9 me s) (t:b6):∃i,Cut (N3 t.Owner t.No) s.Loans i∧o5 s.Loans t=some ((i:Int),decide (∃x,s.Loans[i]?=some x∧N3 t.Owner t.No x=0)):=by
 obtain⟨i,hi,e⟩:=a4E s.Loans (N3 t.Owner t.No) (by have:=h.nloans;omega) (a5z h.rloans fun a b hab hb=>by unfold N3 at*;rw [a8b]at*;unfold a0Z at hab;omega) (fun x=>G7 x t) (fun x _=>a6S x t)
 refine⟨i,hi, ?_⟩
 unfold o5
 rw [show j7 s.Loans t=_ from e]
 rfl
theorem a2L {S E:Type} {body:S→Option (Sum S E)} (st:Nat→S) (n:Nat) (hn:n≤9223372036854775807) (fin:E) (h:∀k,k<n→body (st k)=some (.inl (st (k+1)))) (he:body (st n)=some (.inr fin)):j4 body (st 0)=some fin:=by
 have key:∀(m k N:Nat),k+m=n→m<N→a2j body N (st k)=some fin:=by
  intro m
  induction m with
  |zero=>
   intro k N hk hN
   cases N with
   |zero=>omega
   |succ N=>
    obtain rfl:k=n:=by omega
    simp only [a2j,he]
  |succ m ih=>
   intro k N hk hN
   cases N with
   |zero=>omega
   |succ N=>
    simp only [a2j,h k (by omega)]
    exact ih (k+1) N (by omega) (by omega)
 exact key n 0 a7j (by omega) (by unfold a7j;omega)
theorem a2h {α:Type} {l:List α} {k:Nat} {x:α} (h:l[k]?=some x):l.take (k+1)=l.take k++ [x]:=by
 rw [List.take_add_one,h];rfl
noncomputable def a0w {α:Type} (c:α→Int) (new:α) (f:α→α) (l:List α) (i:Nat) (x:α) (k:Nat):List α:=
 if k≤i then l.take k else l.take i++((if c x=0 then [f x]else [f new,x])++(l.take k).drop (i+1))
theorem a9B {α:Type} {c:α→Int} {new:α} {f:α→α} {l:List α} {i:Nat} {k:Nat} {x:α} {y:α} (h:k<i) (hy:l[k]?=some y):a0w c new f l i x (k+1)=a0w c new f l i x k++ [y]:=by
 unfold a0w
 rw [if_pos (by omega),if_pos (by omega),a2h hy]
theorem b0x {α:Type} {c:α→Int} {new:α} {f:α→α} {l:List α} {i:Nat} {x:α} (hx:l[i]?=some x):a0w c new f l i x (i+1)=a0w c new f l i x i++(if c x=0 then [f x]else [f new,x]):=by
 unfold a0w
 rw [if_neg (by omega),if_pos (Nat.le_refl _)]
 have:(l.take (i+1)).drop (i+1)= []:=List.drop_eq_nil_of_le (by simp;omega)
 rw [this,List.append_nil]
theorem a9H {α:Type} {c:α→Int} {new:α} {f:α→α} {l:List α} {i:Nat} {k:Nat} {x:α} {y:α} (h:i<k) (hy:l[k]?=some y):a0w c new f l i x (k+1)=a0w c new f l i x k++ [y]:=by
 have hk:=(List.getElem?_eq_some_iff.1 hy).1
 unfold a0w
 rw [if_neg (show¬k+1≤i by omega),if_neg (show¬k≤i by omega),a2h hy,List.drop_append_of_le_length (by simp;omega)]
 simp
theorem a8f {α:Type} {c:α→Int} {new:α} {f:α→α} {l:List α} {i:Nat} {x:α} (hc:Cut c l i) (hx:l[i]?=some x):a0w c new f l i x l.length=upd c new f l:=by
 have hi:=(List.getElem?_eq_some_iff.1 hx).1
 unfold a0w
 rw [if_neg (by omega),a9A hc,b6g hx,List.take_length]
 by_cases h0:c x=0<;>simp [h0]
theorem a8r {α:Type} {c:α→Int} {new:α} {f:α→α} {l:List α} {i:Nat} {k:Nat} {x:α} (hx:l[i]?=some x) (hk:k≤l.length):(a0w c new f l i x k).length≤k+1:=by
 have hi:=(List.getElem?_eq_some_iff.1 hx).1
 unfold a0w
 split
 · simp;omega
 · split<;>simp<;>omega
theorem a3G {α:Type} {c:α→Int} {new:α} {f:α→α} {l:List α} {i:Nat} {k:Nat} {x:α} (h:k≤i):a0w c new f l i x k=l.take k:=by unfold a0w;rw [if_pos h]
theorem b2w {α:Type} {c:α→Int} {l:List α} {i:Nat} {f:α→α→Prop} (h:Cut c l i) (hr:G3 f l) (hf:∀a b,f a b→¬c a<0→0<c b):∀k y,i<k→l[k]?=some y→0<c y:=by
 intro k y hk hy
 obtain⟨hl,rfl⟩:=List.getElem?_eq_some_iff.1 hy
 obtain⟨m,rfl⟩:∃m,k=m+1:=⟨k-1,by omega⟩
 exact hf _ _ (hr m _ _ (List.getElem?_eq_getElem (by omega)) (List.getElem?_eq_getElem hl)) (h.hi m (by omega) (by omega))
theorem a7C {α:Type} {c:α→Int} {l:List α} {i k:Nat} {y:α} (h:Cut c l i) (hk:k<i) (hy:l[k]?=some y):c y<0:=by
 obtain⟨hl,rfl⟩:=List.getElem?_eq_some_iff.1 hy
 exact h.lo k hl hk
theorem b6H {α:Type} {c:α→Int} {l:List α} {i k:Nat} {y:α} (h:Cut c l i) (hk:i≤k) (hy:l[k]?=some y):¬c y<0:=by
 obtain⟨hl,rfl⟩:=List.getElem?_eq_some_iff.1 hy
 exact h.hi k hl hk
theorem b2f {α:Type} {c:α→Int} {new:α} {f:α→α} {l:List α} (h:Cut c l l.length):upd c new f l=l++ [f new]:=by
 rw [a9A h,List.drop_length,List.take_length]
theorem c4B {α:Type} {c:α→Int} {new:α} {f:α→α} {l:List α} {i:Nat} (h:Cut c l i):(upd c new f l).length=l.length∨(upd c new f l).length=l.length+1:=by
 by_cases hx:∃x,l[i]?=some x∧c x=0
 · obtain⟨x,hx,h0⟩:=hx
   exact .inl (a3j h hx h0 new f).2
 · exact .inr (a6v h hx new f).2.2
theorem b5Z {α:Type} (c:α→Int) (l:List α) (hm:∀i j (hi:i<l.length) (hj:j<l.length),i≤j→c l[j]<0→c l[i]<0) (hl:l.length≤1000):∃i,Cut c l i:=by
 obtain⟨i,hi,_⟩:=a4E l c hl hm (fun x=>some (c x)) (fun _ _=>rfl)
 exact⟨i,hi⟩
def O5 (m d:Int):Int:=(N6 m d).getD 0
def a3Z (m d:Int):Bool:=(V4 m d).getD false
def b3S (d:Int):Int:=(P4 d).getD 0
set_option maxRecDepth 100000 in theorem mask_f : ∀ (m : Fin 64) (d : Fin 6), N6 (m.val : Int) (d.val : Int) = some (O5 m.val d.val) ∧ (0 ≤ O5 m.val d.val ∧ O5 m.val d.val ≤ 63 ∧ O5 m.val d.val ≠ 0) ∧ V4 (m.val : Int) (d.val : Int) = some (a3Z m.val d.val) ∧ P4 (d.val : Int) = some (b3S d.val) ∧
    ((W ((BitVec.ofInt IntKind.i64.bits (m.val : Int) &&& BitVec.ofInt IntKind.i64.bits (b3S d.val)).toNat : Int)) != 0) = a3Z m.val d.val ∧ (W ((BitVec.ofInt IntKind.i64.bits (m.val : Int) ||| BitVec.ofInt IntKind.i64.bits (b3S d.val)).toNat : Int)) = O5 m.val d.val ∧ b3S d.val = O5 0 d.val := by decide +kernel
theorem a4f {m d:Int} (hm:0≤m∧m≤63) (hd:0≤d∧d≤5):N6 m d=some (O5 m d)∧(0≤O5 m d∧O5 m d≤63∧O5 m d≠0)∧V4 m d=some (a3Z m d)∧P4 d=some (b3S d)∧
 ((W ((BitVec.ofInt IntKind.i64.bits m&&&BitVec.ofInt IntKind.i64.bits (b3S d)).toNat:Int)) !=0)=a3Z m d∧(W ((BitVec.ofInt IntKind.i64.bits m|||BitVec.ofInt IntKind.i64.bits (b3S d)).toNat:Int))=O5 m d∧b3S d=O5 0 d:=by
 have:=mask_f ⟨m.toNat,by omega⟩ ⟨d.toNat,by omega⟩
 simp only [Int.toNat_of_nonneg hm.1,Int.toNat_of_nonneg hd.1]at this
 exact this
def S8 (c:b5) (s:a8):a8:=if c.Ballot>s.Promised then⟨s.Night,c.Ballot,s.Ballot,s.Value⟩else s
def a1S (c:b5) (s:a8):a8:=if c.Ballot≥s.Promised then⟨s.Night,c.Ballot,c.Ballot,c.Value⟩else s
def E3 (c:b5) (h:a7):a7:=if h.Value=c.Value then⟨h.Night,h.Ballot,h.Value,O5 h.Mask c.From⟩else h
def a0Q (c:b5) (b:c0):c0:=if b.Night=c.Night∧b.Ballot=c.Ballot∧b.Asked=false∧a3Z b.Mask c.From=false then⟨b.Night,b.Ballot,if c.Best>b.Best then c.Value else b.Value,if c.Best>b.Best then c.Best else b.Best,O5 b.Mask c.From,qr (O5 b.Mask c.From)⟩else b
def U9 (c:b5) (l:b8):b8:=if l.No=c.No∧l.Thing=c.Thing∧l.To=c.From then⟨l.No,l.Thing,l.To,l.From,min l.Until (max c.Until l.From)⟩else l
def o7 (c:b5):a8:=⟨c.Night,0,0,0⟩
def w6 (c:b5):a7:=⟨c.Night,c.Ballot,c.Value,0⟩
def K7 (c:b5):b6:=⟨c.From,c.No,c.Thing,c.Start,c.Until,false⟩
inductive c2P {α:Type} (m:Option (Sum (List α×Int) Unit)) (c:α→Int) (new:α) (l:List α) (most:Nat):Prop
 |fits (i:Nat) (L:List α) (e:α) (hm:m=some (.inl (L,(i:Int)))) (he:L[i]?=some e) (hs:∀f,L.set i (f e)=upd c new f l) (hl:∀f,(upd c new f l).length≤most)
 |full (hm:m=some (.inr ())) (hl:∀f,¬(upd c new f l).length≤most)
theorem b2n {α:Type} {c:α→Int} {l:List α} {new:α} {most:Nat} {i:Nat} {pl:Option (Int×Bool)} {ins:Int→Option (List α)} (hc:Cut c l i) (hl:l.length≤most) (hp:pl=some ((i:Int),decide (∃x,l[i]?=some x∧c x=0))) (hi:ins (i:Int)=some (l.take i++new::l.drop i)):
 c2P (Option.bind pl fun(x1,x2)=>if x2=true then some (.inl (l,x1))else if((l.length:Int)==(most:Int))=true then some (.inr ())else Option.bind (ins x1) fun x=>some (.inl (x,x1))) c new l most:=by
 subst hp
 by_cases h:∃x,l[i]?=some x∧c x=0
 · obtain⟨x,hx,h0⟩:=h
   refine .fits i l x ?_ hx (fun f=>(a3j hc hx h0 new f).1) (fun f=>by rw [(a3j hc hx h0 new f).2];exact hl)
   simp only [Option.bind_some]
   rw [if_pos (decide_eq_true ⟨x,hx,h0⟩)]
 · by_cases hf:l.length=most
   · refine .full ?_ (fun f=>by rw [(a6v hc h new f).2.2];omega)
     simp only [Option.bind_some]
     rw [if_neg (by simpa using h),if_pos (by rw [hf];simp)]
   · refine .fits i _ new ?_ (a6v hc h new id).1 (fun f=>(a6v hc h new f).2.1) (fun f=>by rw [(a6v hc h new f).2.2];omega)
     simp only [Option.bind_some]
     rw [if_neg (by simpa using h),if_neg (by rw [beq_iff_eq];omega),hi]
     rfl
theorem b5j {me:Int} {s:b7} (h:m9 me s) (c:b5):c2P (a1y c s.Slots) (H6 c.Night) (o7 c) s.Slots 12:=by
 obtain⟨i,hi,e⟩:=b8I h (o7 c)
 have hn:s.Slots.length≤12:=by have:=h.nslots;omega
 exact b2n (ins:=fun i=>L8 s.Slots i [o7 c]) hi hn e (b2c s.Slots i (o7 c) 32 (by have:=h.nslots;omega) (by omega) hi.le)
theorem b8y {me:Int} {s:b7} (h:m9 me s) (c:b5):c2P (a1n c s.Heard) (K4 c.Ballot c.Night) (w6 c) s.Heard 60:=by
 obtain⟨i,hi,e⟩:=b6Y h (w6 c)
 have hn:s.Heard.length≤60:=by have:=h.nheard;omega
 exact b2n (ins:=fun i=>K5 s.Heard i [w6 c]) hi hn e (b2c s.Heard i (w6 c) 32 (by have:=h.nheard;omega) (by omega) hi.le)
theorem c1I {me:Int} {s:b7} (h:m9 me s) (c:b5):c2P (a1t c s.Loans) (N3 c.From c.No) (K7 c) s.Loans 60:=by
 obtain⟨i,hi,e⟩:=a9g h (K7 c)
 have hn:s.Loans.length≤60:=by have:=h.nloans;omega
 exact b2n (ins:=fun i=>L7 s.Loans i [K7 c]) hi hn e (b2c s.Loans i (K7 c) 48 (by have:=h.nloans;omega) (by omega) hi.le)
theorem a6n {α:Type} {L:List α} {i:Nat} {e:α} (x:α) (h:L[i]?=some e):(L.set i x)[i]?=some x:=by
 have:=(List.getElem?_eq_some_iff.1 h).1
 simp [this]
def fits {α:Type} (l l0:List α) (most:Nat):List α×Bool:=if l.length≤most then(l,true)else(l0,false)
theorem b8z {me:Int} {s:b7} (h:m9 me s) (c:b5):X4 c s.Slots=some (fits (upd (H6 c.Night) (o7 c) (S8 c) s.Slots) s.Slots 12):=by
 unfold X4 S6 fits
 rcases b5j h c with⟨i,L,e,hm,he,hs,hl⟩|⟨hm,hl⟩
 · rw [if_pos (hl _),←hs]
   simp only [hm,Option.bind_some,v8 he,S8]
   by_cases hb:c.Ballot>e.Promised
   · simp [hb]
   · have:=hs id
     have h2:L.set i e=L:=by
      obtain⟨hi,rfl⟩:=List.getElem?_eq_some_iff.1 he
      exact List.set_getElem_self hi
     simp [hb,h2]
 · rw [if_neg (hl _)]
   simp only [hm,Option.bind_some]
theorem Q1 {α:Type} {L:List α} {i:Nat} {e:α} (he:L[i]?=some e):L.set i e=L:=by
 obtain⟨hi,rfl⟩:=List.getElem?_eq_some_iff.1 he
 exact List.set_getElem_self hi
theorem c1L {me:Int} {s:b7} (h:m9 me s) (c:b5):Z5 c s.Slots=some (fits (upd (H6 c.Night) (o7 c) (a1S c) s.Slots) s.Slots 12):=by
 unfold Z5 S6 fits
 rcases b5j h c with⟨i,L,e,hm,he,hs,hl⟩|⟨hm,hl⟩
 · rw [if_pos (hl _),←hs]
   simp only [hm,Option.bind_some,v8 he,a1S]
   by_cases hb:c.Ballot≥e.Promised
   · simp only [hb,decide_true,if_true,Int.toNat_natCast,v8 (a6n _ he),Option.bind_some]
     have e1:=a6n (L:=L) (⟨e.Night,c.Ballot,e.Ballot,e.Value⟩:a8) he
     have e2:=a6n (L:=L) (⟨e.Night,c.Ballot,c.Ballot,e.Value⟩:a8) he
     simp only [v8 e1,Option.bind_some,List.set_set,v8 e2]
   · simp [hb,Q1 he]
 · rw [if_neg (hl _)]
   simp only [hm,Option.bind_some]
theorem b8e {me:Int} {s:b7} (h:m9 me s) {c:b5} (hc:0≤c.From∧c.From≤5):T0 c s.Heard=some (fits (upd (K4 c.Ballot c.Night) (w6 c) (E3 c) s.Heard) s.Heard 60):=by
 unfold T0 fits
 rcases b8y h c with⟨i,L,e,hm,he,hs,hl⟩|⟨hm,hl⟩
 · rw [if_pos (hl _)]
   have hmask:0≤e.Mask∧e.Mask≤63:=by
    have hL:L=upd (K4 c.Ballot c.Night) (w6 c) id s.Heard:=by rw [←hs id];exact(Q1 he).symm
    have hmem:e∈L:=List.mem_of_getElem? he
    rw [hL]at hmem
    have key:∀l:List a7,(∀x,x∈l→0≤x.Mask∧x.Mask≤63)→e∈upd (K4 c.Ballot c.Night) (w6 c) id l→0≤e.Mask∧e.Mask≤63:=by
     intro l
     induction l with
     |nil=>
      intro _ he
      simp only [upd,List.mem_singleton,id]at he
      subst he;simp [w6]
     |cons x l ih=>
      intro hx he
      unfold upd at he
      split at he
      · rcases List.mem_cons.1 he with rfl|he
        · exact hx _ List.mem_cons_self
        · exact ih (fun y hy=>hx y (List.mem_cons_of_mem _ hy)) he
      · split at he
        · exact hx _ he
        · rcases List.mem_cons.1 he with rfl|he
          · simp [w6]
          · exact hx _ he
    exact key _ (fun x hx=>(h.heard x hx).2.2.2.2) hmem
   have hw:=(a4f hmask hc).1
   rw [←hs]
   simp only [hm,Option.bind_some,v8 he,E3]
   by_cases hb:e.Value=c.Value
   · simp [hb,hw]
   · simp [hb,Q1 he]
 · rw [if_neg (hl _)]
   simp only [hm,Option.bind_some]
theorem c2t {me:Int} {s:b7} (h:m9 me s) (c:b5):a0n c s.Loans=some (fits (upd (N3 c.From c.No) (K7 c) id s.Loans) s.Loans 60):=by
 unfold a0n fits
 rcases c1I h c with⟨i,L,e,hm,he,hs,hl⟩|⟨hm,hl⟩
 · rw [if_pos (hl _),←hs]
   simp only [hm,Option.bind_some,id,Q1 he]
 · rw [if_neg (hl _)]
   simp only [hm,Option.bind_some]
theorem b2I {α:Type} {body:(Int×List α)→Option (Sum (Int×List α) (Int×List α))} (l:List α) (hl:l.length≤1000) (f:α→α)
 (h:∀(k:Nat) (v:List α) (x:α),v.length=l.length→l[k]?=some x→v[k]?=some x→body ((k:Int),v)=some (.inl (((k+1:Nat):Int),v.set k (f x))))
 (he:∀v:List α,v.length=l.length→body ((l.length:Int),v)=some (.inr ((l.length:Int),v))):j4 body (0,l)=some ((l.length:Int),l.map f):=by
 have:=a2L (body:=body) (fun k=>((k:Int),(l.take k).map f++l.drop k)) l.length (by omega) ((l.length:Int),l.map f) (fun k hk=>by
  obtain⟨x,hx⟩:=a0P hk
  have hlen:((l.take k).map f).length=k:=by simp;omega
  have hv:((l.take k).map f++l.drop k)[k]?=some x:=by
   rw [List.getElem?_append_right (by omega),hlen,Nat.sub_self,List.getElem?_drop]
   exact hx
  rw [h k _ x (by simp;omega) hx hv]
  congr 3
  rw [List.set_append_right _ _ (by omega),hlen,Nat.sub_self,b6g hx,List.set_cons_zero,a2h hx]
  simp) (by
  rw [he _ (by simp)]
  simp)
 simpa using this
theorem c5b {me:Int} {s:b7} (h:m9 me s) (c:b5):a0C c s.Leases=some (s.Leases.map (U9 c)):=by
 have hl:=h.nleases
 unfold a0C
 rw [b2I s.Leases (by omega) (U9 c) (fun k v x hv hx hvx=>by
  have hk:=(List.getElem?_eq_some_iff.1 hx).1
  have hlt:((k:Int)<(s.Leases.length:Int)):=by omega
  have hw:W ((k:Int)+1)=((k+1:Nat):Int):=W_s (by omega)
  unfold O4 U9
  simp only [hlt,decide_true,if_true,v8 hvx,Option.bind_some,hw,b0L,b0Y,Int.toNat_natCast]
  by_cases g1:x.No=c.No<;>by_cases g2:x.Thing=c.Thing<;>by_cases g3:x.To=c.From<;>simp [g1,g2,g3,Q1 hvx]) (fun v hv=>by simp [O4])]
 rfl
theorem c1F {α:Type} (l:List α) (hl:l.length≤9223372036854775807) (P:α→Option Bool) (Q:α→Prop) (hP:∀x,x∈l→Ans (P x) (Q x)) {m:Option Int}
 (hm:m=Option.bind (j4 (fun(v:Int)=>if(decide (v<(l.length:Int)))=true then Option.bind (idx l v) fun e=>Option.bind (P e) fun x=>if x=true then some (.inr (.inr v))else some (.inl (W (v+1)))else some (.inr (.inl v))) 0)
  fun(e:Sum Int Int)=>match e with| .inl _=>some (-1)| .inr r=>some r):(∃(j:Nat) (x:α),l[j]?=some x∧Q x∧m=some (j:Int))∨((∀x,x∈l→¬Q x)∧m=some (-1)):=by
 have hs:=a2l (body:=fun(v:Int)=>if(decide (v<(l.length:Int)))=true then Option.bind (idx l v) fun e=>Option.bind (P e) fun x=>if x=true then some (.inr (.inr v))else some (.inl (W (v+1)))else some (.inr (.inl v)))
  l.length hl (fun i=>match l[i]? with|some x=>if Q x then some (i:Int)else none|none=>none) 0 (Nat.zero_le _) (fun i _ h2=>by
   have hlt:((i:Int)<(l.length:Int)):=by omega
   simp only [hlt,decide_true,if_true,v8 (List.getElem?_eq_getElem h2),Option.bind_some,(hP _ (List.getElem_mem h2)).eq,List.getElem?_eq_getElem h2]
   by_cases hp:Q l[i]
   · simp [hp]
   · simp [hp];exact W_s (by omega)) (by simp)
 rw [show((0:Nat):Int)=0 from rfl]at hs
 rw [hm,hs]
 by_cases hany:∃x,x∈l∧Q x
 · obtain⟨x,hx,hpx⟩:=hany
   obtain⟨i,hi,rfl⟩:=List.getElem_of_mem hx
   obtain⟨j,r,a,b,c,d⟩:=a4r (q:=fun i=>match l[i]? with|some x=>if Q x then some (i:Int)else none|none=>none) (l.length-0) 0 i (Nat.zero_le _) (by omega) (by simp [List.getElem?_eq_getElem hi,hpx])
   have hj:j<l.length:=by omega
   simp only [List.getElem?_eq_getElem hj]at c
   split at c
   · rename_i hq
     simp only [Option.some.injEq]at c
     subst c
     exact .inl ⟨j,l[j],List.getElem?_eq_getElem hj,hq,by rw [d];rfl⟩
   · cases c
 · right
   refine⟨fun x hx hq=>hany ⟨x,hx,hq⟩, ?_⟩
   rw [a3n _ _ (fun i _ h2=>by
    have hi:i<l.length:=by omega
    simp only [List.getElem?_eq_getElem hi]
    rw [if_neg (fun hq=>hany ⟨_,List.getElem_mem hi,hq⟩)])]
   rfl
theorem b6l {α:Type} {l:List α} {f:α→α} {j:Nat} {x:α} (hx:l[j]?=some x) (h:∀k y,k≠j→l[k]?=some y→f y=y):l.map f=l.set j (f x):=by
 refine List.ext_getElem? fun k=> ?_
 have hj:=(List.getElem?_eq_some_iff.1 hx).1
 rw [List.getElem?_map,List.getElem?_set]
 by_cases hk:j=k
 · subst hk;rw [if_pos rfl,if_pos hj,hx];rfl
 · rw [if_neg hk]
   cases hy:l[k]? with
   |none=>rfl
   |some y=>simp [h k y (fun e=>hk e.symm) hy]
theorem map_id {α:Type} {l:List α} {f:α→α} (h:∀x,x∈l→f x=x):l.map f=l:=by
 conv=>rhs;rw [←List.map_id l]
 exact List.map_congr_left fun x hx=>by rw [h x hx];rfl
theorem b8M {l:List c0} (h:a7F (fun a b=>a.Ballot=b.Ballot) l) {i j:Nat} {x y:c0} (hi:l[i]?=some x) (hj:l[j]?=some y) (e:x.Ballot=y.Ballot):i=j:=by
 rcases Nat.lt_trichotomy i j with hlt|he|hgt
 · exact absurd e (h j y hj x (List.mem_take_iff_getElem.2 ⟨i,by have:=(List.getElem?_eq_some_iff.1 hi).1;omega,(List.getElem?_eq_some_iff.1 hi).2⟩))
 · exact he
 · exact absurd e.symm (h i x hi y (List.mem_take_iff_getElem.2 ⟨j,by have:=(List.getElem?_eq_some_iff.1 hj).1;omega,(List.getElem?_eq_some_iff.1 hj).2⟩))
theorem b8J {me:Int} {s:b7} (h:m9 me s) {c:b5} (hc:0≤c.From∧c.From≤5):V7 c s.Bids=some (s.Bids.map (a0Q c)):=by
 have hl:=h.nbids
 unfold V7
 rcases c1F s.Bids (by omega) (fun b=>Z6 b c) (fun b=>b.Night=c.Night∧b.Ballot=c.Ballot) (fun b _=>Ans.ite (by simp) fun _=>Ans.ofb (by simp)) (m:=u3 s.Bids c) rfl with⟨j,x,hx,⟨q1,q2⟩,hm⟩|⟨hn,hm⟩
 · have hv:=h.bids x (List.mem_of_getElem? hx)
   have hmask:=hv.2.2.2.2.2.1
   obtain⟨mw,mb,mh,_⟩:=a4f hmask hc
   have mq:=(b4I (n:=O5 x.Mask c.From) ⟨mb.1,mb.2.1⟩).1
   have hset:s.Bids.map (a0Q c)=s.Bids.set j (a0Q c x):=b6l hx fun k y hk hy=>by
    unfold a0Q
    rw [if_neg]
    rintro⟨_,e,_⟩
    exact hk (b8M h.ballots hy hx (by rw [e,q2]))
   have hj0:¬((j:Int)<0):=by omega
   rw [hset]
   simp only [hm,Option.bind_some,hj0,decide_false,Bool.false_eq_true,if_false,v8 hx,mh,mw,mq,Int.toNat_natCast,a0Q,q1,q2,true_and]
   by_cases ha:x.Asked=true
   · simp [ha,Q1 hx]
   · by_cases hh:a3Z x.Mask c.From=true
     · simp [ha,hh,Q1 hx]
     · have e1:=a6n (L:=s.Bids) (⟨c.Night,c.Ballot,x.Value,x.Best,O5 x.Mask c.From,x.Asked⟩:c0) hx
       have e2:=a6n (L:=s.Bids) (⟨c.Night,c.Ballot,x.Value,x.Best,O5 x.Mask c.From,qr (O5 x.Mask c.From)⟩:c0) hx
       have e3:=a6n (L:=s.Bids) (⟨c.Night,c.Ballot,x.Value,c.Best,O5 x.Mask c.From,qr (O5 x.Mask c.From)⟩:c0) hx
       have ha':x.Asked=false:=by simpa using ha
       have hh':a3Z x.Mask c.From=false:=by simpa using hh
       simp only [ha',hh',Bool.false_eq_true,if_false,and_self,if_true]at e1 e2 e3⊢
       simp only [v8 e1,Option.bind_some,List.set_set,v8 e2]
       by_cases hb:c.Best>x.Best
       · simp only [hb,decide_true,if_true,v8 e3,Option.bind_some]
       · simp only [hb,decide_false,Bool.false_eq_true,if_false]
 · rw [map_id (fun x hx=>by
    unfold a0Q
    rw [if_neg]
    rintro⟨a,b,_⟩
    exact hn x hx ⟨a,b⟩)]
   simp [hm]
theorem b8t {me:Int} {x:a6} (h:m9 me x.Now) (c:b5):∃(i:Nat) (L:List a8) (e:a8),a0G c x=some (L,(i:Int))∧L[i]?=some e∧e.Night=c.Night∧∀f,L.set i (f e)=upd (H6 c.Night) (o7 c) f x.Now.Slots:=by
 have hn:=h.nslots
 obtain⟨i,hi⟩:=b5Z (H6 c.Night) x.Now.Slots (a5z h.rslots fun a b hab hb=>by unfold H6 at*;rw [X8]at*;unfold a2O at hab;omega) (by omega)
 have hgt:=b2w hi h.rslots (fun a b hab ha=>by
  unfold H6 at*;unfold a2O at hab;rw [X8]at ha
  unfold a8Y;rw [if_neg (by omega),if_pos (by omega)];omega)
 have kK:∀y:a8,(H6 c.Night y<0↔y.Night<c.Night)∧(H6 c.Night y=0↔y.Night=c.Night)∧(0<H6 c.Night y↔c.Night<y.Night):=fun y=>by
  unfold H6
  refine⟨X8,a1D, ?_⟩
  have h1:= @X8 y.Night c.Night
  have h2:= @a1D y.Night c.Night
  omega
 have hle:=hi.le
 unfold a0G
 by_cases hil:i<x.Now.Slots.length
 · obtain⟨e,he⟩:=a0P hil
   have hl:=a2L (body:=A6 c x) (fun k=>(([]:List a8),(if k≤i then(-1:Int)else(i:Int)),(k:Int),([]:List a8),([]:List a8),a0w (H6 c.Night) (o7 c) id x.Now.Slots i e k)) x.Now.Slots.length (by omega) (([]:List a8),(i:Int),(x.Now.Slots.length:Int),([]:List a8),([]:List a8),upd (H6 c.Night) (o7 c) id x.Now.Slots) (fun k hk=>by
    obtain⟨y,hy⟩:=a0P hk
    have hlt:((k:Int)<(x.Now.Slots.length:Int)):=by omega
    have hw:W ((k:Int)+1)=((k+1:Nat):Int):=W_s (by omega)
    have hol:=a8r (c:=H6 c.Night) (new:=o7 c) (f:=id) (k:=k) he (by omega)
    obtain⟨k1,k2,k3⟩:=kK y
    unfold A6
    rcases Nat.lt_trichotomy k i with g|g|g
    · have hlo:=k1.1 (a7C hi g hy)
      rw [a9B g hy]
      have n1:¬y.Night>c.Night:=by omega
      have n2:(y.Night==c.Night)=false:=by rw [beq_eq_false_iff_ne];omega
      simp only [hlt,decide_true,if_true,show k≤i by omega,show k+1≤i by omega,show decide ((-1:Int)<0)=true from rfl,v8 hy,Option.bind_some,n1,decide_false,Bool.false_eq_true,if_false,n2,hw]
      rw [M9 (by simp;omega)]
    · subst g
      rw [he]at hy
      obtain rfl:=Option.some.inj hy
      have hhi:=b6H hi (Nat.le_refl _) he
      rw [b0x he,a3G (Nat.le_refl _)]
      have hlen:(x.Now.Slots.take k).length=k:=by simp;omega
      have nk:¬k+1≤k:=by omega
      by_cases h0:e.Night=c.Night
      · have n1:¬e.Night>c.Night:=by omega
        simp only [hlt,decide_true,if_true,Nat.le_refl,nk,if_false,show decide ((-1:Int)<0)=true from rfl,v8 he,Option.bind_some,h0,show decide (c.Night>c.Night)=false by simp,Bool.false_eq_true,beq_self_eq_true,hw,k2.2 h0,id,hlen]
        rw [M9 (by simp;omega)]
      · have n1:e.Night>c.Night:=by omega
        have n2:(e.Night==c.Night)=false:=by rw [beq_eq_false_iff_ne];omega
        have n3:¬H6 c.Night e=0:=fun h=>h0 (k2.1 h)
        simp only [hlt,decide_true,if_true,Nat.le_refl,nk,if_false,show decide ((-1:Int)<0)=true from rfl,v8 he,Option.bind_some,n1,Bool.false_eq_true,n2,hw,n3,id,hlen]
        rw [M9 (by simp;omega),M9 (by simp;omega)]
        simp [o7]
    · have h3:=k3.1 (hgt k y g hy)
      rw [a9H g hy]
      have n0:¬((i:Int)<0):=by omega
      have n2:(y.Night==c.Night)=false:=by rw [beq_eq_false_iff_ne];omega
      simp only [hlt,decide_true,if_true,show¬k≤i by omega,show¬k+1≤i by omega,if_false,n0,decide_false,Bool.false_eq_true,v8 hy,Option.bind_some,n2,hw]
      rw [M9 (by simp;omega)]) (by
    rw [a8f hi he]
    simp [A6,show¬x.Now.Slots.length≤i by omega])
   simp only [Nat.zero_le,if_true,a3G (Nat.zero_le i),List.take_zero,show((0:Nat):Int)=0 from rfl]at hl
   rw [hl]
   have n0:¬((i:Int)<0):=by omega
   simp only [Option.bind_some,n0,decide_false,Bool.false_eq_true,if_false]
   by_cases h0:H6 c.Night e=0
   · refine⟨i,_,e,rfl, ?_,(kK e).2.1.1 h0,fun f=> ?_⟩
     · rw [←(a3j hi he h0 (o7 c) id).1]
       simp [Q1 he,he]
     · rw [←(a3j hi he h0 (o7 c) id).1,←(a3j hi he h0 (o7 c) f).1,List.set_set]
   · have hne:¬∃y,x.Now.Slots[i]?=some y∧H6 c.Night y=0:=by
      rintro⟨y,hy,hy0⟩
      rw [he]at hy
      obtain rfl:=Option.some.inj hy
      exact h0 hy0
     obtain⟨p1,p2,p3⟩:=a6v hi hne (o7 c) id
     refine⟨i,_,o7 c,rfl, ?_,rfl,fun f=> ?_⟩
     · rw [←p2]
       simp only [id]
       rw [Q1 p1];exact p1
     · rw [←p2,←(a6v hi hne (o7 c) f).2.1,List.set_set]
 · obtain rfl:i=x.Now.Slots.length:=by omega
   have hl:=a2L (body:=A6 c x) (fun k=>(([]:List a8),(-1:Int),(k:Int),([]:List a8),([]:List a8),x.Now.Slots.take k)) x.Now.Slots.length (by omega) (([]:List a8),(-1:Int),(x.Now.Slots.length:Int),([]:List a8),([]:List a8),x.Now.Slots) (fun k hk=>by
    obtain⟨y,hy⟩:=a0P hk
    have hlt:((k:Int)<(x.Now.Slots.length:Int)):=by omega
    have hw:W ((k:Int)+1)=((k+1:Nat):Int):=W_s (by omega)
    obtain⟨k1,k2,k3⟩:=kK y
    have hlo:=k1.1 (a7C hi hk hy)
    have n1:¬y.Night>c.Night:=by omega
    have n2:(y.Night==c.Night)=false:=by rw [beq_eq_false_iff_ne];omega
    unfold A6
    rw [a2h hy]
    simp only [hlt,decide_true,if_true,show decide ((-1:Int)<0)=true from rfl,v8 hy,Option.bind_some,n1,decide_false,Bool.false_eq_true,if_false,n2,hw]
    rw [M9 (by simp;omega)]) (by simp [A6])
   simp only [List.take_zero,show((0:Nat):Int)=0 from rfl]at hl
   rw [hl]
   simp only [Option.bind_some,show decide ((-1:Int)<0)=true from rfl,if_true]
   rw [M9 (by simp;omega)]
   refine⟨x.Now.Slots.length,_,o7 c,rfl,by simp [o7],rfl,fun f=> ?_⟩
   rw [b2f hi]
   rw [List.set_append_right _ _ (Nat.le_refl _)]
   simp
theorem c3R {me:Int} {s:b7} (h:m9 me s) (c:b5):j4 (Z3 c) (0,s.Leases)=some ((s.Leases.length:Int),s.Leases.map (U9 c)):=by
 have hl:=h.nleases
 refine b2I s.Leases (by omega) (U9 c) (fun k v x hv hx hvx=> ?_) (fun v hv=>by simp [Z3,hv])
 have hk:=(List.getElem?_eq_some_iff.1 hx).1
 have hlt:((k:Int)<(v.length:Int)):=by omega
 have hw:W ((k:Int)+1)=((k+1:Nat):Int):=W_s (by omega)
 unfold Z3 U9
 simp only [hlt,decide_true,if_true,v8 hvx,Option.bind_some,hw,b0L,b0Y,Int.toNat_natCast]
 by_cases g1:x.No=c.No<;>by_cases g2:x.Thing=c.Thing<;>by_cases g3:x.To=c.From<;>simp [g1,g2,g3,Q1 hvx]
theorem b7G {me:Int} {s:b7} (h:m9 me s) {c:b5} (hc:0≤c.From∧c.From≤5):j4 (Y1 c) (0,s.Bids)=some ((s.Bids.length:Int),s.Bids.map (a0Q c)):=by
 have hl:=h.nbids
 refine b2I s.Bids (by omega) (a0Q c) (fun k v x hv hx hvx=> ?_) (fun v hv=>by simp [Y1,hv])
 have hk:=(List.getElem?_eq_some_iff.1 hx).1
 have hlt:((k:Int)<(v.length:Int)):=by omega
 have hw:W ((k:Int)+1)=((k+1:Nat):Int):=W_s (by omega)
 have hmask:=(h.bids x (List.mem_of_getElem? hx)).2.2.2.2.2.1
 obtain⟨_,mb,_,bi,ma,mo,_⟩:=a4f hmask hc
 unfold Y1 a0Q
 simp only [hlt,decide_true,if_true,v8 hvx,Option.bind_some,hw,Int.toNat_natCast,bi,ma,mo,b3a]
 by_cases g1:x.Night=c.Night
 · by_cases g2:x.Ballot=c.Ballot
   · by_cases g3:x.Asked=true
     · simp [g1,g2,g3,Q1 hvx]
     · by_cases g4:a3Z x.Mask c.From=true
       · simp [g1,g2,g3,g4,Q1 hvx]
       · by_cases g5:c.Best>x.Best<;>simp [g1,g2,g3,g4,g5]
   · simp [g1,g2,Q1 hvx]
 · simp [g1,Q1 hvx]
theorem V9 (b n:Int) (y:a7):(K4 b n y<0↔y.Ballot<b∨(y.Ballot=b∧y.Night<n))∧(K4 b n y=0↔y.Ballot=b∧y.Night=n):=⟨a8b,b9V⟩
theorem M5 (o n:Int) (y:b6):(N3 o n y<0↔y.Owner<o∨(y.Owner=o∧y.No<n))∧(N3 o n y=0↔y.Owner=o∧y.No=n):=⟨a8b,b9V⟩
theorem b9A {x:Int} (h1:¬x<0) (h2:¬x=0):0<x:=by omega
theorem c1A {me:Int} {s:b7} (h:m9 me s) {c:b5} (hc:0≤c.From∧c.From≤5):a5n s c=some (⟨s.Round,s.Slots,s.Bids,upd (K4 c.Ballot c.Night) (w6 c) (E3 c) s.Heard,s.Leases,s.Loans⟩,decide ((upd (K4 c.Ballot c.Night) (w6 c) (E3 c) s.Heard).length≤60)):=by
 have hn:=h.nheard
 obtain⟨i,hi⟩:=b5Z (K4 c.Ballot c.Night) s.Heard (a5z h.rheard fun a b hab hb=>by rw [(V9 _ _ _).1]at*;unfold a1j at hab;omega) (by omega)
 have hgt:∀k y,i<k→s.Heard[k]?=some y→¬K4 c.Ballot c.Night y<0∧¬K4 c.Ballot c.Night y=0:=fun k y hk hy=>by
  have:=b2w hi h.rheard (f:=a1j) (fun a b hab ha=>by
   refine b9A ?_ ?_
   · rw [(V9 _ _ _).1]at*;unfold a1j at hab;omega
   · rw [(V9 _ _ _).1]at ha;rw [(V9 _ _ _).2];unfold a1j at hab;omega) k y hk hy
  omega
 have hbit:P4 c.From=some (b3S c.From):=(a4f (m:=0) (by omega) hc).2.2.2.1
 have hb0:b3S c.From=O5 0 c.From:=(a4f (m:=0) (by omega) hc).2.2.2.2.2.2
 have hnew:(⟨c.Night,c.Ballot,c.Value,b3S c.From⟩:a7)=E3 c (w6 c):=by simp [E3,w6,hb0]
 have hle:=hi.le
 unfold a5n
 by_cases hil:i<s.Heard.length
 · obtain⟨e,he⟩:=a0P hil
   have hl:=a2L (body:=P0 s c) (fun k=>(([]:List a7),(if k≤i then false else true),(k:Int),([]:List a7),([]:List a7),([]:List a7),([]:List a7),([]:List a7),a0w (K4 c.Ballot c.Night) (w6 c) (E3 c) s.Heard i e k)) s.Heard.length (by omega) (([]:List a7),true,(s.Heard.length:Int),([]:List a7),([]:List a7),([]:List a7),([]:List a7),([]:List a7),upd (K4 c.Ballot c.Night) (w6 c) (E3 c) s.Heard) (fun k hk=>by
    obtain⟨y,hy⟩:=a0P hk
    have hlt:((k:Int)<(s.Heard.length:Int)):=by omega
    have hw:W ((k:Int)+1)=((k+1:Nat):Int):=W_s (by omega)
    have hol:=a8r (c:=K4 c.Ballot c.Night) (new:=w6 c) (f:=E3 c) (k:=k) he (by omega)
    have hmask:=(h.heard y (List.mem_of_getElem? hy)).2.2.2.2
    have mo:=(a4f hmask hc).2.2.2.2.2.1
    obtain⟨k1,k2⟩:=V9 c.Ballot c.Night y
    unfold P0
    rcases Nat.lt_trichotomy k i with g|g|g
    · have hlo:=k1.1 (a7C hi g hy)
      rw [a9B g hy]
      simp only [hlt,decide_true,if_true,show k≤i by omega,show k+1≤i by omega,v8 hy,Option.bind_some,hw,Bool.not_false]
      have hg:((a0w (K4 c.Ballot c.Night) (w6 c) (E3 c) s.Heard i e k).length+([y]:List a7).length)*32≤140737488355328∧(a0w (K4 c.Ballot c.Night) (w6 c) (E3 c) s.Heard i e k).length+([y]:List a7).length≤9223372036854775807:=by simp;omega
      rw [M9 hg,M9 hg]
      rcases hlo with q|⟨q,q'⟩
      · have n1:(y.Ballot==c.Ballot)=false:=by rw [beq_eq_false_iff_ne];omega
        have n2:¬y.Ballot>c.Ballot:=by omega
        simp only [n1,n2,Bool.false_eq_true,if_false,decide_false]
      · have n1:(y.Night==c.Night)=false:=by rw [beq_eq_false_iff_ne];omega
        have n2:¬y.Ballot>c.Ballot:=by omega
        have n3:¬y.Night>c.Night:=by omega
        simp only [q,beq_self_eq_true,if_true,n1,n2,n3,Bool.false_eq_true,if_false,decide_false,show¬c.Ballot>c.Ballot by omega]
    · subst g
      rw [he]at hy
      obtain rfl:=Option.some.inj hy
      have hhi:=b6H hi (Nat.le_refl _) he
      rw [b0x he,a3G (Nat.le_refl _)]
      have hlen:(s.Heard.take k).length=k:=by simp;omega
      have nk:¬k+1≤k:=by omega
      simp only [hlt,decide_true,if_true,Nat.le_refl,nk,if_false,v8 he,Option.bind_some,hw,Bool.not_false,hbit,mo]
      by_cases h0:K4 c.Ballot c.Night e=0
      · obtain⟨q1,q2⟩:=k2.1 h0
        rw [if_pos h0]
        by_cases hv:e.Value=c.Value
        · rw [M9 (by simp;omega)]
          simp [q1,q2,hv,E3]
        · rw [M9 (by simp;omega),M9 (by simp;omega)]
          simp [q1,q2,hv,E3]
      · rw [if_neg h0]
        rw [M9 (by simp;omega),M9 (by simp;omega),M9 (by simp;omega),M9 (by simp;omega),M9 (by simp;omega)]
        rw [k1]at hhi;rw [k2]at h0
        by_cases q:e.Ballot=c.Ballot
        · have n1:(e.Night==c.Night)=false:=by rw [beq_eq_false_iff_ne];omega
          have n3:e.Night>c.Night:=by omega
          simp [q,n1,n3,←hnew]
        · have n2:e.Ballot>c.Ballot:=by omega
          simp [q,n2,←hnew]
    · obtain⟨h3,h4⟩:=hgt k y g hy
      rw [k1]at h3;rw [k2]at h4
      rw [a9H g hy]
      have hg:((a0w (K4 c.Ballot c.Night) (w6 c) (E3 c) s.Heard i e k).length+([y]:List a7).length)*32≤140737488355328∧(a0w (K4 c.Ballot c.Night) (w6 c) (E3 c) s.Heard i e k).length+([y]:List a7).length≤9223372036854775807:=by simp;omega
      simp only [hlt,decide_true,if_true,show¬k≤i by omega,show¬k+1≤i by omega,if_false,v8 hy,Option.bind_some,hw,Bool.not_true,Bool.false_eq_true]
      rw [M9 hg]
      by_cases q:y.Ballot=c.Ballot
      · have n1:(y.Night==c.Night)=false:=by rw [beq_eq_false_iff_ne];omega
        simp only [q,n1,beq_self_eq_true,if_true,Bool.false_eq_true,if_false]
      · have n1:(y.Ballot==c.Ballot)=false:=by rw [beq_eq_false_iff_ne];omega
        simp only [n1,Bool.false_eq_true,if_false]) (by
    rw [a8f hi he]
    simp [P0,show¬s.Heard.length≤i by omega])
   simp only [Nat.zero_le,if_true,a3G (Nat.zero_le i),List.take_zero,show((0:Nat):Int)=0 from rfl]at hl
   rw [hl]
   simp only [Option.bind_some,Bool.not_true,Bool.false_eq_true,if_false]
   congr 2
   simp;omega
 · obtain rfl:i=s.Heard.length:=by omega
   have hl:=a2L (body:=P0 s c) (fun k=>(([]:List a7),false,(k:Int),([]:List a7),([]:List a7),([]:List a7),([]:List a7),([]:List a7),s.Heard.take k)) s.Heard.length (by omega) (([]:List a7),false,(s.Heard.length:Int),([]:List a7),([]:List a7),([]:List a7),([]:List a7),([]:List a7),s.Heard) (fun k hk=>by
    obtain⟨y,hy⟩:=a0P hk
    have hlt:((k:Int)<(s.Heard.length:Int)):=by omega
    have hw:W ((k:Int)+1)=((k+1:Nat):Int):=W_s (by omega)
    obtain⟨k1,k2⟩:=V9 c.Ballot c.Night y
    have hlo:=k1.1 (a7C hi hk hy)
    unfold P0
    rw [a2h hy]
    simp only [hlt,decide_true,if_true,v8 hy,Option.bind_some,hw,Bool.not_false]
    have hg:((s.Heard.take k).length+([y]:List a7).length)*32≤140737488355328∧(s.Heard.take k).length+([y]:List a7).length≤9223372036854775807:=by simp;omega
    rw [M9 hg,M9 hg]
    rcases hlo with q|⟨q,q'⟩
    · have n1:(y.Ballot==c.Ballot)=false:=by rw [beq_eq_false_iff_ne];omega
      have n2:¬y.Ballot>c.Ballot:=by omega
      simp only [n1,n2,Bool.false_eq_true,if_false,decide_false]
    · have n1:(y.Night==c.Night)=false:=by rw [beq_eq_false_iff_ne];omega
      have n3:¬y.Night>c.Night:=by omega
      simp only [q,beq_self_eq_true,if_true,n1,n3,Bool.false_eq_true,if_false,decide_false,show¬c.Ballot>c.Ballot by omega]) (by simp [P0])
   simp only [List.take_zero,show((0:Nat):Int)=0 from rfl]at hl
   rw [hl]
   simp only [Option.bind_some,Bool.not_false,if_true,hbit]
   rw [M9 (by simp;omega),b2f hi,←hnew]
   congr 2
   simp;omega
theorem b7z {me:Int} {s:b7} (h:m9 me s) (c:b5):a3y s c=some (⟨s.Round,s.Slots,s.Bids,s.Heard,s.Leases,upd (N3 c.From c.No) (K7 c) id s.Loans⟩,decide ((upd (N3 c.From c.No) (K7 c) id s.Loans).length≤60)):=by
 have hn:=h.nloans
 obtain⟨i,hi⟩:=b5Z (N3 c.From c.No) s.Loans (a5z h.rloans fun a b hab hb=>by rw [(M5 _ _ _).1]at*;unfold a0Z at hab;omega) (by omega)
 have hgt:∀k y,i<k→s.Loans[k]?=some y→¬N3 c.From c.No y<0∧¬N3 c.From c.No y=0:=fun k y hk hy=>by
  have:=b2w hi h.rloans (f:=a0Z) (fun a b hab ha=>by
   refine b9A ?_ ?_
   · rw [(M5 _ _ _).1]at*;unfold a0Z at hab;omega
   · rw [(M5 _ _ _).1]at ha;rw [(M5 _ _ _).2];unfold a0Z at hab;omega) k y hk hy
  omega
 have hnew:(⟨c.From,c.No,c.Thing,c.Start,c.Until,false⟩:b6)=K7 c:=rfl
 have hle:=hi.le
 have low:∀k y (v:List b6) (b:Bool),k<i→s.Loans[k]?=some y→v.length≤100→A4 s c ([],b,(k:Int), [], [], [],v)=some (.inl ([],b,((k+1:Nat):Int), [], [], [],v++ [y])):=fun k y v b g hy hv=>by
  have hk:=(List.getElem?_eq_some_iff.1 hy).1
  have hlt:((k:Int)<(s.Loans.length:Int)):=by omega
  have hw:W ((k:Int)+1)=((k+1:Nat):Int):=W_s (by omega)
  have hlo:=(M5 c.From c.No y).1.1 (a7C hi g hy)
  have hg:(v.length+([y]:List b6).length)*48≤140737488355328∧v.length+([y]:List b6).length≤9223372036854775807:=by simp;omega
  unfold A4
  simp only [hlt,decide_true,if_true,v8 hy,Option.bind_some,hw]
  rw [M9 hg]
  rcases hlo with q|⟨q,q'⟩
  · have n1:(y.Owner==c.From)=false:=by rw [beq_eq_false_iff_ne];omega
    have n2:¬y.Owner>c.From:=by omega
    simp only [n1,n2,Bool.false_eq_true,if_false,decide_false,ite_self]
  · have n1:(y.No==c.No)=false:=by rw [beq_eq_false_iff_ne];omega
    have n3:¬y.No>c.No:=by omega
    simp only [q,beq_self_eq_true,if_true,n1,n3,Bool.false_eq_true,if_false,decide_false,show¬c.From>c.From by omega,ite_self]
 unfold a3y
 by_cases hil:i<s.Loans.length
 · obtain⟨e,he⟩:=a0P hil
   have hei:=(M5 c.From c.No e)
   by_cases h0:N3 c.From c.No e=0
   · obtain⟨q1,q2⟩:=hei.2.1 h0
     have hl:=a2L (body:=A4 s c) (fun k=>(([]:List b6),false,(k:Int),([]:List b6),([]:List b6),([]:List b6),s.Loans.take k)) i (by omega) (.inr (s,true)) (fun k hk=>by
      obtain⟨y,hy⟩:=a0P (l:=s.Loans) (i:=k) (by omega)
      rw [low k y _ false hk hy (by simp;omega),a2h hy]) (by
      have hlt:((i:Int)<(s.Loans.length:Int)):=by omega
      unfold A4
      simp [hlt,v8 he,q1,q2])
     simp only [List.take_zero,show((0:Nat):Int)=0 from rfl]at hl
     rw [hl]
     have hu:=(a3j hi he h0 (K7 c) id)
     rw [←hu.1]
     simp only [id,Q1 he,Option.bind_some]
     congr 2
     simp;omega
   · have hl:=a2L (body:=A4 s c) (fun k=>(([]:List b6),(if k≤i then false else true),(k:Int),([]:List b6),([]:List b6),([]:List b6),a0w (N3 c.From c.No) (K7 c) id s.Loans i e k)) s.Loans.length (by omega) (.inl (([]:List b6),true,(s.Loans.length:Int),([]:List b6),([]:List b6),([]:List b6),upd (N3 c.From c.No) (K7 c) id s.Loans)) (fun k hk=>by
      obtain⟨y,hy⟩:=a0P hk
      have hlt:((k:Int)<(s.Loans.length:Int)):=by omega
      have hw:W ((k:Int)+1)=((k+1:Nat):Int):=W_s (by omega)
      have hol:=a8r (c:=N3 c.From c.No) (new:=K7 c) (f:=id) (k:=k) he (by omega)
      obtain⟨k1,k2⟩:=M5 c.From c.No y
      rcases Nat.lt_trichotomy k i with g|g|g
      · rw [a9B g hy]
        simp only [show k≤i by omega,show k+1≤i by omega,if_true]
        exact low k y _ false g hy (by omega)
      · subst g
        rw [he]at hy
        obtain rfl:=Option.some.inj hy
        have hhi:=b6H hi (Nat.le_refl _) he
        rw [b0x he,a3G (Nat.le_refl _),if_neg h0]
        have hlen:(s.Loans.take k).length=k:=by simp;omega
        have nk:¬k+1≤k:=by omega
        unfold A4
        simp only [hlt,decide_true,if_true,Nat.le_refl,nk,if_false,v8 he,Option.bind_some,hw,Bool.not_false,hnew]
        rw [M9 (by simp;omega),M9 (by simp;omega),M9 (by simp;omega)]
        rw [k1]at hhi;rw [k2]at h0
        by_cases q:e.Owner=c.From
        · have n1:(e.No==c.No)=false:=by rw [beq_eq_false_iff_ne];omega
          have n3:e.No>c.No:=by omega
          simp [q,n1,n3]
        · have n2:e.Owner>c.From:=by omega
          simp [q,n2]
      · obtain⟨h3,h4⟩:=hgt k y g hy
        rw [k1]at h3;rw [k2]at h4
        rw [a9H g hy]
        have hg:((a0w (N3 c.From c.No) (K7 c) id s.Loans i e k).length+([y]:List b6).length)*48≤140737488355328∧(a0w (N3 c.From c.No) (K7 c) id s.Loans i e k).length+([y]:List b6).length≤9223372036854775807:=by simp;omega
        unfold A4
        simp only [hlt,decide_true,if_true,show¬k≤i by omega,show¬k+1≤i by omega,if_false,v8 hy,Option.bind_some,hw,Bool.not_true,Bool.false_eq_true]
        rw [M9 hg]
        by_cases q:y.Owner=c.From
        · have n1:(y.No==c.No)=false:=by rw [beq_eq_false_iff_ne];omega
          simp only [q,n1,beq_self_eq_true,if_true,Bool.false_eq_true,if_false]
        · have n1:(y.Owner==c.From)=false:=by rw [beq_eq_false_iff_ne];omega
          simp only [n1,Bool.false_eq_true,if_false]) (by
      rw [a8f hi he]
      simp [A4,show¬s.Loans.length≤i by omega])
     simp only [Nat.zero_le,if_true,a3G (Nat.zero_le i),List.take_zero,show((0:Nat):Int)=0 from rfl]at hl
     rw [hl]
     simp only [Option.bind_some,Bool.not_true,Bool.false_eq_true,if_false]
     congr 2
     simp;omega
 · obtain rfl:i=s.Loans.length:=by omega
   have hl:=a2L (body:=A4 s c) (fun k=>(([]:List b6),false,(k:Int),([]:List b6),([]:List b6),([]:List b6),s.Loans.take k)) s.Loans.length (by omega) (.inl (([]:List b6),false,(s.Loans.length:Int),([]:List b6),([]:List b6),([]:List b6),s.Loans)) (fun k hk=>by
    obtain⟨y,hy⟩:=a0P hk
    rw [low k y _ false hk hy (by simp;omega),a2h hy]) (by simp [A4])
   simp only [List.take_zero,show((0:Nat):Int)=0 from rfl]at hl
   rw [hl]
   simp only [Option.bind_some,Bool.not_false,if_true]
   rw [M9 (by simp;omega),b2f hi]
   simp only [hnew,id]
   congr 2
   simp;omega
noncomputable def a8G (s:b7) (c:b5):Option b7:=
 if c.Kind=1 then(if(upd (H6 c.Night) (o7 c) (S8 c) s.Slots).length≤12 then some ⟨s.Round,upd (H6 c.Night) (o7 c) (S8 c) s.Slots,s.Bids,s.Heard,s.Leases,s.Loans⟩else none)
 else if c.Kind=2 then some ⟨s.Round,s.Slots,s.Bids.map (a0Q c),s.Heard,s.Leases,s.Loans⟩
 else if c.Kind=3 then(if(upd (H6 c.Night) (o7 c) (a1S c) s.Slots).length≤12 then some ⟨s.Round,upd (H6 c.Night) (o7 c) (a1S c) s.Slots,s.Bids,s.Heard,s.Leases,s.Loans⟩else none)
 else if c.Kind=4 then(if(upd (K4 c.Ballot c.Night) (w6 c) (E3 c) s.Heard).length≤60 then some ⟨s.Round,s.Slots,s.Bids,upd (K4 c.Ballot c.Night) (w6 c) (E3 c) s.Heard,s.Leases,s.Loans⟩else none)
 else if c.Kind=5 then(if(upd (N3 c.From c.No) (K7 c) id s.Loans).length≤60 then some ⟨s.Round,s.Slots,s.Bids,s.Heard,s.Leases,upd (N3 c.From c.No) (K7 c) id s.Loans⟩else none)
 else some ⟨s.Round,s.Slots,s.Bids,s.Heard,s.Leases.map (U9 c),s.Loans⟩
noncomputable def a0K (x:a6) (c:b5):a6×Int:=
 if j1 x then(if a2B c∧c.To=x.Me then(match a8G x.Now c with|some s=>(⟨x.Me,s,x.Safe⟩,0)|none=>(Z0,2))else(Z0,91))else(Z0,90)
theorem b0e (x:a6):R4 x=some (if j1 x then .inr (x.Now.Slots,x.Now.Bids,x.Now.Heard,x.Now.Leases,x.Now.Loans,x.Safe.Slots,x.Safe.Bids,x.Safe.Heard,x.Safe.Leases,x.Safe.Loans,x.Me,x.Now.Round,x.Safe.Round)else .inl 90):=by
 have e:=b5V x
 unfold Err at e
 unfold R4
 rw [e]
 by_cases h:j1 x
 · rw [if_pos h,if_pos h,a4p h.1,a4p h.2];rfl
 · rw [if_neg h,if_neg h];rfl
theorem a2B.kinds {c:b5} (h:a2B c):c.Kind=1∨c.Kind=2∨c.Kind=3∨c.Kind=4∨c.Kind=5∨c.Kind=6:=by
 rcases h.kind with h|h|h|h|h|h<;>simp [h.1]
theorem c0c (x:a6) (c:b5):N9 x c=some (a0K x c):=by
 unfold N9 a0K
 rw [b0e]
 by_cases h:j1 x
 · rw [if_pos h,if_pos h]
   simp only [Option.bind_some,(isCall_a c).eq]
   by_cases hc:a2B c
   · by_cases hto:c.To=x.Me
     · have e1:=b8z h.1 c
       have e2:=b8J h.1 hc.from_
       have e3:=c1L h.1 c
       have e4:=b8e h.1 hc.from_
       have e5:=c2t h.1 c
       have e6:=c5b h.1 c
       unfold fits at e1 e3 e4 e5
       simp only [hc,hto,and_self,if_true,decide_true,Bool.not_true,Bool.false_eq_true,if_false,bne_self_eq_false]
       rcases hc.kinds with k|k|k|k|k|k
       all_goals simp only [k,Int.reduceBEq,Bool.false_eq_true,if_false,if_true,e1,e2,e3,e4,e5,e6,Option.bind_some,a8G,Int.reduceEq]
       · split<;>rfl
       · split<;>rfl
       · split<;>rfl
       · split<;>rfl
     · simp [hc,hto,Z0,S0]
   · simp [hc,Z0,S0]
 · rw [if_neg h,if_neg h];rfl
theorem a5x {x:a6} (h:j1 x):R0 x=some x:=by
 unfold R0
 rw [a6N h.1,a6N h.2];rfl
theorem c3w (x:a6) (c:b5):a6p x c=some (a0K x c):=by
 have e:=a4z x
 have ec:=rCheckCall_e c
 unfold Err at e ec
 unfold a6p a0K
 rw [e,ec]
 by_cases h:j1 x
 · rw [if_pos h,if_pos h]
   by_cases hc:a2B c
   · by_cases hto:c.To=x.Me
     · have e2:=b7G h.1 hc.from_
       have e4:=c1A h.1 hc.from_
       have e5:=b7z h.1 c
       have e6:=c3R h.1 c
       obtain⟨i,L,s,hm,hs,hsn,hu⟩:=b8t h.1 c
       have hlen:∀f,L.length=(upd (H6 c.Night) (o7 c) f x.Now.Slots).length:=fun f=>by rw [←hu f];simp
       simp only [hc,hto,and_self,if_true,Option.bind_some,bne_self_eq_false,Bool.false_eq_true,if_false,a5x h]
       unfold a8K
       rcases hc.kinds with k|k|k|k|k|k
       all_goals simp only [k,Int.reduceBEq,Bool.false_eq_true,if_false,if_true,e2,e4,e5,e6,hm,Option.bind_some,a8G,Int.reduceEq,v8 hs,Int.toNat_natCast]
       · have e1:L.set i ⟨s.Night,(if c.Ballot>s.Promised then c.Ballot else s.Promised),s.Ballot,s.Value⟩=upd (H6 c.Night) (o7 c) (S8 c) x.Now.Slots:=by
          rw [←hu (S8 c)]
          unfold S8
          split<;>rfl
         rw [e1,hlen (S8 c)]
         by_cases hf:(upd (H6 c.Night) (o7 c) (S8 c) x.Now.Slots).length≤12
         · have:((upd (H6 c.Night) (o7 c) (S8 c) x.Now.Slots).length:Int)≤12:=by omega
           simp only [hf,this,decide_true,Bool.not_true,Bool.false_eq_true,if_false,if_true]
         · have:¬((upd (H6 c.Night) (o7 c) (S8 c) x.Now.Slots).length:Int)≤12:=by omega
           simp only [hf,this,decide_false,Bool.not_false,if_true,if_false];rfl
       · by_cases hb:c.Ballot≥s.Promised
         · have e1:L.set i ⟨c.Night,c.Ballot,c.Ballot,c.Value⟩=upd (H6 c.Night) (o7 c) (a1S c) x.Now.Slots:=by
            rw [←hu (a1S c)]
            unfold a1S
            rw [if_pos hb,hsn]
           simp only [hb,decide_true,if_true]
           rw [e1,hlen (a1S c)]
           by_cases hf:(upd (H6 c.Night) (o7 c) (a1S c) x.Now.Slots).length≤12
           · have:((upd (H6 c.Night) (o7 c) (a1S c) x.Now.Slots).length:Int)≤12:=by omega
             simp only [hf,this,decide_true,Option.bind_some,Bool.not_true,Bool.false_eq_true,if_false,if_true]
           · have:¬((upd (H6 c.Night) (o7 c) (a1S c) x.Now.Slots).length:Int)≤12:=by omega
             simp only [hf,this,decide_false,Option.bind_some,Bool.not_false,if_true,if_false];rfl
         · have e1:L=upd (H6 c.Night) (o7 c) (a1S c) x.Now.Slots:=by
            rw [←hu (a1S c)]
            unfold a1S
            rw [if_neg hb,Q1 hs]
           simp only [hb,decide_false,Bool.false_eq_true,if_false]
           rw [←e1]
           by_cases hf:L.length≤12
           · have:(L.length:Int)≤12:=by omega
             simp only [hf,this,decide_true,Option.bind_some,Bool.not_true,Bool.false_eq_true,if_false,if_true]
           · have:¬(L.length:Int)≤12:=by omega
             simp only [hf,this,decide_false,Option.bind_some,Bool.not_false,if_true,if_false];rfl
       · by_cases hf:(upd (K4 c.Ballot c.Night) (w6 c) (E3 c) x.Now.Heard).length≤60
         · simp only [hf,decide_true,Bool.not_true,Bool.false_eq_true,if_false,if_true]
         · simp only [hf,decide_false,Bool.not_false,if_true,if_false];rfl
       · by_cases hf:(upd (N3 c.From c.No) (K7 c) id x.Now.Loans).length≤60
         · simp only [hf,decide_true,Bool.not_true,Bool.false_eq_true,if_false,if_true]
         · simp only [hf,decide_false,Bool.not_false,if_true,if_false];rfl
     · simp [hc,hto,Z0,S0]
   · simp [hc,Z0,S0]
 · rw [if_neg h,if_neg h];rfl
def S4 (me r night value:Int):c0:=⟨night,6*(r+1)+me,value,0,0,false⟩
noncomputable def a2t (s:b7) (me night value:Int):List c0:=upd (a7h night) (S4 me s.Round night value) (fun _=>S4 me s.Round night value) s.Bids
noncomputable def a3D (x:a6) (night value:Int):a6×Int:=
 if j1 x then(if 0≤night∧night≤100000 then(if 1≤value∧value≤1000000 then(if x.Now.Round=9999∨¬(a2t x.Now x.Me night value).length≤12 then(Z0,2)else
  (⟨x.Me,⟨x.Now.Round+1,x.Now.Slots,a2t x.Now x.Me night value,x.Now.Heard,x.Now.Leases,x.Now.Loans⟩,x.Safe⟩,0))else(Z0,1))else(Z0,6))else(Z0,90)
theorem c2n {me:Int} {s:b7} (h:m9 me s) (hr:s.Round≠9999) (night value:Int):c2P (Y9 night value s.Bids me s.Round) (a7h night) (S4 me s.Round night value) s.Bids 12:=by
 have hd:=h.dep;have hro:=h.round
 have w:W (W (6*W (s.Round+1))+me)=6*(s.Round+1)+me:=by rw [a0D (z:=s.Round+1) (by omega),a0D (z:=6*(s.Round+1)) (by omega),a0D (by omega)]
 obtain⟨i,hi,e⟩:=c0I h (S4 me s.Round night value)
 have hn:s.Bids.length≤12:=by have:=h.nbids;omega
 unfold Y9
 rw [w]
 exact b2n (ins:=fun i=>N0 s.Bids i [S4 me s.Round night value]) hi hn e (b2c s.Bids i (S4 me s.Round night value) 48 (by omega) (by omega) hi.le)
theorem b9e (x:a6) (night value:Int):Y4 x night value=some (a3D x night value):=by
 unfold Y4 a3D
 rw [b0e]
 by_cases h:j1 x
 · rw [if_pos h,if_pos h]
   simp only [Option.bind_some,(a5O night).eq,(a5P value).eq]
   by_cases h1:0≤night∧night≤100000
   · by_cases h2:1≤value∧value≤1000000
     · by_cases h3:x.Now.Round=9999
       · simp [h1,h2,h3,Z0,S0]
       · have hd:=h.1.dep;have hro:=h.1.round
         have w:W (W (6*(x.Now.Round+1))+x.Me)=6*(x.Now.Round+1)+x.Me:=by rw [a0D (z:=6*(x.Now.Round+1)) (by omega),a0D (by omega)]
         have w1:W (x.Now.Round+1)=x.Now.Round+1:=a0D (by omega)
         have n3:(x.Now.Round==9999)=false:=by rw [beq_eq_false_iff_ne];exact h3
         simp only [h1,h2,and_self,decide_true,Bool.not_true,Bool.false_eq_true,if_false,if_true,n3,h3,false_or,w,w1]
         rcases c2n h.1 h3 night value with⟨i,L,e,hm,he,hs,hl⟩|⟨hm,hl⟩
         · have hs':=hs (fun _=>S4 x.Me x.Now.Round night value)
           simp only [hm,Option.bind_some,v8 he,Int.toNat_natCast]
           have hl':(a2t x.Now x.Me night value).length≤12:=hl _
           rw [if_neg (fun hn=>hn hl')]
           unfold a2t
           rw [←hs']
           rfl
         · have hl':¬(a2t x.Now x.Me night value).length≤12:=hl _
           simp only [hm,Option.bind_some]
           rw [if_pos hl'];rfl
     · simp [h1,h2,Z0,S0]
   · simp [h1,Z0,S0]
 · rw [if_neg h,if_neg h];rfl
theorem b6L (x:a6) (night value:Int):a3z x night value=some (a3D x night value):=by
 have e0:=a4z x
 unfold Err at e0
 unfold a3z a3D
 rw [e0,(a3i night).eq,(a4J value).eq]
 by_cases h:j1 x
 · rw [if_pos h,if_pos h]
   by_cases h1:0≤night∧night≤100000
   · by_cases h2:1≤value∧value≤1000000
     · have hd:=h.1.dep;have hro:=h.1.round
       have hn:=h.1.nbids
       have w:W (W (6*(x.Now.Round+1))+x.Me)=6*(x.Now.Round+1)+x.Me:=by rw [a0D (z:=6*(x.Now.Round+1)) (by omega),a0D (by omega)]
       have w1:W (x.Now.Round+1)=x.Now.Round+1:=a0D (by omega)
       simp only [h1,h2,and_self,decide_true,Bool.not_true,Bool.false_eq_true,if_false,if_true,Option.bind_some,bne_self_eq_false,a5x h,w1]
       obtain⟨i,hi⟩:=b5Z (a7h night) x.Now.Bids (a5z h.1.rbids fun a b hab hb=>by unfold a7h at*;rw [X8]at*;unfold a6W at hab;omega) (by omega)
       have hgt:=b2w hi h.1.rbids (fun a b hab ha=>by
        unfold a7h at*;unfold a6W at hab;rw [X8]at ha
        unfold a8Y;rw [if_neg (by omega),if_pos (by omega)];omega)
       have kK:∀y:c0,(a7h night y<0↔y.Night<night)∧(a7h night y=0↔y.Night=night)∧(0<a7h night y↔night<y.Night):=fun y=>by
        unfold a7h
        refine⟨X8,a1D, ?_⟩
        have h1:= @X8 y.Night night
        have h2:= @a1D y.Night night
        omega
       have hb:(⟨night,6*(x.Now.Round+1)+x.Me,value,0,0,false⟩:c0)=S4 x.Me x.Now.Round night value:=rfl
       have hle:=hi.le
       have key:∃done out,j4 (J4 x night value x) (false,0, [], [], [])=some (done,(x.Now.Bids.length:Int), [], [],out)∧out.length≤13∧(if done=true then out else out++ [S4 x.Me x.Now.Round night value])=a2t x.Now x.Me night value:=by
        by_cases hil:i<x.Now.Bids.length
        · obtain⟨e,he⟩:=a0P hil
          have hl:=a2L (body:=J4 x night value x) (fun k=>((if k≤i then false else true),(k:Int),([]:List c0),([]:List c0),a0w (a7h night) (S4 x.Me x.Now.Round night value) (fun _=>S4 x.Me x.Now.Round night value) x.Now.Bids i e k)) x.Now.Bids.length (by omega) (true,(x.Now.Bids.length:Int),([]:List c0),([]:List c0),a2t x.Now x.Me night value) (fun k hk=>by
           obtain⟨y,hy⟩:=a0P hk
           have hlt:((k:Int)<(x.Now.Bids.length:Int)):=by omega
           have hw:W ((k:Int)+1)=((k+1:Nat):Int):=W_s (by omega)
           have hol:=a8r (c:=a7h night) (new:=S4 x.Me x.Now.Round night value) (f:=fun _=>S4 x.Me x.Now.Round night value) (k:=k) he (by omega)
           obtain⟨k1,k2,k3⟩:=kK y
           unfold J4
           rcases Nat.lt_trichotomy k i with g|g|g
           · have hlo:=k1.1 (a7C hi g hy)
             rw [a9B g hy]
             have n1:¬y.Night≥night:=by omega
             have n2:(y.Night !=night)=true:=by rw [bne_iff_ne];omega
             simp only [hlt,decide_true,if_true,show k≤i by omega,show k+1≤i by omega,v8 hy,Option.bind_some,n1,decide_false,Bool.false_eq_true,if_false,n2,hw,Bool.not_false]
             rw [M9 (by simp;omega)]
           · subst g
             rw [he]at hy
             obtain rfl:=Option.some.inj hy
             have hhi:=b6H hi (Nat.le_refl _) he
             rw [k1]at hhi
             rw [b0x he,a3G (Nat.le_refl _)]
             have hlen:(x.Now.Bids.take k).length=k:=by simp;omega
             have nk:¬k+1≤k:=by omega
             have n1:e.Night≥night:=by omega
             simp only [hlt,decide_true,if_true,Nat.le_refl,nk,if_false,v8 he,Option.bind_some,n1,Bool.not_false,hw,w1,w,hb]
             rw [M9 (by simp;omega),M9 (by simp;omega)]
             by_cases h0:e.Night=night
             · have n2:(e.Night !=night)=false:=by rw [bne_eq_false_iff_eq];exact h0
               simp only [n2,Bool.false_eq_true,if_false,k2.2 h0,if_true]
             · have n2:(e.Night !=night)=true:=by rw [bne_iff_ne];exact h0
               have n3:¬a7h night e=0:=fun h=>h0 (k2.1 h)
               simp only [n2,if_true,n3,if_false]
               simp
           · have h3:=k3.1 (hgt k y g hy)
             rw [a9H g hy]
             have n2:(y.Night !=night)=true:=by rw [bne_iff_ne];omega
             simp only [hlt,decide_true,if_true,show¬k≤i by omega,show¬k+1≤i by omega,if_false,v8 hy,Option.bind_some,n2,hw,Bool.not_true,Bool.false_eq_true]
             rw [M9 (by simp;omega)]) (by
           rw [a8f hi he]
           simp [J4,show¬x.Now.Bids.length≤i by omega,a2t])
          simp only [Nat.zero_le,if_true,a3G (Nat.zero_le i),List.take_zero,show((0:Nat):Int)=0 from rfl]at hl
          refine⟨true,_,hl, ?_,if_pos rfl⟩
          have:=c4B (new:=S4 x.Me x.Now.Round night value) (f:=fun _=>S4 x.Me x.Now.Round night value) hi
          unfold a2t;omega
        · obtain rfl:i=x.Now.Bids.length:=by omega
          have hl:=a2L (body:=J4 x night value x) (fun k=>(false,(k:Int),([]:List c0),([]:List c0),x.Now.Bids.take k)) x.Now.Bids.length (by omega) (false,(x.Now.Bids.length:Int),([]:List c0),([]:List c0),x.Now.Bids) (fun k hk=>by
           obtain⟨y,hy⟩:=a0P hk
           have hlt:((k:Int)<(x.Now.Bids.length:Int)):=by omega
           have hw:W ((k:Int)+1)=((k+1:Nat):Int):=W_s (by omega)
           obtain⟨k1,k2,k3⟩:=kK y
           have hlo:=k1.1 (a7C hi hk hy)
           have n1:¬y.Night≥night:=by omega
           have n2:(y.Night !=night)=true:=by rw [bne_iff_ne];omega
           unfold J4
           rw [a2h hy]
           simp only [hlt,decide_true,if_true,v8 hy,Option.bind_some,n1,decide_false,Bool.false_eq_true,if_false,n2,hw,Bool.not_false]
           rw [M9 (by simp;omega)]) (by simp [J4])
          simp only [List.take_zero,show((0:Nat):Int)=0 from rfl]at hl
          refine⟨false,_,hl,by omega, ?_⟩
          unfold a2t
          rw [b2f hi]
          rfl
       obtain⟨done,out,hl,hlen,ho⟩:=key
       rw [hl]
       simp only [Option.bind_some,w,hb]
       by_cases hr:x.Now.Round=9999
       · have hr':x.Now.Round+1>9999:=by omega
         rw [M9 (by simp;omega)]
         simp only [hr',decide_true,if_true,hr,true_or]
         cases done<;>rfl
       · have hr':¬x.Now.Round+1>9999:=by omega
         rw [M9 (by simp;omega)]
         simp only [hr',decide_false,Bool.false_eq_true,if_false,hr,false_or]
         cases done
         · simp only [Bool.false_eq_true,if_false]at ho
           rw [ho]
           simp only [Bool.not_false,if_true]
           by_cases hf:(a2t x.Now x.Me night value).length≤12
           · have:¬((a2t x.Now x.Me night value).length:Int)>12:=by omega
             simp only [hf,this,decide_false,Bool.false_eq_true,if_false,not_true_eq_false]
           · have:((a2t x.Now x.Me night value).length:Int)>12:=by omega
             simp only [hf,this,decide_true,if_true,not_false_eq_true];rfl
         · simp only [if_true]at ho
           rw [ho]
           simp only [Bool.not_true,Bool.false_eq_true,if_false]
           by_cases hf:(a2t x.Now x.Me night value).length≤12
           · have:¬((a2t x.Now x.Me night value).length:Int)>12:=by omega
             simp only [hf,this,decide_false,Bool.false_eq_true,if_false,not_true_eq_false]
           · have:((a2t x.Now x.Me night value).length:Int)>12:=by omega
             simp only [hf,this,decide_true,if_true,not_false_eq_true];rfl
     · simp [h1,h2,Z0,S0]
   · simp [h1,Z0,S0]
 · rw [if_neg h,if_neg h];rfl
def b1z (l:List b8) (y:b8):Prop:=∃o,o∈l∧o.Thing=y.Thing∧a1A o y
noncomputable def b1i (x:a6) (thing to_ from_ until_:Int):a6×Int:=
 if j1 x then(if 1≤thing∧thing≤99 then(if 0≤to_∧to_≤5 then(if 0≤from_∧from_≤144001439 then(if 0≤until_∧until_≤144001439 then
  (if thing % 6=x.Me then(if to_=x.Me then(Z0,1)else if from_>until_ then(Z0,95)else
   if b1z x.Now.Leases ⟨(x.Now.Leases.length:Int)+1,thing,to_,from_,until_⟩then(Z0,93)else if x.Now.Leases.length=40 then(Z0,2)else
   (⟨x.Me,⟨x.Now.Round,x.Now.Slots,x.Now.Bids,x.Now.Heard,x.Now.Leases++ [⟨(x.Now.Leases.length:Int)+1,thing,to_,from_,until_⟩],x.Now.Loans⟩,x.Safe⟩,0))else(Z0,92))else(Z0,95))else(Z0,95))else(Z0,1))else(Z0,1))else(Z0,90)
theorem c5m (p:a6) (h:j1 p) (y:b8):Ans (a0m ⟨p⟩ y) (b1z p.Now.Leases y):=by
 have:=h.1.nleases
 exact(a1b p.Now.Leases (by omega) (fun o=>a0R o y) (fun o=>o.Thing=y.Thing∧a1A o y) fun o _=>Ans.ite (by simp) fun _=>(c2W _ _).id).id
theorem c5c (x:a6) (thing to_ from_ until_:Int):L9 x thing to_ from_ until_=some (b1i x thing to_ from_ until_):=by
 unfold L9 b1i
 rw [b0e]
 by_cases h:j1 x
 · rw [if_pos h,if_pos h]
   have hn:=h.1.nleases
   have hw:W ((x.Now.Leases.length:Int)+1)=(x.Now.Leases.length:Int)+1:=a0D (by omega)
   have hp:(⟨⟨x.Me,⟨x.Now.Round,x.Now.Slots,x.Now.Bids,x.Now.Heard,x.Now.Leases,x.Now.Loans⟩,⟨x.Safe.Round,x.Safe.Slots,x.Safe.Bids,x.Safe.Heard,x.Safe.Leases,x.Safe.Loans⟩⟩⟩:K6)=⟨x⟩:=rfl
   have hd:d8 thing=some (thing.tmod 6):=rfl
   simp only [Option.bind_some,(a8h thing).eq,(a3r to_).eq,(a3g from_).eq,(a3g until_).eq,hw,hp,(c5m x h _).eq,hd]
   by_cases h1:1≤thing∧thing≤99
   · have ht:thing.tmod 6=thing % 6:=a7N (by omega)
     by_cases h2:0≤to_∧to_≤5
     · by_cases h3:0≤from_∧from_≤144001439
       · by_cases h4:0≤until_∧until_≤144001439
         · simp only [h1,h2,h3,h4,and_self,decide_true,Bool.not_true,Bool.false_eq_true,if_false,if_true,ht]
           by_cases h5:thing % 6=x.Me
           · by_cases h6:to_=x.Me
             · simp [h5,h6,Z0,S0]
             · by_cases h7:from_>until_
               · simp [h5,h6,h7,Z0,S0]
               · by_cases h8:b1z x.Now.Leases ⟨(x.Now.Leases.length:Int)+1,thing,to_,from_,until_⟩
                 · simp [h5,h6,h7,h8,Z0,S0]
                 · rw [M9 (by simp;omega)]
                   simp only [h5,h6,h7,h8,bne_self_eq_false,Bool.false_eq_true,if_false,if_true,decide_false,beq_eq_false_iff_ne.2 h6]
                   by_cases h9:x.Now.Leases.length=40
                   · rw [if_pos h9,if_pos (by rw [h9];rfl)];rfl
                   · rw [if_neg h9,if_neg (by rw [beq_iff_eq];omega)]
           · simp [h5,Z0,S0]
         · simp [h1,h2,h3,h4,Z0,S0]
       · simp [h1,h2,h3,Z0,S0]
     · simp [h1,h2,Z0,S0]
   · simp [h1,Z0,S0]
 · rw [if_neg h,if_neg h];rfl
theorem c3r (x:a6) (d:a2Z):a6I x d=some (b1i x d.Thing d.To d.From d.Until):=by
 have e0:=a4z x
 unfold Err at e0
 unfold a6I b1i
 rw [e0]
 by_cases h:j1 x
 · rw [if_pos h,if_pos h]
   have hn:=h.1.nleases
   have hw:W ((x.Now.Leases.length:Int)+1)=(x.Now.Leases.length:Int)+1:=a0D (by omega)
   simp only [Option.bind_some,(a6H d.Thing).eq,(a0S d.To).eq,(U5 d.From).eq,(U5 d.Until).eq,a5x h,hw,bne_self_eq_false,Bool.false_eq_true,if_false]
   have hl:(b1z x.Now.Leases ⟨(x.Now.Leases.length:Int)+1,d.Thing,d.To,d.From,d.Until⟩∧j4 (X3 x d) 0=some (.inr (Z0,93)))∨(¬b1z x.Now.Leases ⟨(x.Now.Leases.length:Int)+1,d.Thing,d.To,d.From,d.Until⟩∧∃j,j4 (X3 x d) 0=some (.inl j)):=by
    have hs:=a2l (body:=X3 x d) x.Now.Leases.length (by omega) (fun i=>match x.Now.Leases[i]? with|some o=>if o.Thing=d.Thing∧a1A o ⟨(x.Now.Leases.length:Int)+1,d.Thing,d.To,d.From,d.Until⟩then some (Z0,(93:Int))else none|none=>none) 0 (Nat.zero_le _) (fun i _ h2=>by
     have hlt:((i:Int)<(x.Now.Leases.length:Int)):=by omega
     unfold X3
     simp only [hlt,decide_true,if_true,v8 (List.getElem?_eq_getElem h2),Option.bind_some,hw,(b9Z _ _).eq,List.getElem?_eq_getElem h2]
     by_cases hp:x.Now.Leases[i].Thing=d.Thing∧a1A x.Now.Leases[i] ⟨(x.Now.Leases.length:Int)+1,d.Thing,d.To,d.From,d.Until⟩
     · simp only [hp,and_self,decide_true,if_true];rfl
     · simp only [hp,decide_false,Bool.false_eq_true,if_false]
       rw [W_s (by omega)]) (by simp [X3])
    rw [show((0:Nat):Int)=0 from rfl]at hs
    rw [hs]
    by_cases hany:b1z x.Now.Leases ⟨(x.Now.Leases.length:Int)+1,d.Thing,d.To,d.From,d.Until⟩
    · refine .inl ⟨hany, ?_⟩
      obtain⟨o,ho,hp⟩:=hany
      obtain⟨i,hi,rfl⟩:=List.getElem_of_mem ho
      obtain⟨j,r,a,b,c,e⟩:=a4r (q:=fun i=>match x.Now.Leases[i]? with|some o=>if o.Thing=d.Thing∧a1A o ⟨(x.Now.Leases.length:Int)+1,d.Thing,d.To,d.From,d.Until⟩then some (Z0,(93:Int))else none|none=>none) (x.Now.Leases.length-0) 0 i (Nat.zero_le _) (by omega) (by simp only [List.getElem?_eq_getElem hi];rw [if_pos hp];simp)
      have hr:r=(Z0,93):=by
       split at c
       · split at c
         · simpa using c.symm
         · cases c
       · cases c
      rw [e,hr]
    · refine .inr ⟨hany,((0+(x.Now.Leases.length-0):Nat):Int), ?_⟩
      rw [a3n _ _ (fun i _ h2=>by
       have hi:i<x.Now.Leases.length:=by omega
       simp only [List.getElem?_eq_getElem hi]
       rw [if_neg (fun hp=>hany ⟨_,List.getElem_mem hi,hp⟩)])]
   by_cases h1:1≤d.Thing∧d.Thing≤99
   · have ht:d.Thing.tmod 6=d.Thing % 6:=a7N (by omega)
     by_cases h2:0≤d.To∧d.To≤5
     · by_cases h3:0≤d.From∧d.From≤144001439
       · by_cases h4:0≤d.Until∧d.Until≤144001439
         · simp only [h1,h2,h3,h4,and_self,decide_true,Bool.not_true,Bool.false_eq_true,if_false,if_true,ht]
           by_cases h5:d.Thing % 6=x.Me
           · by_cases h6:d.To=x.Me
             · simp [h5,h6,Z0,S0]
             · by_cases h7:d.From>d.Until
               · simp [h5,h6,h7,Z0,S0]
               · rw [M9 (by simp;omega)]
                 simp only [h5,h6,h7,bne_self_eq_false,Bool.false_eq_true,if_false,if_true,decide_false,beq_eq_false_iff_ne.2 h6]
                 rcases hl with⟨h8,hl⟩|⟨h8,j,hl⟩
                 · rw [hl,if_pos h8];rfl
                 · rw [hl,if_neg h8]
                   simp only [Option.bind_some]
                   by_cases h9:x.Now.Leases.length=40
                   · rw [if_pos h9,if_pos (by rw [h9];rfl)];rfl
                   · rw [if_neg h9,if_neg (by rw [beq_iff_eq];omega)]
           · simp [h5,Z0,S0]
         · simp [h1,h2,h3,h4,Z0,S0]
       · simp [h1,h2,h3,Z0,S0]
     · simp [h1,h2,Z0,S0]
   · simp [h1,Z0,S0]
 · rw [if_neg h,if_neg h];rfl
def a5e (o n m:Int) (y:b6):b6:=if y.Owner=o∧y.No=n∧y.Back=false then⟨y.Owner,y.No,y.Thing,y.From,min y.Until (max m y.From),true⟩else y
noncomputable def a5m (x:a6) (o n m:Int):a6×Int:=
 if j1 x then(if 0≤o∧o≤5 then(if 0≤m∧m≤144001439 then(if∃y,y∈x.Now.Loans∧y.Owner=o∧y.No=n∧y.Back=false then
  (⟨x.Me,⟨x.Now.Round,x.Now.Slots,x.Now.Bids,x.Now.Heard,x.Now.Leases,x.Now.Loans.map (a5e o n m)⟩,x.Safe⟩,0)else(Z0,94))else(Z0,95))else(Z0,1))else(Z0,90)
theorem a7V {me:Int} {s:b7} (h:m9 me s) {o n:Int} {i:Nat} (hi:Cut (N3 o n) s.Loans i):∀(k:Nat) (y:b6),s.Loans[k]?=some y→y.Owner=o→y.No=n→k=i:=by
 intro k y hy ho hno
 have h0:N3 o n y=0:=(M5 o n y).2.2 ⟨ho,hno⟩
 rcases Nat.lt_trichotomy k i with g|g|g
 · have:=a7C hi g hy;omega
 · exact g
 · have:=b2w hi h.rloans (f:=a0Z) (fun a b hab ha=>by
    refine b9A ?_ ?_
    · rw [(M5 _ _ _).1]at*;unfold a0Z at hab;omega
    · rw [(M5 _ _ _).1]at ha;rw [(M5 _ _ _).2];unfold a0Z at hab;omega) k y g hy
   omega
theorem c0M (x:a6) (o n m:Int):a1E x o n m=some (a5m x o n m):=by
 unfold a1E a5m
 rw [b0e]
 by_cases h:j1 x
 · rw [if_pos h,if_pos h]
   simp only [Option.bind_some,(a3r o).eq,(a3g m).eq]
   by_cases h1:0≤o∧o≤5
   · by_cases h2:0≤m∧m≤144001439
     · obtain⟨i,hi,e⟩:=a9g h.1 (⟨o,n,0,0,0,false⟩:b6)
       simp only [h1,h2,and_self,decide_true,Bool.not_true,Bool.false_eq_true,if_false,if_true,e,Option.bind_some]
       have hi:Cut (N3 o n) x.Now.Loans i:=hi
       by_cases hx:∃y,x.Now.Loans[i]?=some y∧N3 o n y=0
       · obtain⟨y,hy,h0⟩:=hx
         have hex:decide (∃y,x.Now.Loans[i]?=some y∧N3 o n y=0)=true:=decide_eq_true ⟨y,hy,h0⟩
         obtain⟨q1,q2⟩:=(M5 o n y).2.1 h0
         rw [show(!decide (∃y,x.Now.Loans[i]?=some y∧N3 o n y=0))=false by rw [hex];rfl]
         simp only [Bool.false_eq_true,if_false,v8 hy,Option.bind_some]
         by_cases hb:y.Back=true
         · have hno:¬∃y,y∈x.Now.Loans∧y.Owner=o∧y.No=n∧y.Back=false:=by
            rintro⟨z,hz,z1,z2,z3⟩
            obtain⟨k,hk,rfl⟩:=List.getElem_of_mem hz
            have hki:=a7V h.1 hi k _ (List.getElem?_eq_getElem hk) z1 z2
            rw [←hki,List.getElem?_eq_getElem hk]at hy
            rw [Option.some.inj hy,hb]at z3
            cases z3
           rw [if_pos hb,if_neg hno]
           rfl
         · have hb':y.Back=false:=by simpa using hb
           have hyes:∃y,y∈x.Now.Loans∧y.Owner=o∧y.No=n∧y.Back=false:=⟨y,List.mem_of_getElem? hy,q1,q2,hb'⟩
           rw [if_neg hb,if_pos hyes]
           have hm:x.Now.Loans.map (a5e o n m)=x.Now.Loans.set i (a5e o n m y):=b6l hy fun k z hk hz=>by
            unfold a5e
            rw [if_neg]
            rintro⟨z1,z2,_⟩
            exact hk (a7V h.1 hi k z hz z1 z2)
           have e1:=a6n (L:=x.Now.Loans) (⟨y.Owner,y.No,y.Thing,y.From,min y.Until (max m y.From),y.Back⟩:b6) hy
           rw [hm]
           simp only [b0L,b0Y,Int.toNat_natCast,v8 e1,Option.bind_some,List.set_set]
           unfold a5e
           rw [if_pos ⟨q1,q2,hb'⟩]
       · have hex:decide (∃y,x.Now.Loans[i]?=some y∧N3 o n y=0)=false:=decide_eq_false hx
         rw [show(!decide (∃y,x.Now.Loans[i]?=some y∧N3 o n y=0))=true by rw [hex];rfl]
         have hno:¬∃y,y∈x.Now.Loans∧y.Owner=o∧y.No=n∧y.Back=false:=by
          rintro⟨z,hz,z1,z2,z3⟩
          obtain⟨k,hk,rfl⟩:=List.getElem_of_mem hz
          have hki:=a7V h.1 hi k _ (List.getElem?_eq_getElem hk) z1 z2
          exact hx ⟨_,by rw [←hki];exact List.getElem?_eq_getElem hk,(M5 o n _).2.2 ⟨z1,z2⟩⟩
         simp only [if_true]
         rw [if_neg hno]
         rfl
     · simp [h1,h2,Z0,S0]
   · simp [h1,Z0,S0]
 · rw [if_neg h,if_neg h];rfl
theorem b9B (x:a6) (l:Int×Int×Int):a4h x l=some (a5m x l.1 l.2.1 l.2.2):=by
 have e0:=a4z x
 unfold Err at e0
 obtain⟨o,n,m⟩:=l
 unfold a4h a5m
 rw [e0]
 by_cases h:j1 x
 · rw [if_pos h,if_pos h]
   have hn:=h.1.nloans
   simp only [Option.bind_some,(a0S o).eq,(U5 m).eq,a5x h,bne_self_eq_false,Bool.false_eq_true,if_false]
   by_cases h1:0≤o∧o≤5
   · by_cases h2:0≤m∧m≤144001439
     · simp only [h1,h2,and_self,decide_true,Bool.not_true,Bool.false_eq_true,if_false,if_true]
       obtain⟨i,hi,_⟩:=a9g h.1 (⟨o,n,0,0,0,false⟩:b6)
       have hi:Cut (N3 o n) x.Now.Loans i:=hi
       let R:Nat→Option (a6×Int):=fun k=>match x.Now.Loans[k]? with|some y=>if y.Owner=o∧y.No=n∧y.Back=false then some (⟨x.Me,⟨x.Now.Round,x.Now.Slots,x.Now.Bids,x.Now.Heard,x.Now.Leases,x.Now.Loans.set k (a5e o n m y)⟩,x.Safe⟩,0)else none|none=>none
       have hs:=a2l (body:=a0u (o,n,m) x) x.Now.Loans.length (by omega) R 0 (Nat.zero_le _) (fun k _ h2=>by
        obtain⟨y,hy⟩:=a0P h2
        have hlt:((k:Int)<(x.Now.Loans.length:Int)):=by omega
        have hR:R k=if y.Owner=o∧y.No=n∧y.Back=false then some (⟨x.Me,⟨x.Now.Round,x.Now.Slots,x.Now.Bids,x.Now.Heard,x.Now.Leases,x.Now.Loans.set k (a5e o n m y)⟩,x.Safe⟩,0)else none:=by
         show(match x.Now.Loans[k]? with|some y=>if y.Owner=o∧y.No=n∧y.Back=false then some ((⟨x.Me,⟨x.Now.Round,x.Now.Slots,x.Now.Bids,x.Now.Heard,x.Now.Leases,x.Now.Loans.set k (a5e o n m y)⟩,x.Safe⟩:a6),(0:Int))else none|none=>none)=_
         rw [hy]
        rw [hR]
        unfold a0u
        simp only [hlt,decide_true,if_true,v8 hy,Option.bind_some,b0L,b0Y,Int.toNat_natCast,W_s (show k<9223372036854775807 by omega)]
        by_cases g1:y.Owner=o
        · by_cases g2:y.No=n
          · by_cases g3:y.Back=true
            · simp [g1,g2,g3]
            · have g3':y.Back=false:=by simpa using g3
              simp [g1,g2,g3',a5e]
          · simp [g1,g2]
        · simp [g1]) (by simp [a0u])
       rw [show((0:Nat):Int)=0 from rfl]at hs
       rw [hs]
       by_cases hx:∃y,y∈x.Now.Loans∧y.Owner=o∧y.No=n∧y.Back=false
       · rw [if_pos hx]
         obtain⟨y,hy,q1,q2,q3⟩:=hx
         obtain⟨k,hk,rfl⟩:=List.getElem_of_mem hy
         have hRk:R k≠none:=by
          show(match x.Now.Loans[k]? with|some y=>if y.Owner=o∧y.No=n∧y.Back=false then some ((⟨x.Me,⟨x.Now.Round,x.Now.Slots,x.Now.Bids,x.Now.Heard,x.Now.Leases,x.Now.Loans.set k (a5e o n m y)⟩,x.Safe⟩:a6),(0:Int))else none|none=>none)≠none
          rw [List.getElem?_eq_getElem hk]
          simp [q1,q2,q3]
         obtain⟨j,r,a,b,c,e⟩:=a4r (q:=R) (x.Now.Loans.length-0) 0 k (Nat.zero_le _) (by omega) hRk
         rw [e]
         have hj:j<x.Now.Loans.length:=by omega
         have c:(match x.Now.Loans[j]? with|some y=>if y.Owner=o∧y.No=n∧y.Back=false then some ((⟨x.Me,⟨x.Now.Round,x.Now.Slots,x.Now.Bids,x.Now.Heard,x.Now.Leases,x.Now.Loans.set j (a5e o n m y)⟩,x.Safe⟩:a6),(0:Int))else none|none=>none)=some r:=c
         rw [List.getElem?_eq_getElem hj]at c
         simp only at c
         split at c
         · rename_i hq
           have hm:x.Now.Loans.map (a5e o n m)=x.Now.Loans.set j (a5e o n m x.Now.Loans[j]):=b6l (List.getElem?_eq_getElem hj) fun k z hk hz=>by
            unfold a5e
            rw [if_neg]
            rintro⟨z1,z2,_⟩
            have e1:=a7V h.1 hi k z hz z1 z2
            have e2:=a7V h.1 hi j _ (List.getElem?_eq_getElem hj) hq.1 hq.2.1
            exact hk (e1.trans e2.symm)
           rw [hm]
           simp only [Option.bind_some]
           exact c.symm
         · cases c
       · rw [if_neg hx,a3n _ _ (fun k _ h2=>by
          have hk:k<x.Now.Loans.length:=by omega
          show(match x.Now.Loans[k]? with|some y=>if y.Owner=o∧y.No=n∧y.Back=false then some ((⟨x.Me,⟨x.Now.Round,x.Now.Slots,x.Now.Bids,x.Now.Heard,x.Now.Leases,x.Now.Loans.set k (a5e o n m y)⟩,x.Safe⟩:a6),(0:Int))else none|none=>none)=none
          rw [List.getElem?_eq_getElem hk]
          simp only
          rw [if_neg (fun hq=>hx ⟨_,List.getElem_mem hk,hq⟩)])]
         rfl
     · simp [h1,h2,Z0,S0]
   · simp [h1,Z0,S0]
 · rw [if_neg h,if_neg h];rfl
def c2V (T:Int→Prop) (ok:Int→Prop) (r:Int×Int):Prop:=((∀f,T f→¬ok f)∧r=(0,3))∨∃f,T f∧ok f∧(∀g,T g→ok g→f≤g)∧r=(f,0)
theorem c2V.one {T:Int→Prop} {ok:Int→Prop} {r s:Int×Int} (h1:c2V T ok r) (h2:c2V T ok s):r=s:=by
 rcases h1 with⟨a,rfl⟩|⟨f,a,b,c,rfl⟩
 · rcases h2 with⟨a',rfl⟩|⟨f',a',b',c',rfl⟩
   · rfl
   · exact absurd b' (a f' a')
 · rcases h2 with⟨a',rfl⟩|⟨f',a',b',c',rfl⟩
   · exact absurd b (a' f a)
   · have h1:=c f' a' b'
     have h2:=c' f a b
     have:f=f':=by omega
     rw [this]
theorem a4U {m:Int} (n:Int) (hm:0<m∧m≤144001439):w7 n m=some (n % m):=by
 unfold w7
 simp only [gd,ne_eq,show¬m=0 by omega,not_false_eq_true,if_true,Option.some.injEq]
 have h3:=Int.tmod_eq_emod (a:=n) (b:=m)
 have h4:=Int.emod_nonneg n (show m≠0 by omega)
 have h5:=Int.emod_lt_of_pos n hm.1
 have h6:n.tmod m=n % m∨n.tmod m=n % m-m:=by
  rw [h3];split
  · exact .inl (by omega)
  · exact .inr (by omega)
 rcases h6 with h6|h6
 · rw [h6,a0D (by omega),Int.tmod_eq_emod_of_nonneg (by omega),Int.add_emod_right,Int.emod_eq_of_lt h4 h5]
 · rw [h6,a0D (by omega),show n % m-m+m=n % m by omega,Int.tmod_eq_emod_of_nonneg h4,Int.emod_eq_of_lt h4 h5]
structure Dl (D T to_ f u:Int):Prop where
 hD:0≤D∧D≤5
 hT:1≤T∧T≤99
 hTD:T % 6=D
 hto:0≤to_∧to_≤5
 hf:0≤f∧f≤390
 hu:f≤u∧u≤f+110
theorem c4y (a:U6):∃T to_ f u,a2Q a=some ⟨T,to_,f,u⟩∧Dl (a.Depot % 6) T to_ f u:=by
 unfold a2Q
 rw [a4F,a4F,a4U _ (by omega),a4U _ (by omega),a4U _ (by omega)]
 simp only [Option.bind_some]
 rw [a0D (z:=1+a.Thing % 3) (by omega),a0D (z:=6*(1+a.Thing % 3)) (by omega),a0D (z:=a.Depot % 6+6*(1+a.Thing % 3)) (by omega),a0D (z:=a.From % 40*10) (by omega),a0D (z:=a.Long % 12*10) (by omega),a0D (z:=a.From % 40*10+a.Long % 12*10) (by omega)]
 exact⟨_,_,_,_,rfl,by omega,by omega,by omega,by omega,by omega,by omega⟩
theorem a8d {α:Type} {f:α→α→Prop} {l:List α} (h:l.length≤1):G3 f l:=fun i a b _ hb=>by
 have:=(List.getElem?_eq_some_iff.1 hb).1;omega
theorem b4w {α:Type} {f:α→α→Prop} {l:List α} (h:l.length≤1):a7F f l:=fun i x hx y hy=>by
 have:=(List.getElem?_eq_some_iff.1 hx).1
 obtain rfl:i=0:=by omega
 simp at hy
theorem vst {me:Int} {L:List b8} {M:List b6} (hd:0≤me∧me≤5) (l1:L.length≤1) (m1:M.length≤1) (hL:∀l,l∈L→a2E me l∧l.No=1) (hM:∀l,l∈M→a3s me l):m9 me ⟨0, [], [], [],L,M⟩ where
 dep:=hd
 round:=⟨Int.le_refl _,by show(0:Int)≤9999;omega⟩
 nslots:=by simp
 slots:=fun x hx=>by cases hx
 nbids:=by simp
 bids:=fun x hx=>by cases hx
 nheard:=by simp
 heard:=fun x hx=>by cases hx
 nleases:=by show(L.length:Int)≤40;omega
 leases:=fun x hx=>(hL x hx).1
 nloans:=by show(M.length:Int)≤60;omega
 loans:=hM
 rslots:=a8d (by simp)
 rbids:=a8d (by simp)
 rheard:=a8d (by simp)
 rloans:=a8d m1
 ballots:=b4w (by simp)
 nos:=fun i x hx=>by
  have hx:L[i]?=some x:=hx
  have:=(List.getElem?_eq_some_iff.1 hx).1
  obtain rfl:i=0:=by omega
  have:=(hL x (List.mem_of_getElem? hx)).2
  simp [this]
 meets:=b4w l1
theorem vs0 {me:Int} (hd:0≤me∧me≤5):m9 me S0:=vst hd (by simp) (by simp) (fun x hx=>by cases hx) (fun x hx=>by cases hx)
theorem b8g {me:Int} {s t:b7} (hs:m9 me s) (ht:m9 me t):a7u ⟨me,s,t⟩=(⟨me,s,s⟩,0):=by
 unfold a7u
 rw [if_pos ⟨hs,ht⟩]
theorem c1V {me:Int} {s t:b7} (hs:m9 me s) (ht:m9 me t) {to_:Int} (h:0≤to_∧to_≤5):b2S ⟨me,s,t⟩ to_=(b0q me to_ t,0):=by
 unfold b2S
 rw [if_pos ⟨hs,ht⟩,if_pos h]
theorem a4j {α:Type} {c:α→Int} {new:α} {f:α→α}:∀ {l:List α} {y:α},y∈upd c new f l→y=f new∨y∈l∨∃x,x∈l∧c x=0∧y=f x
 | [],y,h=> .inl (by simpa [upd]using h)
 |x::l,y,h=>by
  unfold upd at h
  split at h
  · rcases List.mem_cons.1 h with rfl|h
    · exact .inr (.inl List.mem_cons_self)
    · rcases a4j h with h|h|⟨z,h1,h2,h3⟩
      · exact .inl h
      · exact .inr (.inl (List.mem_cons_of_mem _ h))
      · exact .inr (.inr ⟨z,List.mem_cons_of_mem _ h1,h2,h3⟩)
  · split at h
    · rename_i h0
      rcases List.mem_cons.1 h with rfl|h
      · exact .inr (.inr ⟨x,List.mem_cons_self,h0,rfl⟩)
      · exact .inr (.inl (List.mem_cons_of_mem _ h))
    · rcases List.mem_cons.1 h with rfl|h
      · exact .inl rfl
      · exact .inr (.inl h)
theorem a6M {α:Type} {lt:α→α→Prop} {x:α} {l:List α}:G3 lt (x::l)↔(∀y,l[0]?=some y→lt x y)∧G3 lt l:=
 ⟨fun h=>⟨fun y hy=>h 0 x y rfl (by simpa using hy),fun i a b ha hb=>h (i+1) a b (by simpa using ha) (by simpa using hb)⟩,fun⟨h1,h2⟩ i a b ha hb=>by
  cases i with
  |zero=>
   simp at ha
   subst ha
   exact h1 b (by simpa using hb)
  |succ i=>exact h2 i a b (by simpa using ha) (by simpa using hb)⟩
theorem c3d {α:Type} {c:α→Int} {new:α} {f:α→α} {l:List α} {y:α} (h:(upd c new f l)[0]?=some y):y=f new∨l[0]?=some y∨∃x,l[0]?=some x∧c x=0∧y=f x:=by
 cases l with
 |nil=>exact .inl (by simpa [upd]using h.symm)
 |cons x l=>
  unfold upd at h
  split at h
  · exact .inr (.inl (by simpa using h))
  · split at h
    · rename_i h0
      exact .inr (.inr ⟨x,rfl,h0,by simpa using h.symm⟩)
    · exact .inl (by simpa using h.symm)
theorem a6g {α:Type} {c:α→Int} {new:α} {f:α→α} {lt:α→α→Prop} (hlt:∀x,c x<0→lt x (f new)) (hgt:∀x,0<c x→lt (f new) x) (h1:∀x,c x=0→∀y,lt y x→lt y (f x)) (h2:∀x,c x=0→∀y,lt x y→lt (f x) y):∀ {l:List α},G3 lt l→G3 lt (upd c new f l)
 | [],_=>fun i a b _ hb=>by
  have:=(List.getElem?_eq_some_iff.1 hb).1
  simp [upd]at this
 |x::l,h=>by
  obtain⟨h3,h4⟩:=a6M.1 h
  unfold upd
  split
  · rename_i hc
    refine a6M.2 ⟨fun y hy=> ?_,a6g hlt hgt h1 h2 h4⟩
    rcases c3d hy with rfl|hy|⟨z,hz,hz0,rfl⟩
    · exact hlt x hc
    · exact h3 y hy
    · exact h1 z hz0 x (h3 z hz)
  · split
    · rename_i hc
      exact a6M.2 ⟨fun y hy=>h2 x hc y (h3 y hy),h4⟩
    · exact a6M.2 ⟨fun y hy=>by simp at hy;subst hy;exact hgt _ (by omega),h⟩
theorem b5x {α:Type} {f:α→α} {lt:α→α→Prop} (hf:∀a b,lt a b→lt (f a) (f b)) {l:List α} (h:G3 lt l):G3 lt (l.map f):=fun i a b ha hb=>by
 rw [List.getElem?_map]at ha hb
 obtain⟨a',ha',rfl⟩:=Option.map_eq_some_iff.1 ha
 obtain⟨b',hb',rfl⟩:=Option.map_eq_some_iff.1 hb
 exact hf _ _ (h i a' b' ha' hb')
theorem a3C {α:Type} {g:α→α→Prop} {l:List α}:a7F g l↔l.Pairwise (fun y x=>¬g y x):=by
 rw [List.pairwise_iff_getElem]
 constructor
 · intro h i j hi hj hij
   refine h j _ (List.getElem?_eq_getElem hj) _ (List.mem_of_getElem? (i:=i) ?_)
   rw [List.getElem?_take,if_pos hij,List.getElem?_eq_getElem hi]
 · intro h i x hx y hy
   obtain⟨hi,rfl⟩:=List.getElem?_eq_some_iff.1 hx
   obtain⟨k,hk,rfl⟩:=List.getElem_of_mem hy
   rw [List.getElem_take]
   exact h k i (by simp at hk;omega) hi (by simp at hk;omega)
theorem c3L {α:Type} {c:α→Int} {new:α} {f:α→α} {R:α→α→Prop} (hf:∀x,f x=f new):∀ {l:List α},l.Pairwise R→(∀x,x∈l→R x (f new))→(∀x,x∈l→R (f new) x)→(upd c new f l).Pairwise R
 | [],_,_,_=>by simp [upd]
 |x::l,h,h1,h2=>by
  rw [List.pairwise_cons]at h
  have ih:=c3L (c:=c) hf h.2 (fun y hy=>h1 y (List.mem_cons_of_mem _ hy)) (fun y hy=>h2 y (List.mem_cons_of_mem _ hy))
  unfold upd
  split
  · refine List.pairwise_cons.2 ⟨fun y hy=> ?_,ih⟩
    rcases a4j hy with rfl|hy|⟨z,_,_,rfl⟩
    · exact h1 x List.mem_cons_self
    · exact h.1 y hy
    · rw [hf];exact h1 x List.mem_cons_self
  · split
    · rw [hf]
      exact List.pairwise_cons.2 ⟨fun y hy=>h2 y (List.mem_cons_of_mem _ hy),h.2⟩
    · exact List.pairwise_cons.2 ⟨h2,List.pairwise_cons.2 h⟩
theorem a8l (n:Int) (x:a8):(H6 n x<0↔x.Night<n)∧(H6 n x=0↔x.Night=n):=⟨X8,a1D⟩
theorem b0c (n:Int) (x:c0):(a7h n x<0↔x.Night<n)∧(a7h n x=0↔x.Night=n):=⟨X8,a1D⟩
theorem b4X {f:a8→a8} {new:a8} (hn:∀x,(f x).Night=x.Night) {l:List a8} (h:G3 a2O l):G3 a2O (upd (H6 new.Night) new f l):=by
 refine a6g (fun x hx=> ?_) (fun x hx=> ?_) (fun x _ y hy=> ?_) (fun x _ y hy=> ?_) h<;>unfold a2O at* <;>rw [hn]
 · exact(a8l _ _).1.1 hx
 · have h1:=a8l new.Night x
   have:¬x.Night<new.Night:=fun q=>by have:=h1.1.2 q;omega
   have:¬x.Night=new.Night:=fun q=>by have:=h1.2.2 q;omega
   omega
 · exact hy
 · exact hy
theorem a7J (c:b5) (x:a8):(S8 c x).Night=x.Night:=by unfold S8;split<;>rfl
theorem a9r (c:b5) (x:a8):(a1S c x).Night=x.Night:=by unfold a1S;split<;>rfl
theorem c2R {c:b5} (hc:a3a c) {x:a8} (h:Z7 x∨x=o7 c):Z7 (S8 c x):=by
 obtain⟨h1,h2,_⟩:=hc
 unfold S8
 rcases h with⟨a,b,d⟩|rfl
 · split
   · refine⟨a,h2, ?_⟩
     rcases d with d|d
     · exact .inl d
     · exact .inr ⟨⟨d.1.1,by simp only;omega⟩,d.2⟩
   · exact⟨a,b,d⟩
 · rw [if_pos (by simp only [o7];omega)]
   exact⟨h1,h2, .inl ⟨rfl,rfl⟩⟩
theorem c4i {c:b5} (hc:a3a c) (hv:a7x c.Value) {x:a8} (h:Z7 x∨x=o7 c):Z7 (a1S c x):=by
 obtain⟨h1,h2,_⟩:=hc
 unfold a1S
 rcases h with⟨a,b,d⟩|rfl
 · split
   · exact⟨a,h2, .inr ⟨⟨h2.1,Int.le_refl _⟩,hv⟩⟩
   · exact⟨a,b,d⟩
 · rw [if_pos (by simp only [o7];omega)]
   exact⟨h1,h2, .inr ⟨⟨h2.1,Int.le_refl _⟩,hv⟩⟩
theorem m9.slots' {me:Int} {s:b7} (h:m9 me s) {L:List a8} (hn:L.length≤12) (hL:∀x,x∈L→Z7 x) (hr:G3 a2O L):m9 me ⟨s.Round,L,s.Bids,s.Heard,s.Leases,s.Loans⟩:=
 { h with nslots:=by show(L.length:Int)≤12;omega,slots:=hL,rslots:=hr}
theorem b4H {c:b5} {f:a8→a8} {l:List a8} (hl:∀x,x∈l→Z7 x) (hf:∀x,Z7 x∨x=o7 c→Z7 (f x)):∀x,x∈upd (H6 c.Night) (o7 c) f l→Z7 x:=fun x hx=>by
 rcases a4j hx with rfl|hx|⟨z,hz,_,rfl⟩
 · exact hf _ (.inr rfl)
 · exact hl x hx
 · exact hf _ (.inl (hl z hz))
theorem qr0:qr 0=false:=by decide+kernel
theorem c5T {me:Int} {s:b7} (h:m9 me s) (hr:s.Round≠9999) {night value:Int} (hn:0≤night∧night≤100000) (hv:1≤value∧value≤1000000) (hf:(a2t s me night value).length≤12):m9 me ⟨s.Round+1,s.Slots,a2t s me night value,s.Heard,s.Leases,s.Loans⟩:=by
 have hd:=h.dep;have hro:=h.round
 have hnew:a3W me (s.Round+1) (S4 me s.Round night value):=⟨hn,by simp only [S4];omega,by simp only [S4];omega,hv,by simp only [S4];omega,by simp only [S4];omega,qr0.symm⟩
 have hold:∀x,x∈s.Bids→a3W me (s.Round+1) x:=fun x hx=>by
  obtain⟨a,b,r⟩:=h.bids x hx
  exact⟨a,by omega,r⟩
 exact { h with
  round:=by show 0≤s.Round+1∧s.Round+1≤9999;omega
  nbids:=by show((a2t s me night value).length:Int)≤12;omega
  bids:=fun x hx=>by
   rcases a4j hx with rfl|hx|⟨z,_,_,rfl⟩
   · exact hnew
   · exact hold x hx
   · exact hnew
  rbids:=by
   refine a6g (fun x hx=> ?_) (fun x hx=> ?_) (fun x h0 y hy=> ?_) (fun x h0 y hy=> ?_) h.rbids<;>unfold a6W at* <;>simp only [S4]
   · exact(b0c _ _).1.1 hx
   · have h1:=b0c night x
     have:¬x.Night<night:=fun q=>by have:=h1.1.2 q;omega
     have:¬x.Night=night:=fun q=>by have:=h1.2.2 q;omega
     omega
   · rw [←(b0c night x).2.1 h0];exact hy
   · rw [←(b0c night x).2.1 h0];exact hy
  ballots:=a3C.2 (c3L (fun _=>rfl) (a3C.1 h.ballots) (fun x hx=>by have:=(h.bids x hx).2.1;simp only [S4];omega) (fun x hx=>by have:=(h.bids x hx).2.1;simp only [S4];omega))}
theorem b9i (c:b5) (b:c0):(a0Q c b).Night=b.Night∧(a0Q c b).Ballot=b.Ballot:=by unfold a0Q;split<;>exact⟨rfl,rfl⟩
theorem c2q {me r:Int} {c:b5} (hf:0≤c.From∧c.From≤5) (hb:(c.Best=0∧c.Value=0)∨((6≤c.Best∧c.Best≤c.Ballot-1)∧a7x c.Value)) {b:c0} (h:a3W me r b):a3W me r (a0Q c b):=by
 obtain⟨h1,h2,h3,h4,h5,h6,h7⟩:=h
 unfold a0Q
 split
 · rename_i hc
   have hm:=(a4f h6 hf).2.1
   refine⟨h1,h2,h3, ?_, ?_,⟨hm.1,hm.2.1⟩,rfl⟩
   · show 1≤(if c.Best>b.Best then c.Value else b.Value)∧(if c.Best>b.Best then c.Value else b.Value)≤1000000
     split
     · rcases hb with hb|hb
       · omega
       · exact hb.2
     · exact h4
   · show 0≤(if c.Best>b.Best then c.Best else b.Best)∧(if c.Best>b.Best then c.Best else b.Best)≤b.Ballot-1
     split<;>omega
 · exact⟨h1,h2,h3,h4,h5,h6,h7⟩
theorem m9.bids' {me:Int} {s:b7} (h:m9 me s) {f:c0→c0} (hk:∀b,(f b).Night=b.Night∧(f b).Ballot=b.Ballot) (ho:∀b,a3W me s.Round b→a3W me s.Round (f b)):m9 me ⟨s.Round,s.Slots,s.Bids.map f,s.Heard,s.Leases,s.Loans⟩:=
 { h with
  nbids:=by show((s.Bids.map f).length:Int)≤12;rw [List.length_map];exact h.nbids
  bids:=fun x hx=>by
   obtain⟨y,hy,rfl⟩:=List.mem_map.1 hx
   exact ho y (h.bids y hy)
  rbids:=b5x (fun a b hab=>by unfold a6W at*;rw [(hk a).1,(hk b).1];exact hab) h.rbids
  ballots:=a3C.2 ((List.pairwise_map).2 ((a3C.1 h.ballots).imp fun hab=>by rw [(hk _).2,(hk _).2];exact hab))}
theorem a5i (c:b5) (x:a7):(E3 c x).Night=x.Night∧(E3 c x).Ballot=x.Ballot∧(E3 c x).Value=x.Value:=by unfold E3;split<;>exact⟨rfl,rfl,rfl⟩
theorem m9.heard' {me:Int} {s:b7} (h:m9 me s) {c:b5} (hf:0≤c.From∧c.From≤5) (hv:a3a c) (hval:a7x c.Value) (hn:(upd (K4 c.Ballot c.Night) (w6 c) (E3 c) s.Heard).length≤60):m9 me ⟨s.Round,s.Slots,s.Bids,upd (K4 c.Ballot c.Night) (w6 c) (E3 c) s.Heard,s.Leases,s.Loans⟩:=
 { h with
  nheard:=by show((upd (K4 c.Ballot c.Night) (w6 c) (E3 c) s.Heard).length:Int)≤60;omega
  heard:=fun x hx=>by
   rcases a4j hx with rfl|hx|⟨z,hz,_,rfl⟩
   · have hm:=(a4f (m:=0) (by omega) hf).2.1
     unfold E3
     rw [if_pos (show(w6 c).Value=c.Value from rfl)]
     exact⟨hv.2.1,hv.1,hval,hm.2.2,hm.1,hm.2.1⟩
   · exact h.heard x hx
   · have ho:=h.heard z hz
     unfold E3
     split
     · have hm:=(a4f ho.2.2.2.2 hf).2.1
       exact⟨ho.1,ho.2.1,ho.2.2.1,hm.2.2,hm.1,hm.2.1⟩
     · exact ho
  rheard:=by
   refine a6g (fun x hx=> ?_) (fun x hx=> ?_) (fun x _ y hy=> ?_) (fun x _ y hy=> ?_) h.rheard<;>unfold a1j at* <;>rw [(a5i _ _).1,(a5i _ _).2.1]
   · exact(V9 _ _ _).1.1 hx
   · have h1:=V9 c.Ballot c.Night x
     have:¬(x.Ballot<c.Ballot∨(x.Ballot=c.Ballot∧x.Night<c.Night)):=fun q=>by have:=h1.1.2 q;omega
     have:¬(x.Ballot=c.Ballot∧x.Night=c.Night):=fun q=>by have:=h1.2.2 q;omega
     simp only [w6]
     omega
   · exact hy
   · exact hy}
theorem a6j (c:b5) (l:b8):(U9 c l).No=l.No∧(U9 c l).Thing=l.Thing∧(U9 c l).To=l.To∧(U9 c l).From=l.From∧(U9 c l).Until≤l.Until:=by
 unfold U9;split
 · exact⟨rfl,rfl,rfl,rfl,by simp only;omega⟩
 · exact⟨rfl,rfl,rfl,rfl,Int.le_refl _⟩
theorem c2D {me:Int} {c:b5} {l:b8} (h:a2E me l):a2E me (U9 c l):=by
 obtain⟨h1,h2,h3,h4,h5,h6,h7⟩:=h
 unfold U9;split
 · exact⟨h1,h2,h3,h4,h5,by simp only;omega,by simp only;omega⟩
 · exact⟨h1,h2,h3,h4,h5,h6,h7⟩
theorem m9.back' {me:Int} {s:b7} (h:m9 me s) (c:b5):m9 me ⟨s.Round,s.Slots,s.Bids,s.Heard,s.Leases.map (U9 c),s.Loans⟩:=
 { h with
  nleases:=by show((s.Leases.map (U9 c)).length:Int)≤40;rw [List.length_map];exact h.nleases
  leases:=fun x hx=>by
   obtain⟨y,hy,rfl⟩:=List.mem_map.1 hx
   exact c2D (h.leases y hy)
  nos:=fun i x hx=>by
   rw [List.getElem?_map]at hx
   obtain⟨y,hy,rfl⟩:=Option.map_eq_some_iff.1 hx
   rw [(a6j c y).1];exact h.nos i y hy
  meets:=a3C.2 ((List.pairwise_map).2 ((a3C.1 h.meets).imp fun {a b} hab q=>by
   have ha:=a6j c a;have hb:=a6j c b
   unfold a1A at*
   exact hab ⟨by rw [←ha.2.1,←hb.2.1];exact q.1,by have:=q.2;omega⟩))}
theorem m9.lend' {me:Int} {s:b7} (h:m9 me s) {y:b8} (hy:a2E me y) (hno:y.No=(s.Leases.length:Int)+1) (hn:s.Leases.length≠40) (hl:¬b1z s.Leases y):m9 me ⟨s.Round,s.Slots,s.Bids,s.Heard,s.Leases++ [y],s.Loans⟩:=
 { h with
  nleases:=by have:=h.nleases;show((s.Leases++ [y]).length:Int)≤40;simp;omega
  leases:=fun x hx=>by
   rcases List.mem_append.1 hx with hx|hx
   · exact h.leases x hx
   · rw [List.mem_singleton]at hx;subst hx;exact hy
  nos:=fun i x hx=>by
   by_cases hi:i<s.Leases.length
   · rw [List.getElem?_append_left hi]at hx;exact h.nos i x hx
   · rw [List.getElem?_append_right (by omega)]at hx
     have:=(List.getElem?_eq_some_iff.1 hx).1
     have e:i-s.Leases.length=0:=by simp at this;omega
     rw [e]at hx
     simp at hx
     subst hx
     rw [hno];omega
  meets:=a3C.2 (List.pairwise_append.2 ⟨a3C.1 h.meets,List.pairwise_singleton _ _,fun a ha b hb q=>by
   rw [List.mem_singleton]at hb
   subst hb
   exact hl ⟨a,ha,q⟩⟩)}
theorem c3Z {me o n m:Int} (hm:0≤m) {y:b6} (h:a3s me y):a3s me (a5e o n m y):=by
 obtain⟨h1,h2,h3,h4,h5,h6,h7,h8⟩:=h
 unfold a5e;split
 · exact⟨h1,h2,h3,h4,h5,h6,by simp only;omega,by simp only;omega⟩
 · exact⟨h1,h2,h3,h4,h5,h6,h7,h8⟩
theorem a8o (o n m:Int) (y:b6):(a5e o n m y).Owner=y.Owner∧(a5e o n m y).No=y.No:=by unfold a5e;split<;>exact⟨rfl,rfl⟩
theorem m9.ret' {me:Int} {s:b7} (h:m9 me s) {o n m:Int} (hm:0≤m):m9 me ⟨s.Round,s.Slots,s.Bids,s.Heard,s.Leases,s.Loans.map (a5e o n m)⟩:=
 { h with
  nloans:=by show((s.Loans.map (a5e o n m)).length:Int)≤60;rw [List.length_map];exact h.nloans
  loans:=fun x hx=>by
   obtain⟨y,hy,rfl⟩:=List.mem_map.1 hx
   exact c3Z hm (h.loans y hy)
  rloans:=b5x (fun a b hab=>by unfold a0Z at*;rw [(a8o _ _ _ a).1,(a8o _ _ _ b).1,(a8o _ _ _ a).2,(a8o _ _ _ b).2];exact hab) h.rloans}
theorem m9.grant' {me:Int} {s:b7} (h:m9 me s) {c:b5} (hy:a3s me (K7 c)) (hn:(upd (N3 c.From c.No) (K7 c) id s.Loans).length≤60):m9 me ⟨s.Round,s.Slots,s.Bids,s.Heard,s.Leases,upd (N3 c.From c.No) (K7 c) id s.Loans⟩:=
 { h with
  nloans:=by show((upd (N3 c.From c.No) (K7 c) id s.Loans).length:Int)≤60;omega
  loans:=fun x hx=>by
   rcases a4j hx with hx|hx|⟨z,hz,_,hx⟩
   · rw [hx];exact hy
   · exact h.loans x hx
   · rw [hx];exact h.loans z hz
  rloans:=by
   refine a6g (fun x hx=> ?_) (fun x hx=> ?_) (fun x _ y hy=>hy) (fun x _ y hy=>hy) h.rloans<;>unfold a0Z at* <;>simp only [id,K7]
   · exact(M5 _ _ _).1.1 hx
   · have h1:=M5 c.From c.No x
     have:¬(x.Owner<c.From∨(x.Owner=c.From∧x.No<c.No)):=fun q=>by have:=h1.1.2 q;omega
     have:¬(x.Owner=c.From∧x.No=c.No):=fun q=>by have:=h1.2.2 q;omega
     omega}
theorem c3b {me:Int} {s t:b7} (h:m9 me s) {c:b5} (hc:a2B c) (hto:c.To=me) (e:a8G s c=some t):m9 me t:=by
 obtain⟨hf,_,hk⟩:=hc
 unfold a8G at e
 split at e
 · rename_i k
   split at e
   · rename_i hn
     cases e
     rcases hk with⟨_,hv,_⟩|⟨k',_⟩|⟨k',_⟩|⟨k',_⟩|⟨k',_⟩|⟨k',_⟩<;>first|omega|skip
     exact h.slots' hn (b4H h.slots fun x hx=>c2R hv hx) (b4X (new:=o7 c) (a7J c) h.rslots)
   · cases e
 · split at e
   · rename_i k
     cases e
     rcases hk with⟨k',_⟩|⟨_,_,_,hb⟩|⟨k',_⟩|⟨k',_⟩|⟨k',_⟩|⟨k',_⟩<;>first|omega|skip
     exact h.bids' (b9i c) fun b hbk=>c2q hf hb hbk
   · split at e
     · rename_i k
       split at e
       · rename_i hn
         cases e
         rcases hk with⟨k',_⟩|⟨k',_⟩|⟨_,hv,_,_,hval⟩|⟨k',_⟩|⟨k',_⟩|⟨k',_⟩<;>first|omega|skip
         exact h.slots' hn (b4H h.slots fun x hx=>c4i hv hval hx) (b4X (new:=o7 c) (a9r c) h.rslots)
       · cases e
     · split at e
       · rename_i k
         split at e
         · rename_i hn
           cases e
           rcases hk with⟨k',_⟩|⟨k',_⟩|⟨k',_⟩|⟨_,hv,_,hval⟩|⟨k',_⟩|⟨k',_⟩<;>first|omega|skip
           exact h.heard' hf hv hval hn
         · cases e
       · split at e
         · rename_i k
           split at e
           · rename_i hn
             cases e
             rcases hk with⟨k',_⟩|⟨k',_⟩|⟨k',_⟩|⟨k',_⟩|⟨_,hl,ht,hs,hu⟩|⟨k',_⟩<;>first|omega|skip
             obtain⟨l1,l2,l3,l4,_⟩:=hl
             exact h.grant' ⟨hf,by rw [←hto];exact l1,l2,l3,ht,hs,l4,hu⟩ hn
           · cases e
         · cases e
           exact h.back' c
def b4M (x y:a6):Prop:=j1 y∧y.Me=x.Me∧y.Safe=x.Safe
theorem a8J {x:a6} {n v:Int} (h:(a3D x n v).2=0):b4M x (a3D x n v).1:=by
 unfold a3D at h⊢
 by_cases h1:j1 x
 · by_cases h2:0≤n∧n≤100000
   · by_cases h3:1≤v∧v≤1000000
     · by_cases h4:x.Now.Round=9999∨¬(a2t x.Now x.Me n v).length≤12
       · rw [if_pos h1,if_pos h2,if_pos h3,if_pos h4]at h;cases h
       · rw [if_pos h1,if_pos h2,if_pos h3,if_neg h4]
         exact⟨⟨c5T h1.1 (fun e=>h4 (.inl e)) h2 h3 (Classical.byContradiction fun e=>h4 (.inr e)),h1.2⟩,rfl,rfl⟩
     · rw [if_pos h1,if_pos h2,if_neg h3]at h;cases h
   · rw [if_pos h1,if_neg h2]at h;cases h
 · rw [if_neg h1]at h;cases h
theorem a9c {x:a6} {c:b5} (h:(a0K x c).2=0):b4M x (a0K x c).1∧a2B c∧c.To=x.Me∧j1 x∧∃t,a8G x.Now c=some t∧a0K x c=(⟨x.Me,t,x.Safe⟩,0):=by
 unfold a0K at h⊢
 by_cases h1:j1 x
 · by_cases h2:a2B c∧c.To=x.Me
   · rw [if_pos h1,if_pos h2]at h⊢
     cases hh:a8G x.Now c with
     |none=>rw [hh]at h;cases h
     |some t=>exact⟨⟨⟨c3b h1.1 h2.1 h2.2 hh,h1.2⟩,rfl,rfl⟩,h2.1,h2.2,h1,t,rfl,rfl⟩
   · rw [if_pos h1,if_neg h2]at h;cases h
 · rw [if_neg h1]at h;cases h
theorem b3T {x:a6} {a b c d:Int} (h:(b1i x a b c d).2=0):b4M x (b1i x a b c d).1:=by
 unfold b1i at h⊢
 by_cases h1:j1 x
 · by_cases h2:1≤a∧a≤99
   · by_cases h3:0≤b∧b≤5
     · by_cases h4:0≤c∧c≤144001439
       · by_cases h5:0≤d∧d≤144001439
         · by_cases h6:a % 6=x.Me
           · by_cases h7:b=x.Me
             · rw [if_pos h1,if_pos h2,if_pos h3,if_pos h4,if_pos h5,if_pos h6,if_pos h7]at h;cases h
             · by_cases h8:c>d
               · rw [if_pos h1,if_pos h2,if_pos h3,if_pos h4,if_pos h5,if_pos h6,if_neg h7,if_pos h8]at h;cases h
               · by_cases h9:b1z x.Now.Leases ⟨(x.Now.Leases.length:Int)+1,a,b,c,d⟩
                 · rw [if_pos h1,if_pos h2,if_pos h3,if_pos h4,if_pos h5,if_pos h6,if_neg h7,if_neg h8,if_pos h9]at h;cases h
                 · by_cases h10:x.Now.Leases.length=40
                   · rw [if_pos h1,if_pos h2,if_pos h3,if_pos h4,if_pos h5,if_pos h6,if_neg h7,if_neg h8,if_neg h9,if_pos h10]at h;cases h
                   · rw [if_pos h1,if_pos h2,if_pos h3,if_pos h4,if_pos h5,if_pos h6,if_neg h7,if_neg h8,if_neg h9,if_neg h10]
                     exact⟨⟨h1.1.lend' ⟨h2,h6,h3,h7,h4,h5,by simp only;omega⟩ rfl h10 h9,h1.2⟩,rfl,rfl⟩
           · rw [if_pos h1,if_pos h2,if_pos h3,if_pos h4,if_pos h5,if_neg h6]at h;cases h
         · rw [if_pos h1,if_pos h2,if_pos h3,if_pos h4,if_neg h5]at h;cases h
       · rw [if_pos h1,if_pos h2,if_pos h3,if_neg h4]at h;cases h
     · rw [if_pos h1,if_pos h2,if_neg h3]at h;cases h
   · rw [if_pos h1,if_neg h2]at h;cases h
 · rw [if_neg h1]at h;cases h
theorem a9y {x:a6} {o n m:Int} (h:(a5m x o n m).2=0):b4M x (a5m x o n m).1:=by
 unfold a5m at h⊢
 by_cases h1:j1 x
 · by_cases h2:0≤o∧o≤5
   · by_cases h3:0≤m∧m≤144001439
     · by_cases h4:∃y,y∈x.Now.Loans∧y.Owner=o∧y.No=n∧y.Back=false
       · rw [if_pos h1,if_pos h2,if_pos h3,if_pos h4]
         exact⟨⟨h1.1.ret' h3.1,h1.2⟩,rfl,rfl⟩
       · rw [if_pos h1,if_pos h2,if_pos h3,if_neg h4]at h;cases h
     · rw [if_pos h1,if_pos h2,if_neg h3]at h;cases h
   · rw [if_pos h1,if_neg h2]at h;cases h
 · rw [if_neg h1]at h;cases h
theorem c5B:∀(m:Fin 64) (d k:Fin 6),a3Z (O5 m.val d.val) k.val=(a3Z m.val k.val||decide (k=d)):=by decide+kernel
theorem b4y {m d k:Int} (hm:0≤m∧m≤63) (hd:0≤d∧d≤5) (hk:0≤k∧k≤5) (h:a3Z (O5 m d) k=true):a3Z m k=true∨k=d:=by
 have:=c5B ⟨m.toNat,by omega⟩ ⟨d.toNat,by omega⟩ ⟨k.toNat,by omega⟩
 simp only [Int.toNat_of_nonneg hm.1,Int.toNat_of_nonneg hd.1,Int.toNat_of_nonneg hk.1,h,Fin.mk.injEq]at this
 rcases Bool.or_eq_true_iff.1 this.symm with h|h
 · exact .inl h
 · have:=of_decide_eq_true h;exact .inr (by omega)
theorem c4D:∀k:Fin 6,a3Z 0 k.val=false:=by decide+kernel
theorem c5v {k:Int} (hk:0≤k∧k≤5):a3Z 0 k=false:=by
 have:=c4D ⟨k.toNat,by omega⟩
 simpa only [Int.toNat_of_nonneg hk.1]using this
set_option maxRecDepth 100000 in theorem meet_f : ∀ (m n : Fin 64), qr m.val = true → qr n.val = true → ∃ k : Fin 6, a3Z m.val k.val = true ∧ a3Z n.val k.val = true := by decide +kernel
theorem c4X {m n:Int} (hm:0≤m∧m≤63) (hn:0≤n∧n≤63) (h1:qr m=true) (h2:qr n=true):∃k:Int,(0≤k∧k≤5)∧a3Z m k=true∧a3Z n k=true:=by
 have:=meet_f ⟨m.toNat,by omega⟩ ⟨n.toNat,by omega⟩
 simp only [Int.toNat_of_nonneg hm.1,Int.toNat_of_nonneg hn.1]at this
 obtain⟨k,h⟩:=this h1 h2
 exact⟨(k.val:Int),by omega,h⟩
def Acc (C:List b5) (n b v:Int):Prop:=∃c,c∈C∧c.Kind=3∧c.Night=n∧c.Ballot=b∧c.Value=v
def Acd (C:List b5) (k n b v:Int):Prop:=∃c,c∈C∧c.Kind=4∧c.From=k∧c.Night=n∧c.Ballot=b∧c.Value=v
def Pro (C:List b5) (k n b B:Int):Prop:=∃c,c∈C∧c.Kind=2∧c.From=k∧c.Night=n∧c.Ballot=b∧c.Best≤B
def Prm (C:List b5) (n b m B v:Int):Prop:=(∀k,0≤k∧k≤5→a3Z m k=true→Pro C k n b B)∧(B≠0→Acc C n B v)
def Sub (C C':List b5):Prop:=∀c,c∈C→c∈C'
theorem Acc.mono {C C':List b5} (h:Sub C C') {n b v:Int}:Acc C n b v→Acc C' n b v:=fun⟨c,a,r⟩=>⟨c,h c a,r⟩
theorem Acd.mono {C C':List b5} (h:Sub C C') {k n b v:Int}:Acd C k n b v→Acd C' k n b v:=fun⟨c,a,r⟩=>⟨c,h c a,r⟩
theorem Pro.mono {C C':List b5} (h:Sub C C') {k n b B:Int}:Pro C k n b B→Pro C' k n b B:=fun⟨c,a,r⟩=>⟨c,h c a,r⟩
theorem Prm.mono {C C':List b5} (h:Sub C C') {n b m B v:Int}:Prm C n b m B v→Prm C' n b m B v:=fun⟨p,q⟩=>⟨fun k hk hm=>(p k hk hm).mono h,fun hB=>(q hB).mono h⟩
structure GC (C:List b5):Prop where
 ok:∀c,c∈C→a2B c
 g2:∀c,c∈C→∀a,a∈C→c.Kind=2→a.Kind=4→a.From=c.From→a.Night=c.Night→a.Ballot<c.Ballot→a.Ballot≤c.Best
 g5:∀a,a∈C→a.Kind=4→Acc C a.Night a.Ballot a.Value
 gb:∀c,c∈C→c.Kind=2→c.Best≠0→Acc C c.Night c.Best c.Value
 g6:∀c,c∈C→∀a,a∈C→c.Kind=3→a.Kind=3→a.Night=c.Night→a.Ballot=c.Ballot→a.Value=c.Value
 g8:∀c,c∈C→c.Kind=3→∃m B,(0≤m∧m≤63)∧qr m=true∧B<c.Ballot∧Prm C c.Night c.Ballot m B c.Value
def b3E (C:List b5) (n b v:Int):Prop:=∃m,(0≤m∧m≤63)∧qr m=true∧∀k,0≤k∧k≤5→a3Z m k=true→Acd C k n b v
theorem b3E.mono {C C':List b5} (h:Sub C C') {n b v:Int}:b3E C n b v→b3E C' n b v:=fun⟨m,a,b,r⟩=>⟨m,a,b,fun k hk hm=>(r k hk hm).mono h⟩
theorem b3E.acc {C:List b5} (g:GC C) {n b v:Int} (h:b3E C n b v):Acc C n b v:=by
 obtain⟨m,hm,hq,h⟩:=h
 obtain⟨k,hk,hmk,_⟩:=c4X hm hm hq hq
 obtain⟨a,ha,h4,_,rfl,rfl,rfl⟩:=h k hk hmk
 exact g.g5 a ha h4
theorem a9O {α:Type} {c:α→Int} {new:α} {f:α→α}:∀ {l:List α} {x:α},x∈l→x∈upd c new f l∨(c x=0∧f x∈upd c new f l)
 |y::l,x,h=>by
  unfold upd
  split
  · rcases List.mem_cons.1 h with rfl|h
    · exact .inl List.mem_cons_self
    · rcases a9O (c:=c) (new:=new) (f:=f) h with h|h
      · exact .inl (List.mem_cons_of_mem _ h)
      · exact .inr ⟨h.1,List.mem_cons_of_mem _ h.2⟩
  · split
    · rename_i h0
      rcases List.mem_cons.1 h with rfl|h
      · exact .inr ⟨h0,List.mem_cons_self⟩
      · exact .inl (List.mem_cons_of_mem _ h)
    · exact .inl (List.mem_cons_of_mem _ h)
structure J (C:List b5) (i:Int) (s:b7):Prop where
 p1:∀c,c∈C→c.Kind=2→c.From=i→∃t,t∈s.Slots∧t.Night=c.Night∧c.Ballot≤t.Promised∧(t.Ballot=c.Best∨c.Ballot≤t.Ballot)
 p3:∀c,c∈C→c.Kind=4→c.From=i→∃t,t∈s.Slots∧t.Night=c.Night∧c.Ballot≤t.Ballot
 p4:∀t,t∈s.Slots→t.Ballot≠0→Acc C t.Night t.Ballot t.Value
 p7:∀c,c∈C→c.Kind=3→c.From=i→c.Ballot≤6*s.Round+i∧∃b,b∈s.Bids∧b.Night=c.Night∧((b.Ballot=c.Ballot∧b.Value=c.Value∧b.Asked=true)∨c.Ballot<b.Ballot)
 p8:∀b,b∈s.Bids→Prm C b.Night b.Ballot b.Mask b.Best b.Value
 p9:∀h,h∈s.Heard→∀k,0≤k∧k≤5→a3Z h.Mask k=true→Acd C k h.Night h.Ballot h.Value
 l1:∀c,c∈C→c.Kind=5→c.From=i→∃l,l∈s.Leases∧l.No=c.No∧l.Thing=c.Thing∧l.To=c.To∧l.From=c.Start∧l.Until≤c.Until∧(l.Until=c.Until∨∃b,b∈C∧b.Kind=6∧b.From=c.To∧b.To=c.From∧b.No=c.No)
 l2:∀y,y∈s.Loans→∃c,c∈C∧c.Kind=5∧c.From=y.Owner∧c.To=i∧c.No=y.No∧c.Thing=y.Thing∧c.Start=y.From
 l3:∀b,b∈C→b.Kind=6→b.From=i→∃y,y∈s.Loans∧y.Owner=b.To∧y.No=b.No∧y.Back=true∧y.Until=b.Until
theorem J.slots {C:List b5} {i:Int} {s:b7} (h:J C i s) {f:a8→a8} {c:b5} (hn:∀x,(f x).Night=x.Night) (hp:∀x,x.Promised≤(f x).Promised) (hb:∀x,x∈s.Slots→(f x).Ballot=x.Ballot∨(x.Promised≤(f x).Ballot∧x.Ballot≤(f x).Ballot)) (ho:∀x,x.Night=c.Night→(x.Ballot≠0→Acc C x.Night x.Ballot x.Value)→(f x).Ballot≠0→Acc C x.Night (f x).Ballot (f x).Value):J C i ⟨s.Round,upd (H6 c.Night) (o7 c) f s.Slots,s.Bids,s.Heard,s.Leases,s.Loans⟩:=
 { h with
  p1:=fun a ha h2 hf=>by
   obtain⟨t,t1,t2,t3,t4⟩:=h.p1 a ha h2 hf
   rcases a9O (c:=H6 c.Night) (new:=o7 c) (f:=f) t1 with q|⟨_,q⟩
   · exact⟨t,q,t2,t3,t4⟩
   · refine⟨f t,q,by rw [hn];exact t2,Int.le_trans t3 (hp t), ?_⟩
     rcases hb t t1 with e|e
     · rw [e];exact t4
     · exact .inr (Int.le_trans t3 e.1)
  p3:=fun a ha h2 hf=>by
   obtain⟨t,t1,t2,t3⟩:=h.p3 a ha h2 hf
   rcases a9O (c:=H6 c.Night) (new:=o7 c) (f:=f) t1 with q|⟨_,q⟩
   · exact⟨t,q,t2,t3⟩
   · refine⟨f t,q,by rw [hn];exact t2, ?_⟩
     rcases hb t t1 with e|e
     · rw [e];exact t3
     · exact Int.le_trans t3 e.2
  p4:=fun t ht hne=>by
   rcases a4j ht with e|ht|⟨z,hz,h0,e⟩
   · rw [e]at hne⊢;rw [hn];exact ho _ rfl (fun q=>absurd rfl q) hne
   · exact h.p4 t ht hne
   · rw [e]at hne⊢;rw [hn];exact ho z ((a8l _ _).2.1 h0) (h.p4 z hz) hne}
theorem J.prep {C:List b5} {i:Int} {s:b7} (h:J C i s) (c:b5):J C i ⟨s.Round,upd (H6 c.Night) (o7 c) (S8 c) s.Slots,s.Bids,s.Heard,s.Leases,s.Loans⟩:=
 h.slots (a7J c) (fun x=>by
  unfold S8;split
  · rename_i q;exact Int.le_of_lt q
  · exact Int.le_refl _) (fun x _=> .inl (by unfold S8;split<;>rfl)) (fun x _ hx hne=>by
  have e:(S8 c x).Ballot=x.Ballot∧(S8 c x).Value=x.Value:=by unfold S8;split<;>exact⟨rfl,rfl⟩
  rw [e.1,e.2];exact hx (by rw [←e.1];exact hne))
theorem J.acc {C:List b5} {i:Int} {s:b7} (h:J C i s) (hle:∀x,x∈s.Slots→x.Ballot≤x.Promised) {c:b5} (hc:c∈C) (h3:c.Kind=3):J C i ⟨s.Round,upd (H6 c.Night) (o7 c) (a1S c) s.Slots,s.Bids,s.Heard,s.Leases,s.Loans⟩:=
 h.slots (a9r c) (fun x=>by
  unfold a1S;split
  · rename_i q;exact q
  · exact Int.le_refl _) (fun x hx=>by
  unfold a1S;split
  · rename_i q;exact .inr ⟨q,Int.le_trans (hle x hx) q⟩
  · exact .inl rfl) (fun x hn hx hne=>by
  unfold a1S at hne⊢
  by_cases q:c.Ballot≥x.Promised
  · rw [if_pos q];exact⟨c,hc,h3,hn.symm,rfl,rfl⟩
  · rw [if_neg q]at hne⊢;exact hx hne)
theorem J.heard {C:List b5} {i:Int} {s:b7} (g:GC C) (h:J C i s) (hv:m9 i s) {c:b5} (hc:c∈C) (h4:c.Kind=4):J C i ⟨s.Round,s.Slots,s.Bids,upd (K4 c.Ballot c.Night) (w6 c) (E3 c) s.Heard,s.Leases,s.Loans⟩:=
 { h with
  p9:=fun x hx k hk hm=>by
   have hfr:=(g.ok c hc).from_
   rcases a4j hx with rfl|hx|⟨z,hz,h0,rfl⟩
   · unfold E3 at hm⊢
     rw [if_pos (show(w6 c).Value=c.Value from rfl)]at hm⊢
     rcases b4y (m:=0) (by omega) hfr hk hm with q|q
     · rw [c5v hk]at q;cases q
     · exact⟨c,hc,h4,q.symm,rfl,rfl,rfl⟩
   · exact h.p9 x hx k hk hm
   · have e:=(V9 c.Ballot c.Night z).2.1 h0
     unfold E3 at hm⊢
     by_cases q:z.Value=c.Value
     · rw [if_pos q]at hm⊢
       rcases b4y (hv.heard z hz).2.2.2.2 hfr hk hm with r|r
       · exact h.p9 z hz k hk r
       · exact⟨c,hc,h4,r.symm,e.2.symm,e.1.symm,q.symm⟩
     · rw [if_neg q]at hm⊢
       exact h.p9 z hz k hk hm}
theorem J.back {C:List b5} {i:Int} {s:b7} (h:J C i s) {c:b5} (hc:c∈C) (h6:c.Kind=6) (hto:c.To=i):J C i ⟨s.Round,s.Slots,s.Bids,s.Heard,s.Leases.map (U9 c),s.Loans⟩:=
 { h with
  l1:=fun a ha h5 hf=>by
   obtain⟨l,m1,m2,m3,m4,m5,m6,m7⟩:=h.l1 a ha h5 hf
   have hk:=a6j c l
   refine⟨U9 c l,List.mem_map.2 ⟨l,m1,rfl⟩,by omega,by omega,by omega,by omega,by omega, ?_⟩
   by_cases q:l.No=c.No∧l.Thing=c.Thing∧l.To=c.From
   · exact .inr ⟨c,hc,h6,by omega,by omega,by omega⟩
   · rw [show U9 c l=l by unfold U9;rw [if_neg q]];exact m7}
theorem J.grant {C:List b5} {i:Int} {s:b7} (h:J C i s) {c:b5} (hc:c∈C) (h5:c.Kind=5) (hto:c.To=i):J C i ⟨s.Round,s.Slots,s.Bids,s.Heard,s.Leases,upd (N3 c.From c.No) (K7 c) id s.Loans⟩:=
 { h with
  l2:=fun y hy=>by
   rcases a4j hy with e|hy|⟨z,hz,_,e⟩
   · rw [e];exact⟨c,hc,h5,rfl,hto,rfl,rfl,rfl⟩
   · exact h.l2 y hy
   · rw [e];exact h.l2 z hz
  l3:=fun b hb h6 hf=>by
   obtain⟨y,y1,r⟩:=h.l3 b hb h6 hf
   rcases a9O (c:=N3 c.From c.No) (new:=K7 c) (f:=id) y1 with e|⟨_,e⟩
   · exact⟨y,e,r⟩
   · exact⟨y,e,r⟩}
inductive Em (i:Int) (s:b7):b5→Prop
 |acc (b:c0) (to_:Int) (hb:b∈s.Bids) (ha:b.Asked=true) (ht:0≤to_∧to_≤5):Em i s ⟨3,i,to_,b.Night,b.Ballot,0,b.Value,0,0,0,0⟩
 |prep (b:c0) (to_:Int) (hb:b∈s.Bids) (ht:0≤to_∧to_≤5):Em i s ⟨1,i,to_,b.Night,b.Ballot,0,0,0,0,0,0⟩
 |pro (t:a8) (hs:t∈s.Slots) (hp:t.Promised>t.Ballot):Em i s ⟨2,i,t.Promised % 6,t.Night,t.Promised,t.Ballot,t.Value,0,0,0,0⟩
 |acd (t:a8) (to_:Int) (hs:t∈s.Slots) (hb:t.Ballot≠0) (ht:0≤to_∧to_≤5):Em i s ⟨4,i,to_,t.Night,t.Ballot,0,t.Value,0,0,0,0⟩
 |grant (l:b8) (hl:l∈s.Leases):Em i s ⟨5,i,l.To,0,0,0,0,l.No,l.Thing,l.From,l.Until⟩
 |back (y:b6) (hy:y∈s.Loans) (hb:y.Back=true):Em i s ⟨6,i,y.Owner,0,0,0,0,y.No,y.Thing,0,y.Until⟩
theorem c5X {i to_:Int} {s:b7} (ht:0≤to_∧to_≤5) {c:b5} (h:c∈b0q i to_ s):Em i s c:=by
 unfold b0q at h
 rcases List.mem_append.1 h with h|h
 · obtain⟨b,hb,h⟩:=List.mem_flatMap.1 h
   unfold b6z at h
   by_cases ha:b.Asked=true
   · rw [if_pos ha,List.mem_singleton]at h;rw [h];exact .acc b to_ hb ha ht
   · rw [if_neg ha,List.mem_singleton]at h;rw [h];exact .prep b to_ hb ht
 · rcases List.mem_append.1 h with h|h
   · obtain⟨t,hs,h⟩:=List.mem_flatMap.1 h
     unfold b1w at h
     rcases List.mem_append.1 h with h|h
     · split at h
       · rename_i q
         rw [List.mem_singleton]at h
         subst h
         obtain⟨rfl,q⟩:=q
         exact .pro t hs q
       · cases h
     · split at h
       · rename_i q
         rw [List.mem_singleton]at h
         subst h
         exact .acd t to_ hs q ht
       · cases h
   · rcases List.mem_append.1 h with h|h
     · obtain⟨l,hl,h⟩:=List.mem_flatMap.1 h
       unfold a9n at h
       split at h
       · rename_i q
         rw [List.mem_singleton]at h
         subst h
         subst q
         exact .grant l hl
       · cases h
     · obtain⟨y,hy,h⟩:=List.mem_flatMap.1 h
       unfold b5i at h
       split at h
       · rename_i q
         rw [List.mem_singleton]at h
         subst h
         obtain⟨rfl,q⟩:=q
         exact .back y hy q
       · cases h
theorem Em.from_ {i:Int} {s:b7} {c:b5} (h:Em i s c):c.From=i:=by cases h<;>rfl
theorem Em.ok {i:Int} {s:b7} (hv:m9 i s) {c:b5} (h:Em i s c):a2B c:=by
 have hd:=hv.dep
 have hr:=hv.round
 cases h with
 |acc b to_ hb ha ht=>
  obtain⟨b1,b2,b3,b4,_⟩:=hv.bids b hb
  exact⟨hd,ht, .inr (.inr (.inl ⟨rfl,⟨b1,by simp only;omega,rfl,rfl,rfl,rfl⟩,b3,rfl,b4⟩))⟩
 |prep b to_ hb ht=>
  obtain⟨b1,b2,b3,b4,_⟩:=hv.bids b hb
  exact⟨hd,ht, .inl ⟨rfl,⟨b1,by simp only;omega,rfl,rfl,rfl,rfl⟩,b3,rfl,rfl⟩⟩
 |pro t hs hp=>
  obtain⟨s1,s2,s3⟩:=hv.slots t hs
  refine⟨hd,by simp only;omega, .inr (.inl ⟨rfl,⟨s1,s2,rfl,rfl,rfl,rfl⟩,rfl, ?_⟩)⟩
  rcases s3 with s3|s3
  · exact .inl s3
  · exact .inr ⟨by simp only;omega,s3.2⟩
 |acd t to_ hs hb ht=>
  obtain⟨s1,s2,s3⟩:=hv.slots t hs
  rcases s3 with s3|s3
  · exact absurd s3.1 hb
  · exact⟨hd,ht, .inr (.inr (.inr (.inl ⟨rfl,⟨s1,by simp only;omega,rfl,rfl,rfl,rfl⟩,rfl,s3.2⟩)))⟩
 |grant l hl=>
  obtain⟨l1,l2,l3,l4,l5,l6,l7⟩:=hv.leases l hl
  have hno:1≤l.No∧l.No≤40:=by
   obtain⟨k,hk,e⟩:=List.getElem_of_mem hl
   have:=hv.nos k l (by rw [List.getElem?_eq_getElem hk,e])
   have:=hv.nleases
   omega
  exact⟨hd,l3, .inr (.inr (.inr (.inr (.inl ⟨rfl,⟨fun q=>l4 q.symm,hno,l1,l6,rfl,rfl,rfl,rfl⟩,l2,l5,l7⟩))))⟩
 |back y hy hb=>
  obtain⟨y1,y2,y3,y4,y5,y6,y7,y8⟩:=hv.loans y hy
  exact⟨hd,y1, .inr (.inr (.inr (.inr (.inr ⟨rfl,⟨fun q=>y2 q.symm,y3,y4,y7,rfl,rfl,rfl,rfl⟩,y5,rfl⟩))))⟩
theorem a6d {α:Type} {c:α→Int} {new:α} {f:α→α} (hk:∀x,c (f x)=c x) (h0:c new=0):∀ {l:List α},(∀x,x∈l∨x=new→c x=0→f (f x)=f x)→upd c new f (upd c new f l)=upd c new f l
 | [],hf=>by
  have e:=hf new (.inr rfl) h0
  have e1:¬c (f new)<0:=by rw [hk];omega
  have e2:c (f new)=0:=by rw [hk];exact h0
  show upd c new f [f new]= [f new]
  unfold upd
  rw [if_neg e1,if_pos e2,e]
 |x::l,hf=>by
  have ih:=a6d hk h0 (l:=l) fun y hy=>hf y (hy.imp (List.mem_cons_of_mem _) id)
  by_cases h1:c x<0
  · have e:upd c new f (x::l)=x::upd c new f l:=by rw [upd,if_pos h1]
    rw [e,upd,if_pos h1,ih]
  · by_cases h2:c x=0
    · have e:upd c new f (x::l)=f x::l:=by rw [upd,if_neg h1,if_pos h2]
      rw [e,upd,if_neg (by rw [hk];exact h1),if_pos (by rw [hk];exact h2),hf x (.inl List.mem_cons_self) h2]
    · have e:upd c new f (x::l)=f new::x::l:=by rw [upd,if_neg h1,if_neg h2]
      rw [e,upd,if_neg (by rw [hk];omega),if_pos (by rw [hk];exact h0),hf new (.inr rfl) h0]
theorem b5A (c:b5):H6 c.Night (o7 c)=0:=(a8l _ _).2.2 rfl
theorem b7M (c:b5) (x:a8):S8 c (S8 c x)=S8 c x:=by
 by_cases h:c.Ballot>x.Promised
 · have e:S8 c x=⟨x.Night,c.Ballot,x.Ballot,x.Value⟩:=by unfold S8;rw [if_pos h]
   rw [e];unfold S8;rw [if_neg (Int.lt_irrefl _)]
 · have e:S8 c x=x:=by unfold S8;rw [if_neg h]
   rw [e,e]
theorem b9f (c:b5) (x:a8):a1S c (a1S c x)=a1S c x:=by
 by_cases h:c.Ballot≥x.Promised
 · have e:a1S c x=⟨x.Night,c.Ballot,c.Ballot,c.Value⟩:=by unfold a1S;rw [if_pos h]
   rw [e];unfold a1S;rw [if_pos (Int.le_refl _)]
 · have e:a1S c x=x:=by unfold a1S;rw [if_neg h]
   rw [e,e]
set_option maxRecDepth 100000 in theorem mwith_f : ∀ (m : Fin 64) (d : Fin 6), O5 (O5 m.val d.val) d.val = O5 m.val d.val ∧ a3Z (O5 m.val d.val) d.val = true := by decide +kernel
theorem b1J {m d:Int} (hm:0≤m∧m≤63) (hd:0≤d∧d≤5):O5 (O5 m d) d=O5 m d∧a3Z (O5 m d) d=true:=by
 have:=mwith_f ⟨m.toNat,by omega⟩ ⟨d.toNat,by omega⟩
 simpa only [Int.toNat_of_nonneg hm.1,Int.toNat_of_nonneg hd.1]using this
theorem b6I {c:b5} (hf:0≤c.From∧c.From≤5) {x:a7} (hm:0≤x.Mask∧x.Mask≤63):E3 c (E3 c x)=E3 c x:=by
 by_cases h:x.Value=c.Value
 · have e:E3 c x=⟨x.Night,x.Ballot,x.Value,O5 x.Mask c.From⟩:=by unfold E3;rw [if_pos h]
   rw [e];unfold E3;rw [if_pos h,(b1J hm hf).1]
 · have e:E3 c x=x:=by unfold E3;rw [if_neg h]
   rw [e,e]
theorem b7i {c:b5} (hf:0≤c.From∧c.From≤5) {x:c0} (hm:0≤x.Mask∧x.Mask≤63):a0Q c (a0Q c x)=a0Q c x:=by
 by_cases h:x.Night=c.Night∧x.Ballot=c.Ballot∧x.Asked=false∧a3Z x.Mask c.From=false
 · have e:a0Q c x=⟨x.Night,x.Ballot,if c.Best>x.Best then c.Value else x.Value,if c.Best>x.Best then c.Best else x.Best,O5 x.Mask c.From,qr (O5 x.Mask c.From)⟩:=by unfold a0Q;rw [if_pos h]
   rw [e];conv=>lhs;unfold a0Q
   rw [if_neg (fun q=>by have:=q.2.2.2;simp only [(b1J hm hf).2]at this;cases this)]
 · have e:a0Q c x=x:=by unfold a0Q;rw [if_neg h]
   rw [e,e]
theorem b6P (c:b5) (x:b8):U9 c (U9 c x)=U9 c x:=by
 by_cases h:x.No=c.No∧x.Thing=c.Thing∧x.To=c.From
 · have e:U9 c x=⟨x.No,x.Thing,x.To,x.From,min x.Until (max c.Until x.From)⟩:=by unfold U9;rw [if_pos h]
   rw [e];unfold U9;rw [if_pos h]
   simp only
   congr 1
   omega
 · have e:U9 c x=x:=by unfold U9;rw [if_neg h]
   rw [e,e]
theorem b5g {α:Type} {f:α→α} {l:List α} (h:∀x,x∈l→f (f x)=f x):(l.map f).map f=l.map f:=by
 rw [List.map_map]
 exact List.map_congr_left fun x hx=>h x hx
theorem b6S {me:Int} {s t:b7} (h:m9 me s) {c:b5} (hc:a2B c) (e:a8G s c=some t):a8G t c=some t:=by
 have hf:=hc.from_
 rcases hc.kinds with k|k|k|k|k|k<;>unfold a8G at e⊢<;>simp only [k,Int.reduceEq,if_true,if_false]at e⊢
 · split at e
   · rename_i hn
     cases e
     have e1:=a6d (c:=H6 c.Night) (new:=o7 c) (f:=S8 c) (l:=s.Slots) (fun x=>by unfold H6;rw [a7J]) (b5A c) (fun x _ _=>b7M c x)
     simp only [e1,hn,if_true]
   · cases e
 · cases e
   simp only [b5g fun x hx=>b7i hf (h.bids x hx).2.2.2.2.2.1]
 · split at e
   · rename_i hn
     cases e
     have e1:=a6d (c:=H6 c.Night) (new:=o7 c) (f:=a1S c) (l:=s.Slots) (fun x=>by unfold H6;rw [a9r]) (b5A c) (fun x _ _=>b9f c x)
     simp only [e1,hn,if_true]
   · cases e
 · split at e
   · rename_i hn
     cases e
     have e1:=a6d (c:=K4 c.Ballot c.Night) (new:=w6 c) (f:=E3 c) (l:=s.Heard) (fun x=>by unfold K4;rw [(a5i c x).1,(a5i c x).2.1]) ((V9 _ _ _).2.2 ⟨rfl,rfl⟩) (fun x hx _=>b6I hf (by
      rcases hx with hx|rfl
      · exact(h.heard x hx).2.2.2.2
      · exact⟨Int.le_refl _,by simp [w6]⟩))
     simp only [e1,hn,if_true]
   · cases e
 · split at e
   · rename_i hn
     cases e
     have e1:=a6d (c:=N3 c.From c.No) (new:=K7 c) (f:=id) (l:=s.Loans) (fun x=>rfl) ((M5 _ _ _).2.2 ⟨rfl,rfl⟩) (fun x _ _=>rfl)
     simp only [e1,hn,if_true]
   · cases e
 · cases e
   simp only [b5g fun x _=>b6P c x]
theorem b7J {x:a6} {c:b5} (h:(a0K x c).2=0):a0K (a0K x c).1 c=a0K x c:=by
 obtain⟨⟨hk,_⟩,hc,hto,hv,t,ht,e⟩:=a9c h
 rw [e]at hk⊢
 show a0K ⟨x.Me,t,x.Safe⟩ c=_
 unfold a0K
 rw [if_pos hk,if_pos ⟨hc,hto⟩,b6S hv.1 hc ht]
def SB0:b7:=⟨0, [], [], [], [], []⟩
def SB1:b7:=⟨1, [], [⟨4,7,77,0,14,false⟩], [], [], []⟩
def SB2:b7:=⟨1, [], [⟨4,7,77,0,46,true⟩], [], [], []⟩
def SL:a6:=⟨2,⟨0, [], [], [], [⟨1,8,0,100,200⟩], []⟩,SB0⟩
theorem sn1:b1a=some (⟨1,SB1,SB0⟩,true):=by decide+kernel
theorem sn2:N9 ⟨1,SB1,SB0⟩ ⟨2,5,1,4,7,0,0,0,0,0,0⟩=some (⟨1,SB2,SB0⟩,0):=by decide+kernel
theorem sn3:Y2 ⟨1,SB2,SB0⟩=some (⟨1,SB2,SB2⟩,0):=by decide+kernel
theorem sn4:a4S ⟨1,SB2,SB2⟩ 2=some ([⟨3,1,2,4,7,0,77,0,0,0,0⟩],0):=by decide+kernel
theorem sn5:a2J 2=some (⟨2,SB0,SB0⟩,0):=by decide+kernel
theorem sn6:L9 ⟨2,SB0,SB0⟩ 8 0 100 200=some (SL,0):=by decide+kernel
theorem sn7:a0e SL 8 150=some (false,0):=by decide+kernel
theorem sn8:a0e SL 8 200=some (true,0):=by decide+kernel
theorem sn9:L9 SL 8 1 150 250=some (⟨0,SB0,SB0⟩,93):=by decide+kernel
theorem sna:S5 [150,200]=some [150,200]:=by
 have:a8I [150,200]= [150,200]:=List.mergeSort_of_pairwise (by simp)
 unfold S5
 rw [this];rfl
theorem snb:a1z SL=some (some ⟨SL⟩,0):=by decide+kernel
theorem snc:j4 (a3d 8 150 ⟨SL⟩) (0, [150])=some (1, [150,200]):=by decide+kernel
theorem snd:(Option.bind (j4 (a3l 8 150 250 ⟨SL⟩ [150,200]) 0) fun e=>match e with| .inl _=>some ((0:Int),(3:Int))| .inr r=>some r)=some (200,0):=by decide+kernel
theorem sne:A1 8=some true:=by decide+kernel
theorem snf:d9 150=some true:=by decide+kernel
theorem sng:d9 250=some true:=by decide+kernel
theorem snh:a1w SL 8 150 250=some (200,0):=by
 unfold a1w
 rw [snb]
 have h2:((SL.Me !=SL.Me)=true)=False:=by simp
 simp only [Option.bind_some,c1C,sne,snf,sng,snc,sna,show((0:Int) !=0)=false from rfl,Bool.false_eq_true,if_false,Bool.not_true,d8,show((8:Int).tmod 6 !=SL.Me)=false from rfl,show decide ((150:Int)>250)=false from rfl]
 exact snd
theorem sni:a2D SB1=some (⟨#[114,111,117,110,100,32,49,10,98,105,100,32,52,32,55,32,55,55,32,48,32,49,52,32,48,10]⟩,0):=by decide+kernel
theorem snj:a1L [⟨3,1,2,4,7,0,77,0,0,0,0⟩] [⟨3,1,2,4,7,0,77,0,0,0,0⟩]=some true:=by decide+kernel
theorem c4f:a6s=some true:=by
 unfold a6s
 rw [sn1,Option.bind_some]
 dsimp only
 rw [sn2,Option.bind_some]
 dsimp only
 rw [sn3,Option.bind_some]
 dsimp only
 rw [sn4,Option.bind_some]
 dsimp only
 rw [if_neg (by decide),if_neg (by decide),if_neg (by decide),if_neg (by decide),if_neg (by decide),if_neg (by decide)]
 rw [show idx SB1.Bids 0=some ⟨4,7,77,0,14,false⟩ from rfl,Option.bind_some,if_pos (by decide)]
 rw [show idx SB2.Bids 0=some ⟨4,7,77,0,46,true⟩ from rfl,Option.bind_some]
 rw [snj,Option.bind_some,sn5,Option.bind_some]
 dsimp only
 rw [sn6,Option.bind_some]
 dsimp only
 rw [sn7,Option.bind_some]
 dsimp only
 rw [sn8,Option.bind_some]
 dsimp only
 rw [sn9,Option.bind_some]
 dsimp only
 rw [snh,Option.bind_some]
 dsimp only
 rw [sni,Option.bind_some]
 dsimp only
 rw [if_pos (by decide),if_pos (by decide),if_pos (by decide),if_pos (by decide),if_pos (by decide),if_pos (by decide),if_pos (by decide),if_pos (by decide),if_pos (by decide),if_pos (by decide),if_pos (by decide),if_pos (by decide)]
 rw [beq_self_eq_true]
theorem j1.sh {x:a6} (h:j1 x):b5z x.Now∧b5z x.Safe:=⟨h.1.short,h.2.short⟩
theorem b1T {x y:a6} (hx:j1 x) (h:b4M x y):E5 x y=some true:=by
 obtain⟨h1,h2,h3⟩:=h
 have e:=b5V y
 unfold Err at e
 unfold E5
 rw [e,if_pos h1,h3,(a3K _ hx.sh.2).true]
 simp only [Option.bind_some,beq_self_eq_true,if_true,h2]
theorem b2h {n:Int} {P:Prop} (h:n=0→P):((n==0)=true∧P)∨(n==0)=false:=by
 by_cases e:n=0
 · exact .inl ⟨by rw [e];rfl,h e⟩
 · exact .inr (by rw [beq_eq_false_iff_ne];exact e)
def six (x:a0M):List a6:= [x.All.1,x.All.2.1,x.All.2.2.1,x.All.2.2.2.1,x.All.2.2.2.2.1,x.All.2.2.2.2.2]
structure V6 (n:Nat) (x:a0M):Prop where
 st:∀d:Int,0≤d∧d≤5→∃s,idx (six x) d=some s∧j1 s∧s.Me=d
 ok:∀c,c∈x.Calls→a2B c
 len:x.Calls.length≤6000*n
def c7o (x:a0M) (d:Int) (y:a6) (l:List b5):a0M:=⟨((if(d==0)=true then y else x.All.1),(if(d==1)=true then y else x.All.2.1),(if(d==2)=true then y else x.All.2.2.1),(if(d==3)=true then y else x.All.2.2.2.1),(if(d==4)=true then y else x.All.2.2.2.2.1),(if(d==5)=true then y else x.All.2.2.2.2.2)),l⟩
theorem V6.set {n:Nat} {x:a0M} (h:V6 n x) {d:Int} (hd:0≤d∧d≤5) {y:a6} (hy:j1 y) (hm:y.Me=d) {l:List b5} (hl:∀c,c∈l→a2B c) (hn:l.length≤6000*(n+1)):V6 (n+1) (c7o x d y l) where
 st:=fun k hk=>by
  by_cases e:k=d
  · subst e
    refine⟨y, ?_,hy,hm⟩
    have hc:k=0∨k=1∨k=2∨k=3∨k=4∨k=5:=by omega
    rcases hc with rfl|rfl|rfl|rfl|rfl|rfl<;>rfl
  · obtain⟨s,hs,r⟩:=h.st k hk
    refine⟨s, ?_,r⟩
    rw [←hs]
    have e':(d==k)=false:=by rw [beq_eq_false_iff_ne];omega
    have hc:k=0∨k=1∨k=2∨k=3∨k=4∨k=5:=by omega
    rcases hc with rfl|rfl|rfl|rfl|rfl|rfl<;>simp [idx,six,c7o,e']
 ok:=hl
 len:=hn
theorem V6.mono {n:Nat} {x:a0M} (h:V6 n x):V6 (n+1) x:=⟨h.st,h.ok,by have:=h.len;omega⟩
theorem c0f {x:a6} (h:j1 x) (n:Nat):((List.range n).flatMap fun(k:Nat)=>b0q x.Me (k:Int) x.Safe).length≤1000*n:=by
 have:=a0s (fun k:Nat=>b0q x.Me (k:Int) x.Safe) 1000 (fun k=>b7W h.2 _) (List.range n)
 rwa [List.length_range]at this
theorem c0W {x:a6} (h:j1 x) {k:Nat} (hk:k≤5) {c:b5} (hc:c∈b0q x.Me (k:Int) x.Safe):a2B c:=(c5X (by omega) hc).ok h.2
theorem b8B {x:a6} (h:j1 x) {C:List b5} (hn:C.length≤1000000):∃L,j4 (U1 x) (0,C)=some (6,C++L)∧(∀c,c∈L→a2B c)∧L.length≤6000:=by
 refine⟨(List.range 6).flatMap fun(k:Nat)=>b0q x.Me (k:Int) x.Safe, ?_,fun c hc=> ?_,c0f h 6⟩
 · have:=a2L (body:=U1 x) (fun n=>((n:Int),C++(List.range n).flatMap fun(k:Nat)=>b0q x.Me (k:Int) x.Safe)) 6 (by omega) (6,C++(List.range 6).flatMap fun(k:Nat)=>b0q x.Me (k:Int) x.Safe) (fun n h6=>by
    have hl:=c0f h n
    have hl2:=b7W h.2 (n:Int)
    have h1:((n:Int)<6)=True:=eq_true (by omega)
    have hc:b2S x (n:Int)=(b0q x.Me (n:Int) x.Safe,0):=c1V h.1 h.2 (by omega)
    unfold U1
    simp only [h1,decide_true,if_true,Option.bind_some,c1l,hc,List.nil_append,List.length_nil]
    rw [M9 (by rw [List.length_append];omega),M9 (by rw [List.length_append];omega),W_s (by omega),List.range_succ,List.flatMap_append,List.append_assoc]
    simp) (by simp [U1])
   simpa using this
 · obtain⟨k,hk,hc⟩:=List.mem_flatMap.1 hc
   rw [List.mem_range]at hk
   exact c0W h (by omega) hc
def OpV (d:Int) (r:a6×Int):Prop:=(r.2 !=0)=true∨((r.2 !=0)=false∧j1 r.1∧r.1.Me=d)
theorem opV {e:a6} {d:Int} (hm:e.Me=d) {r:a6×Int} (h:r.2=0→b4M e r.1):OpV d r:=by
 by_cases q:r.2=0
 · exact .inr ⟨by rw [q];rfl,(h q).1,by rw [(h q).2.1,hm]⟩
 · exact .inl (by rw [bne_iff_ne];exact q)
theorem c2L {α:Type} (l:List α) (k:Int) (h0:(l.length:Int)>0):∃z,idx l (k % (l.length:Int))=some z∧z∈l:=by
 have p1:=Int.emod_nonneg k (show(l.length:Int)≠0 by omega)
 have p2:=Int.emod_lt_of_pos k h0
 have hlt:(k % (l.length:Int)).toNat<l.length:=by omega
 have:=v8 (List.getElem?_eq_getElem hlt)
 rw [Int.toNat_of_nonneg p1]at this
 exact⟨_,this,List.getElem_mem hlt⟩
def P6 (r:Int×Int×a6):Prop:=(r.2.1 !=0)=true∨((r.2.1 !=0)=false∧(0≤r.1∧r.1<6)∧j1 r.2.2∧r.2.2.Me=r.1)
theorem opP {d:Int} {r:a6×Int} (hd:0≤d∧d<6) (h:OpV d r):P6 (d,r.2,r.1):=by
 rcases h with h|⟨h1,h2,h3⟩
 · exact .inl h
 · exact .inr ⟨h1,hd,h2,h3⟩
theorem bex {α β:Type} {o:Option α} {f:α→Option β} (P:α→Prop) {Q:β→Prop} (h:∃a,o=some a∧P a) (k:∀a,P a→∃b,f a=some b∧Q b):∃b,Option.bind o f=some b∧Q b:=by
 obtain⟨a,rfl,h⟩:=h
 exact k a h
theorem orB (p q:Bool):(if p=true then some p else some q)=some (p||q):=by cases p<;>rfl
theorem V6.idx {n:Nat} {x:a0M} (h:V6 n x) {d:Int} (hd:0≤d∧d<6):∃s,idx [x.All.1,x.All.2.1,x.All.2.2.1,x.All.2.2.2.1,x.All.2.2.2.2.1,x.All.2.2.2.2.2] d=some s∧j1 s∧s.Me=d:=h.st d (by omega)
theorem c7l {n:Nat} {x:a0M} (y:U6) (h:V6 n x) (hn:n≤100):∃x',a4k x y=some x'∧V6 (n+1) x':=by
 have hlen:=h.len
 have hd:0≤y.Depot % 6∧y.Depot % 6<6:=by omega
 obtain⟨s,hs,hv,hm⟩:=h.idx hd
 have hw:W (1+y.Value % 9)=1+y.Value % 9:=a0D (by omega)
 have eta:∀a,P6 a→∃b,(match a with|(d,e,v)=>some (d,e,v))=some b∧P6 b:=fun a ha=>⟨a,rfl,ha⟩
 unfold a4k
 rw [a4F]
 simp only [Option.bind_some]
 rw [M9 hd,hs]
 simp only [Option.bind_some]
 rw [a4U y.Kind (by omega)]
 simp only [Option.bind_some,orB]
 refine bex P6 ?_ ?_
 · split
   · rw [a4U y.Night (by omega),a4U y.Value (by omega)]
     simp only [Option.bind_some]
     rw [hw,b6L]
     exact⟨_,rfl,opP hd (opV hm a8J)⟩
   refine bex P6 ?_ eta
   split
   · obtain⟨T,to_,f,u,ha,_⟩:=c4y y
     rw [ha]
     simp only [Option.bind_some]
     rw [c3r]
     exact⟨_,rfl,opP hd (opV hm b3T)⟩
   refine bex P6 ?_ eta
   split
   · refine bex (fun r=>OpV (y.Depot % 6) (r.2,r.1)) ?_ fun r hr=>⟨_,rfl,opP hd hr⟩
     have hl:=hv.1.nloans
     split
     · rename_i h0
       have h0:(s.Now.Loans.length:Int)>0:=of_decide_eq_true h0
       rw [a4U y.Pick (by omega)]
       obtain⟨z,hz,_⟩:=c2L s.Now.Loans y.Pick h0
       simp only [Option.bind_some,hz]
       rw [a4U y.Long (by omega)]
       simp only [Option.bind_some]
       rw [b9B]
       exact⟨_,rfl,opV hm a9y⟩
     · exact⟨_,rfl, .inl rfl⟩
   refine bex P6 ?_ eta
   split
   · rw [c0F,show a7u s=(⟨s.Me,s.Now,s.Now⟩,0) from b8g hv.1 hv.2]
     exact⟨_,rfl, .inr ⟨rfl,hd,⟨hv.1,hv.1⟩,hm⟩⟩
   refine bex P6 ?_ eta
   split
   · rw [c3E,show b1D s=(⟨s.Me,s.Safe,s.Safe⟩,0) by unfold b1D;rw [if_pos hv]]
     exact⟨_,rfl, .inr ⟨rfl,hd,⟨hv.2,hv.2⟩,hm⟩⟩
   refine bex P6 ?_ eta
   split
   · rename_i h0
     have h0:(x.Calls.length:Int)>0:=of_decide_eq_true h0
     rw [a4U y.Pick (by omega)]
     obtain⟨c,hz,hc⟩:=c2L x.Calls y.Pick h0
     have hto:=(h.ok _ hc).to_
     have hto:0≤c.To∧c.To<6:=by omega
     obtain⟨z,hi,hzv,hzm⟩:=h.idx hto
     simp only [Option.bind_some,hz]
     rw [M9 hto,hi]
     simp only [Option.bind_some]
     rw [c3w]
     exact⟨_,rfl,opP hto (opV hzm fun q=>(a9c q).1)⟩
   · exact⟨_,rfl, .inl rfl⟩
 · rintro⟨d,e,v⟩ hp
   rcases hp with he|⟨he,hd,hv,hm⟩
   · simp only at he
     simp only [he,if_true]
     exact⟨_,rfl,h.mono⟩
   · simp only at he hd hv hm
     obtain⟨q,hq,_⟩:=h.idx hd
     simp only [he,Bool.false_eq_true,if_false]
     rw [M9 hd,hq]
     simp only [Option.bind_some]
     refine bex (fun _=>True) ?_ fun b _=>bex (fun l=>(∀c,c∈l→a2B c)∧l.length≤6000*(n+1)) ?_ fun l hl=>⟨_,rfl,h.set (by omega) hv hm hl.1 hl.2⟩
     · split<;>exact⟨_,rfl,trivial⟩
     · split
       · obtain⟨L,hL,l1,l2⟩:=b8B hv (C:=x.Calls) (by omega)
         rw [hL]
         exact⟨_,rfl,fun c hc=>(List.mem_append.1 hc).elim (h.ok c) (l1 c),by rw [List.length_append];omega⟩
       · exact⟨_,rfl,h.ok,by omega⟩
theorem c5x:∃x,a5f=some x∧V6 0 x:=by
 have e:a5f=some ⟨(⟨0,S0,S0⟩,⟨1,S0,S0⟩,⟨2,S0,S0⟩,⟨3,S0,S0⟩,⟨4,S0,S0⟩,⟨5,S0,S0⟩), []⟩:=by decide+kernel
 refine⟨_,e,fun d hd=> ?_,fun c hc=>(by cases hc),by simp⟩
 have hv:=vs0 hd
 refine⟨⟨d,S0,S0⟩, ?_,⟨hv,hv⟩,rfl⟩
 have hc:d=0∨d=1∨d=2∨d=3∨d=4∨d=5:=by omega
 rcases hc with rfl|rfl|rfl|rfl|rfl|rfl<;>rfl
theorem c1j (l:List U6) (hl:l.length≤9223372036854775807):∃x,a4e l 25=some x∧V6 25 x:=by
 obtain⟨x0,e0,h0⟩:=c5x
 obtain⟨e,he,n,x,rfl,hx⟩:=b1d (body:=a1F l 25) (fun st=>∃(n:Nat) (x:a0M),st=((n:Int),x)∧n≤25∧V6 n x) (fun st=>(25-st.1).toNat) (fun e=>∃(n:Int) (x:a0M),e=(n,x)∧V6 25 x) (by
  rintro _ ⟨n,x,rfl,hn,hv⟩
  have up:V6 25 x:=⟨hv.st,hv.ok,by have:=hv.len;omega⟩
  unfold a1F
  by_cases h1:n<l.length
  · have e1:((n:Int)<(l.length:Int))=True:=eq_true (by omega)
    by_cases h2:n<25
    · right
      have e2:((n:Int)<25)=True:=eq_true (by omega)
      obtain⟨x',e3,hx'⟩:=c7l l[n] hv (by omega)
      simp only [e1,e2,decide_true,if_true,v8 (List.getElem?_eq_getElem h1),Option.bind_some,e3,W_s (show n<9223372036854775807 by omega)]
      exact⟨_,rfl,⟨n+1,x',rfl,by omega,hx'⟩,by simp only;omega⟩
    · left
      have e2:((n:Int)<25)=False:=eq_false (by omega)
      exact⟨((n:Int),x),by simp only [e1,e2,decide_true,decide_false,if_true,Bool.false_eq_true,if_false],_,x,rfl,up⟩
  · left
    have e1:((n:Int)<(l.length:Int))=False:=eq_false (by omega)
    exact⟨((n:Int),x),by simp only [e1,decide_false,Bool.false_eq_true,if_false],_,x,rfl,up⟩) (0,x0) ⟨0,x0,rfl,by omega,h0⟩ (by simp only [a7j];omega)
 refine⟨x, ?_,hx⟩
 unfold a4e
 rw [e0]
 simp only [Option.bind_some]
 rw [he]
 rfl
theorem bat {α β:Type} {o:Option α} {f:α→Option β} (P:α→Prop) {y:β} (h:∃a,o=some a∧P a) (k:∀a,P a→f a=some y):Option.bind o f=some y:=by
 obtain⟨a,rfl,h⟩:=h
 exact k a h
theorem b3k (l:List U6) (c:b5) (a:a7X) (h:(l.length*72≤reachBytes∧l.length≤maxLen∧∀y:U6,y∈l→U6.G y)) (_:b5.G c) (_:a7X.G a):a2P l c a=some true:=by
 obtain⟨x,hx,hv⟩:=c1j l h.2.1
 have hlen:=hv.len
 obtain⟨s,hs,hsv,_⟩:=hv.idx (d:=a.Night % 6) (by omega)
 unfold a2P
 rw [hx]
 simp only [Option.bind_some]
 rw [a4F]
 simp only [Option.bind_some]
 rw [M9 (show 0≤a.Night % 6∧a.Night % 6<6 by omega),hs]
 simp only [Option.bind_some]
 refine bat (fun b=>b=true→(x.Calls.length:Int)>0) ?_ fun v10 h10=>bat (fun r:b5×a6=>j1 r.2) ?_ ?_
 · split
   · rename_i h0
     rw [a4U c.Kind (by omega)]
     exact⟨_,rfl,fun _=>of_decide_eq_true h0⟩
   · exact⟨_,rfl,fun h=>by cases h⟩
 · split
   · rename_i h0
     have h0:=h10 h0
     rw [a4U c.No (by omega)]
     obtain⟨d,hd,hc⟩:=c2L x.Calls c.No h0
     have hto:=(hv.ok _ hc).to_
     have hto:0≤d.To∧d.To<6:=by omega
     obtain⟨z,hz,hzv,_⟩:=hv.idx hto
     simp only [Option.bind_some,hd]
     rw [M9 hto,hz]
     exact⟨_,rfl,hzv⟩
   · exact⟨_,rfl,hsv⟩
 · rintro⟨c,e⟩ he
   have he:j1 e:=he
   have hw:a7u e=(⟨e.Me,e.Now,e.Now⟩,0):=b8g he.1 he.2
   have hf:b1D e=(⟨e.Me,e.Safe,e.Safe⟩,0):=by unfold b1D;rw [if_pos he]
   have c1:=b2h fun h=>b1T he (a8J (x:=e) (n:=a.Night) (v:=a.Value) h)
   have c2:=b2h fun h=>b1T he (b3T (x:=e) (a:=a.Deal.Thing) (b:=a.Deal.To) (c:=a.Deal.From) (d:=a.Deal.Until) h)
   have c3:=b2h fun h=>b1T he (a9y (x:=e) (o:=a.Loan.1) (n:=a.Loan.2.1) (m:=a.Loan.2.2) h)
   have c4:=b2h (n:=(a0K e c).2) (P:=E5 e (a0K e c).1=some true∧a0K (a0K e c).1 c=a0K e c∧((a0K e c).2 !=0)=false∧a5a (a0K e c).1 (a0K e c).1=some true) fun h=>by
    have q:=a9c h
    exact⟨b1T he q.1,b7J h,by rw [h];rfl,c1z _ q.1.1.sh.1 q.1.1.sh.2⟩
   have t1:=(a3K _ he.sh.1).true
   have t2:=(a3K _ he.sh.2).true
   simp only
   rw [b9e,c5c,c0M,c0c,c1Z,c4O,hw,hf]
   generalize a3D e a.Night a.Value=p at c1⊢
   generalize b1i e a.Deal.Thing a.Deal.To a.Deal.From a.Deal.Until=q at c2⊢
   generalize a5m e a.Loan.1 a.Loan.2.1 a.Loan.2.2=r at c3⊢
   generalize a0K e c=s at c4⊢
   obtain⟨p1,p2⟩:=p
   obtain⟨q1,q2⟩:=q
   obtain⟨r1,r2⟩:=r
   obtain⟨s1,s2⟩:=s
   simp only at c1 c2 c3 c4
   simp only [Option.bind_some,bne_self_eq_false,Bool.false_eq_true,if_false,t1,t2,Bool.not_true,c0c,c4f]
   rcases c1 with⟨b1,k1⟩|b1<;>rcases c2 with⟨b2,k2⟩|b2<;>rcases c3 with⟨b3,k3⟩|b3<;>rcases c4 with⟨b4,k4,k5,k6,k7⟩|b4<;>
    simp only [*,if_true,Bool.false_eq_true,if_false,Option.bind_some,Bool.not_true]
end Go.Proofs.YtlngjieodaocfaaGreatDoor
