/- What may be read at the types of the statement's parameters; plain facts. -/
import Derived.Test.YtcedmbakcchkiaaGreatDoorL2
set_option linter.unusedVariables false
set_option linter.unusedSimpArgs false
namespace Go.Proofs.YtcedmbakcchkiaaGreatDoor
open Go Go.RowKit Go.Sx
def b6.G (x:b6):Prop:=InK .i64 x.Night∧InK .i64 x.Promised∧InK .i64 x.Ballot∧InK .i64 x.Value
theorem c2v:j5 Tryz.prog 110 b6.c b6.G:=
 (j5.struct Tryz.underlying110 (s5.cons (s:=1) (j5.int Tryz.underlying3) (s5.cons (s:=1) (j5.int Tryz.underlying3) (s5.cons (s:=1) (j5.int Tryz.underlying3) (s5.last (s:=1) (j5.int Tryz.underlying3) rfl (by kernel_rfl) rfl) rfl (by kernel_rfl)) rfl (by kernel_rfl)) rfl (by kernel_rfl)) (by kernel_rfl)).iso (fun x=>(⟨x.1,x.2.1,x.2.2.1,x.2.2.2⟩:b6)) (fun _=>rfl) (fun _ h=>h)
theorem c3p:j5 Tryz.prog 22 (fun l:(List b6)=> [.lst 4 l.length (l.flatMap b6.c)]) (fun l=>(l.length*32≤reachBytes∧l.length≤maxLen∧∀y:b6,y∈l→b6.G y)):=
 j5.slice Tryz.underlying22 c2v (by kernel_rfl) (by kernel_rfl) (fun _=>rfl) (fun _=>rfl) (by decide)
def c5.G (x:c5):Prop:=InK .i64 x.Night∧InK .i64 x.Ballot∧InK .i64 x.Value∧InK .i64 x.Best∧InK .i64 x.Mask∧True
theorem c2E:j5 Tryz.prog 108 c5.c c5.G:=
 (j5.struct Tryz.underlying108 (s5.cons (s:=1) (j5.int Tryz.underlying3) (s5.cons (s:=1) (j5.int Tryz.underlying3) (s5.cons (s:=1) (j5.int Tryz.underlying3) (s5.cons (s:=1) (j5.int Tryz.underlying3) (s5.cons (s:=1) (j5.int Tryz.underlying3) (s5.last (s:=1) (j5.bool Tryz.underlying4) rfl (by kernel_rfl) rfl) rfl (by kernel_rfl)) rfl (by kernel_rfl)) rfl (by kernel_rfl)) rfl (by kernel_rfl)) rfl (by kernel_rfl)) (by kernel_rfl)).iso (fun x=>(⟨x.1,x.2.1,x.2.2.1,x.2.2.2.1,x.2.2.2.2.1,x.2.2.2.2.2⟩:c5)) (fun _=>rfl) (fun _ h=>h)
theorem c3f:j5 Tryz.prog 23 (fun l:(List c5)=> [.lst 6 l.length (l.flatMap c5.c)]) (fun l=>(l.length*48≤reachBytes∧l.length≤maxLen∧∀y:c5,y∈l→c5.G y)):=
 j5.slice Tryz.underlying23 c2E (by kernel_rfl) (by kernel_rfl) (fun _=>rfl) (fun _=>rfl) (by decide)
def b4.G (x:b4):Prop:=InK .i64 x.Night∧InK .i64 x.Ballot∧InK .i64 x.Value∧InK .i64 x.Mask
theorem c2N:j5 Tryz.prog 149 b4.c b4.G:=
 (j5.struct Tryz.underlying149 (s5.cons (s:=1) (j5.int Tryz.underlying3) (s5.cons (s:=1) (j5.int Tryz.underlying3) (s5.cons (s:=1) (j5.int Tryz.underlying3) (s5.last (s:=1) (j5.int Tryz.underlying3) rfl (by kernel_rfl) rfl) rfl (by kernel_rfl)) rfl (by kernel_rfl)) rfl (by kernel_rfl)) (by kernel_rfl)).iso (fun x=>(⟨x.1,x.2.1,x.2.2.1,x.2.2.2⟩:b4)) (fun _=>rfl) (fun _ h=>h)
theorem c4h:j5 Tryz.prog 24 (fun l:(List b4)=> [.lst 4 l.length (l.flatMap b4.c)]) (fun l=>(l.length*32≤reachBytes∧l.length≤maxLen∧∀y:b4,y∈l→b4.G y)):=
 j5.slice Tryz.underlying24 c2N (by kernel_rfl) (by kernel_rfl) (fun _=>rfl) (fun _=>rfl) (by decide)
def a7.G (x:a7):Prop:=InK .i64 x.No∧InK .i64 x.Thing∧InK .i64 x.To∧InK .i64 x.From∧InK .i64 x.Until
theorem c2x:j5 Tryz.prog 112 a7.c a7.G:=
 (j5.struct Tryz.underlying112 (s5.cons (s:=1) (j5.int Tryz.underlying3) (s5.cons (s:=1) (j5.int Tryz.underlying3) (s5.cons (s:=1) (j5.int Tryz.underlying3) (s5.cons (s:=1) (j5.int Tryz.underlying3) (s5.last (s:=1) (j5.int Tryz.underlying3) rfl (by kernel_rfl) rfl) rfl (by kernel_rfl)) rfl (by kernel_rfl)) rfl (by kernel_rfl)) rfl (by kernel_rfl)) (by kernel_rfl)).iso (fun x=>(⟨x.1,x.2.1,x.2.2.1,x.2.2.2.1,x.2.2.2.2⟩:a7)) (fun _=>rfl) (fun _ h=>h)
theorem c3a:j5 Tryz.prog 25 (fun l:(List a7)=> [.lst 5 l.length (l.flatMap a7.c)]) (fun l=>(l.length*40≤reachBytes∧l.length≤maxLen∧∀y:a7,y∈l→a7.G y)):=
 j5.slice Tryz.underlying25 c2x (by kernel_rfl) (by kernel_rfl) (fun _=>rfl) (fun _=>rfl) (by decide)
def b9.G (x:b9):Prop:=InK .i64 x.Owner∧InK .i64 x.No∧InK .i64 x.Thing∧InK .i64 x.From∧InK .i64 x.Until∧True
theorem c2H:j5 Tryz.prog 114 b9.c b9.G:=
 (j5.struct Tryz.underlying114 (s5.cons (s:=1) (j5.int Tryz.underlying3) (s5.cons (s:=1) (j5.int Tryz.underlying3) (s5.cons (s:=1) (j5.int Tryz.underlying3) (s5.cons (s:=1) (j5.int Tryz.underlying3) (s5.cons (s:=1) (j5.int Tryz.underlying3) (s5.last (s:=1) (j5.bool Tryz.underlying4) rfl (by kernel_rfl) rfl) rfl (by kernel_rfl)) rfl (by kernel_rfl)) rfl (by kernel_rfl)) rfl (by kernel_rfl)) rfl (by kernel_rfl)) (by kernel_rfl)).iso (fun x=>(⟨x.1,x.2.1,x.2.2.1,x.2.2.2.1,x.2.2.2.2.1,x.2.2.2.2.2⟩:b9)) (fun _=>rfl) (fun _ h=>h)
theorem c4x:j5 Tryz.prog 26 (fun l:(List b9)=> [.lst 6 l.length (l.flatMap b9.c)]) (fun l=>(l.length*48≤reachBytes∧l.length≤maxLen∧∀y:b9,y∈l→b9.G y)):=
 j5.slice Tryz.underlying26 c2H (by kernel_rfl) (by kernel_rfl) (fun _=>rfl) (fun _=>rfl) (by decide)
def b5.G (x:b5):Prop:=InK .i64 x.Round∧(x.Slots.length*32≤reachBytes∧x.Slots.length≤maxLen∧∀y:b6,y∈x.Slots→b6.G y)∧(x.Bids.length*48≤reachBytes∧x.Bids.length≤maxLen∧∀y:c5,y∈x.Bids→c5.G y)∧(x.Heard.length*32≤reachBytes∧x.Heard.length≤maxLen∧∀y:b4,y∈x.Heard→b4.G y)∧(x.Leases.length*40≤reachBytes∧x.Leases.length≤maxLen∧∀y:a7,y∈x.Leases→a7.G y)∧(x.Loans.length*48≤reachBytes∧x.Loans.length≤maxLen∧∀y:b9,y∈x.Loans→b9.G y)
theorem c2b:j5 Tryz.prog 28 b5.c b5.G:=
 (j5.struct Tryz.underlying28 (s5.cons (s:=1) (j5.int Tryz.underlying3) (s5.cons (s:=1) c3p (s5.cons (s:=1) c3f (s5.cons (s:=1) c4h (s5.cons (s:=1) c3a (s5.last (s:=1) c4x rfl (by kernel_rfl) rfl) rfl (by kernel_rfl)) rfl (by kernel_rfl)) rfl (by kernel_rfl)) rfl (by kernel_rfl)) rfl (by kernel_rfl)) (by kernel_rfl)).iso (fun x=>(⟨x.1,x.2.1,x.2.2.1,x.2.2.2.1,x.2.2.2.2.1,x.2.2.2.2.2⟩:b5)) (fun _=>rfl) (fun _ h=>h)
def a6.G (x:a6):Prop:=InK .i64 x.Me∧b5.G x.Now∧b5.G x.Safe
theorem c3B:j5 Tryz.prog 30 a6.c a6.G:=
 (j5.struct Tryz.underlying30 (s5.cons (s:=1) (j5.int Tryz.underlying3) (s5.cons (s:=6) c2b (s5.last (s:=6) c2b rfl (by kernel_rfl) rfl) rfl (by kernel_rfl)) rfl (by kernel_rfl)) (by kernel_rfl)).iso (fun x=>(⟨x.1,x.2.1,x.2.2⟩:a6)) (fun _=>rfl) (fun _ h=>h)
def K4.G (x:K4):Prop:=InK .i64 x.Thing∧InK .i64 x.To∧InK .i64 x.From∧InK .i64 x.Until
theorem c3j:j5 Tryz.prog 51 K4.c K4.G:=
 (j5.struct Tryz.underlying51 (s5.cons (s:=1) (j5.int Tryz.underlying3) (s5.cons (s:=1) (j5.int Tryz.underlying3) (s5.cons (s:=1) (j5.int Tryz.underlying3) (s5.last (s:=1) (j5.int Tryz.underlying3) rfl (by kernel_rfl) rfl) rfl (by kernel_rfl)) rfl (by kernel_rfl)) rfl (by kernel_rfl)) (by kernel_rfl)).iso (fun x=>(⟨x.1,x.2.1,x.2.2.1,x.2.2.2⟩:K4)) (fun _=>rfl) (fun _ h=>h)
end Go.Proofs.YtcedmbakcchkiaaGreatDoor
namespace Go.Proofs.YtcedmbakcchkiaaGreatDoor
open Go Go.Sx
theorem a2J {z:Int} (h: -9223372036854775808≤z∧z≤9223372036854775807):W z=z:=b6S h
theorem W_s {k:Nat} (h:k<9223372036854775807):W ((k:Int)+1)=((k+1:Nat):Int):=c2K h
def b0E {R:Type} (q:Nat→Option R):Nat→Nat→Sum Nat R
 |k,0=> .inl k
 |k,m+1=>match q k with|none=>b0E q (k+1) m|some r=> .inr r
theorem a4n {R:Type} {body:Int→Option (Sum Int (Sum Int R))} (n:Nat) (hn:n≤9223372036854775807) (q:Nat→Option R) (k:Nat) (hk:k≤n)
 (h:∀i,k≤i→i<n→body (i:Int)=some (match q i with|none=> .inl ((i+1:Nat):Int)|some r=> .inr (.inr r)))
 (he:body (n:Int)=some (.inr (.inl (n:Int)))):
 k6 body (k:Int)=some (match b0E q k (n-k)with| .inl j=> .inl (j:Int)| .inr r=> .inr r):=by
 have key:∀(m k N:Nat),k+m=n→m<N→(∀i,k≤i→i<n→body (i:Int)=some (match q i with|none=> .inl ((i+1:Nat):Int)|some r=> .inr (.inr r)))→
  a0D body N (k:Int)=some (match b0E q k m with| .inl j=> .inl (j:Int)| .inr r=> .inr r):=by
  intro m
  induction m with
  |zero=>
   intro k N hkm hN _
   cases N with
   |zero=>omega
   |succ N=>
    have:k=n:=by omega
    subst this
    simp only [a0D,he,b0E]
  |succ m ih=>
   intro k N hkm hN hb
   cases N with
   |zero=>omega
   |succ N=>
    simp only [a0D,hb k (Nat.le_refl _) (by omega),b0E]
    cases hq:q k with
    |none=>exact ih (k+1) N (by omega) (by omega) (fun i h1 h2=>hb i (by omega) h2)
    |some r=>rfl
 exact key (n-k) k a5g (by omega) (by unfold a5g;omega) h
theorem a5Y {R:Type} {q:Nat→Option R}:∀(m k:Nat),(∀i,k≤i→i<k+m→q i=none)→b0E q k m= .inl (k+m)
 |0,k,_=>rfl
 |m+1,k,h=>by
  simp only [b0E,h k (Nat.le_refl _) (by omega)]
  rw [a5Y m (k+1) (fun i h1 h2=>h i (by omega) (by omega))]
  congr 1;omega
theorem a8x {R:Type} {q:Nat→Option R}:∀(m k i:Nat),k≤i→i<k+m→q i≠none→∃j r,k≤j∧j<k+m∧q j=some r∧b0E q k m= .inr r
 |0,k,i,h1,h2,_=>by omega
 |m+1,k,i,h1,h2,h3=>by
  cases hq:q k with
  |some r=>exact⟨k,r,Nat.le_refl _,by omega,hq,by simp only [b0E,hq]⟩
  |none=>
   have:k≠i:=fun e=>h3 (e▸hq)
   obtain⟨j,r,a,b,c,d⟩:=a8x m (k+1) i (by omega) (by omega) h3
   exact⟨j,r,by omega,by omega,c,by simp only [b0E,hq,d]⟩
theorem b9E {body:Int→Option (Sum Int (Sum Int Bool))} (n:Nat) (hn:n≤9223372036854775807) (q:Nat→Prop) [DecidablePred q] (k:Nat) (hk:k≤n)
 (h:∀i,k≤i→i<n→body (i:Int)=some (if q i then .inl ((i+1:Nat):Int)else .inr (.inr false)))
 (he:body (n:Int)=some (.inr (.inl (n:Int)))) (ans:Bool) (hb:ans=true↔∀i,k≤i→i<n→q i):
 (k6 body (k:Int)).bind (fun e=>match e with| .inl _=>some true| .inr r=>some r)=some ans:=by
 rw [a4n n hn (fun i=>if q i then none else some false) k hk (fun i h1 h2=>by rw [h i h1 h2];by_cases hq:q i<;>simp [hq]) he]
 by_cases hall:∀i,k≤i→i<n→q i
 · rw [a5Y _ _ (fun i h1 h2=>by simp [hall i h1 (by omega)])]
   simp only [Option.bind_some,hb.2 hall]
 · have:∃i,k≤i∧i<n∧¬q i:=by
    refine Classical.byContradiction fun hn2=>hall fun i h1 h2=>Classical.byContradiction fun h3=>hn2 ⟨i,h1,h2,h3⟩
   obtain⟨i,h1,h2,h3⟩:=this
   obtain⟨j,r,a,b,c,d⟩:=a8x (q:=fun i=>if q i then none else some false) (n-k) k i h1 (by omega) (by simp [h3])
   have hr:r=false:=by
    by_cases hqj:q j
    · simp [hqj]at c
    · simpa [hqj]using c.symm
   rw [d,hr]
   have:ans=false:=by cases ans with|true=>exact absurd (hb.1 rfl) hall|false=>rfl
   simp only [Option.bind_some,this]
theorem b8b {body:Int→Option (Sum Int (Sum Int Bool))} (n:Nat) (hn:n≤9223372036854775807) (q:Nat→Prop) (k:Nat) (hk:k≤n)
 (h:∀i,k≤i→i<n→(q i∧body (i:Int)=some (.inl ((i+1:Nat):Int)))∨(¬q i∧body (i:Int)=some (.inr (.inr false))))
 (he:body (n:Int)=some (.inr (.inl (n:Int)))) (ans:Bool) (hb:ans=true↔∀i,k≤i→i<n→q i):
 (k6 body (k:Int)).bind (fun e=>match e with| .inl _=>some true| .inr r=>some r)=some ans:=by
 letI:DecidablePred q:=fun _=>Classical.propDecidable _
 exact b9E n hn q k hk (fun i h1 h2=>by rcases h i h1 h2 with⟨a,b⟩|⟨a,b⟩<;>simp only [b,a,if_true,if_false]) he ans hb
theorem b3K {α:Type} (l:List α) (hl:l.length≤9223372036854775807) (P:α→Option Bool) (p:α→Bool) (hP:∀x,x∈l→P x=some (p x)):
 (Option.bind (Option.bind (k6 (fun(v:Int)=>if(decide (v<(l.length:Int)))=true then Option.bind (idx l v) fun e=>Option.bind (P e) fun x=>if x=true then some (.inr (.inr v))else some (.inl (W (v+1)))else some (.inr (.inl v))) 0)
  fun(e:Sum Int Int)=>match e with| .inl _=>some (-1)| .inr r=>some r) fun x=>some (decide (x≥0)))=some (l.any p):=by
 have hs:=a4n (body:=fun(v:Int)=>if(decide (v<(l.length:Int)))=true then Option.bind (idx l v) fun e=>Option.bind (P e) fun x=>if x=true then some (.inr (.inr v))else some (.inl (W (v+1)))else some (.inr (.inl v)))
  l.length hl (fun i=>match l[i]? with|some x=>if p x then some (i:Int)else none|none=>none) 0 (Nat.zero_le _) (fun i _ h2=>by
   have hx:idx l (i:Int)=some l[i]:=by simp [idx,h2]
   have hlt:((i:Int)<(l.length:Int)):=by omega
   simp only [hlt,decide_true,if_true,hx,Option.bind_some,hP _ (List.getElem_mem h2),List.getElem?_eq_getElem h2]
   by_cases hp:p l[i]=true
   · simp [hp]
   · simp [hp];exact W_s (by omega)) (by simp)
 rw [show((0:Int))=((0:Nat):Int) from rfl,hs]
 by_cases hany:l.any p=true
 · rw [hany]
   obtain⟨x,hx,hpx⟩:=List.any_eq_true.1 hany
   obtain⟨i,hi,rfl⟩:=List.getElem_of_mem hx
   obtain⟨j,r,a,b,c,d⟩:=a8x (q:=fun i=>match l[i]? with|some x=>if p x then some (i:Int)else none|none=>none) (l.length-0) 0 i (Nat.zero_le _) (by omega) (by simp [List.getElem?_eq_getElem hi,hpx])
   rw [d]
   have hj:j<l.length:=by omega
   simp only [List.getElem?_eq_getElem hj]at c
   split at c
   · simp only [Option.some.injEq]at c
     subst c
     simp
   · cases c
 · rw [a5Y _ _ (fun i _ h2=>by
    have hi:i<l.length:=by omega
    simp only [List.getElem?_eq_getElem hi]
    rw [if_neg]
    intro hp
    exact hany (List.any_eq_true.2 ⟨l[i],List.getElem_mem hi,hp⟩))]
   simp [Bool.not_eq_true _▸hany]
end Go.Proofs.YtcedmbakcchkiaaGreatDoor
namespace Go.Proofs.YtcedmbakcchkiaaGreatDoor
open Go Go.Sx
open Classical
def Ans (m:Option Bool) (P:Prop):Prop:=∃b,m=some b∧(b=true↔P)
theorem Ans.eq {m:Option Bool} {P:Prop} (h:Ans m P):m=some (decide P):=by
 obtain⟨b,rfl,hb⟩:=h
 congr 1
 by_cases hp:P
 · rw [hb.2 hp];simp [hp]
 · have:b=false:=by cases b with|false=>rfl|true=>exact absurd (hb.1 rfl) hp
   rw [this];simp [hp]
theorem Ans.of {P:Prop} [Decidable P]:Ans (some (decide P)) P:=⟨_,rfl,by simp⟩
theorem Ans.ofb {b:Bool} {P:Prop} (h:b=true↔P):Ans (some b) P:=⟨b,rfl,h⟩
theorem Ans.yes {P:Prop} (h:P):Ans (some true) P:=⟨_,rfl,by simp [h]⟩
theorem Ans.no {P:Prop} (h:¬P):Ans (some false) P:=⟨_,rfl,by simp [h]⟩
theorem Ans.iff {m:Option Bool} {P Q:Prop} (h:Ans m P) (e:P↔Q):Ans m Q:=by
 obtain⟨b,hm,hb⟩:=h
 exact⟨b,hm,hb.trans e⟩
theorem Ans.id {m:Option Bool} {P:Prop} (h:Ans m P):Ans (Option.bind m fun x=>some x) P:=by
 obtain⟨b,rfl,hb⟩:=h
 exact⟨b,rfl,hb⟩
theorem Ans.not {m:Option Bool} {P:Prop} (h:Ans m P):Ans (Option.bind m fun x=>some (!x)) (¬P):=by
 obtain⟨b,rfl,hb⟩:=h
 exact⟨!b,rfl,by rw [←hb];simp⟩
theorem Ans.and {m n:Option Bool} {P Q:Prop} (h:Ans m P) (k:P→Ans n Q):Ans (Option.bind m fun x=>if x=true then n else some false) (P∧Q):=by
 obtain⟨b,rfl,hb⟩:=h
 by_cases hp:P
 · obtain⟨c,rfl,hc⟩:=k hp
   exact⟨c,by simp [hb.2 hp],by simp [hp,hc]⟩
 · have:b=false:=by cases b with|false=>rfl|true=>exact absurd (hb.1 rfl) hp
   exact⟨false,by simp [this],by simp [hp]⟩
theorem Ans.nand {m n:Option Bool} {P Q:Prop} (h:Ans m P) (k:P→Ans n Q):Ans (Option.bind m fun x=>if(!x)=true then some false else n) (P∧Q):=by
 obtain⟨b,rfl,hb⟩:=h
 by_cases hp:P
 · obtain⟨c,rfl,hc⟩:=k hp
   exact⟨c,by simp [hb.2 hp],by simp [hp,hc]⟩
 · have:b=false:=by cases b with|false=>rfl|true=>exact absurd (hb.1 rfl) hp
   exact⟨false,by simp [this],by simp [hp]⟩
theorem Ans.ite {n:Option Bool} {b:Bool} {P Q:Prop} (h:b=true↔P) (k:P→Ans n Q):Ans (if b=true then n else some false) (P∧Q):=Ans.and (m:=some b) (Ans.ofb h) k
theorem Ans.ite' {n:Option Bool} {b:Bool} {P Q:Prop} (h:b=true↔¬P) (k:P→Ans n Q):Ans (if b=true then some false else n) (P∧Q):=by
 by_cases hp:P
 · obtain⟨c,rfl,hc⟩:=k hp
   have:b=false:=by cases b with|false=>rfl|true=>exact absurd hp (h.1 rfl)
   exact⟨c,by simp [this],by simp [hp,hc]⟩
 · exact⟨false,by simp [h.2 hp],by simp [hp]⟩
def jn (i:Int) (b:Bool):Option (Sum Int (Sum Int Bool)):=if b=true then some (.inl (W (i+1)))else some (.inr (.inr false))
theorem b7Y (i:Int):(some (.inl (W (i+1))):Option (Sum Int (Sum Int Bool)))=jn i true:=rfl
theorem b7t (i:Int):(some (.inr (.inr false)):Option (Sum Int (Sum Int Bool)))=jn i false:=rfl
theorem b2h (i:Int) (a b c:Bool):(if a=true then jn i b else jn i c)=jn i ((a&&b)||(!a&&c)):=by cases a<;>simp
def Rnd (i:Int) (m:Option (Sum Int (Sum Int Bool))) (P:Prop):Prop:=∃b,m=jn i b∧(b=true↔P)
theorem Rnd.go {i:Int} {P:Prop} (h:P):Rnd i (some (.inl (W (i+1)))) P:=⟨true,rfl,by simp [h]⟩
theorem Rnd.end {i:Int} {P:Prop} (h:¬P):Rnd i (some (.inr (.inr false))) P:=⟨false,rfl,by simp [h]⟩
theorem Rnd.iff {i:Int} {m:Option (Sum Int (Sum Int Bool))} {P Q:Prop} (h:Rnd i m P) (e:P↔Q):Rnd i m Q:=by
 obtain⟨b,hm,hb⟩:=h
 exact⟨b,hm,hb.trans e⟩
theorem Rnd.nand {i:Int} {m:Option Bool} {n:Option (Sum Int (Sum Int Bool))} {P Q:Prop} (h:Ans m P) (k:P→Rnd i n Q):Rnd i (Option.bind m fun x=>if(!x)=true then some (.inr (.inr false))else n) (P∧Q):=by
 obtain⟨b,rfl,hb⟩:=h
 by_cases hp:P
 · obtain⟨c,rfl,hc⟩:=k hp
   exact⟨c,by simp [hb.2 hp],by simp [hp,hc]⟩
 · have:b=false:=by cases b with|false=>rfl|true=>exact absurd (hb.1 rfl) hp
   exact⟨false,by simp [this];rfl,by simp [hp]⟩
theorem Rnd.and {i:Int} {m:Option Bool} {n:Option (Sum Int (Sum Int Bool))} {P Q:Prop} (h:Ans m P) (k:¬P→Rnd i n Q):Rnd i (Option.bind m fun x=>if x=true then some (.inr (.inr false))else n) (¬P∧Q):=by
 obtain⟨b,rfl,hb⟩:=h
 by_cases hp:P
 · exact⟨false,by simp [hb.2 hp];rfl,by simp [hp]⟩
 · obtain⟨c,rfl,hc⟩:=k hp
   have:b=false:=by cases b with|false=>rfl|true=>exact absurd (hb.1 rfl) hp
   exact⟨c,by simp [this],by simp [hp,hc]⟩
theorem Rnd.ite {i:Int} {b:Bool} {n:Option (Sum Int (Sum Int Bool))} {P Q:Prop} (h:b=true↔¬P) (k:P→Rnd i n Q):Rnd i (if b=true then some (.inr (.inr false))else n) (P∧Q):=by
 by_cases hp:P
 · obtain⟨c,rfl,hc⟩:=k hp
   have:b=false:=by cases b with|false=>rfl|true=>exact absurd hp (h.1 rfl)
   exact⟨c,by simp [this],by simp [hp,hc]⟩
 · exact⟨false,by simp [h.2 hp];rfl,by simp [hp]⟩
theorem Rnd.get {i:Int} {α:Type} {l:List α} {j:Nat} (hj:j<l.length) {n:α→Option (Sum Int (Sum Int Bool))} {P:Prop} (h:Rnd i (n l[j]) P):Rnd i (Option.bind (idx l (j:Int)) n) P:=by
 have:Sx.idx l (j:Int)=some l[j]:=by simp [Sx.idx,hj]
 rw [this];exact h
theorem b4e {body:Int→Option (Sum Int (Sum Int Bool))} (n:Nat) (hn:n≤9223372036854775807) (q:Nat→Prop) (k:Nat) (hk:k≤n) (h:∀i:Nat,k≤i→i<n→Rnd (i:Int) (body (i:Int)) (q i))
 (he:body (n:Int)=some (.inr (.inl (n:Int)))):
 Ans ((k6 body (k:Int)).bind fun e=>match e with| .inl _=>some true| .inr r=>some r) (∀i,k≤i→i<n→q i):=by
 refine⟨decide (∀i,k≤i→i<n→q i), ?_,by simp⟩
 refine b8b n hn q k hk (fun i h1 h2=> ?_) he _ (by simp)
 obtain⟨b,hb,hq⟩:=h i h1 h2
 have hw:W ((i:Int)+1)=((i+1:Nat):Int):=W_s (by omega)
 cases b with
 |true=>exact .inl ⟨hq.1 rfl,by rw [hb];simp [jn,hw]⟩
 |false=>exact .inr ⟨fun h=>by simpa using hq.2 h,by rw [hb];rfl⟩
def Lp (m:Option (Sum Int Bool)) (P:Prop):Prop:=(P∧∃j,m=some (.inl j))∨(¬P∧m=some (.inr false))
theorem Lp.iff {m:Option (Sum Int Bool)} {P Q:Prop} (h:Lp m P) (e:P↔Q):Lp m Q:=by
 rcases h with⟨h,h'⟩|⟨h,h'⟩
 · exact .inl ⟨e.1 h,h'⟩
 · exact .inr ⟨fun q=>h (e.2 q),h'⟩
theorem Ans.loop {m:Option (Sum Int Bool)} {n:Option Bool} {P Q:Prop} (h:Lp m P) (k:P→Ans n Q):Ans (m.bind fun e=>match e with| .inl _=>n| .inr r=>some r) (P∧Q):=by
 rcases h with⟨h,j,rfl⟩|⟨h,rfl⟩
 · obtain⟨b,hb,hq⟩:=k h
   exact⟨b,hb,by simp [h,hq]⟩
 · exact⟨false,rfl,by simp [h]⟩
theorem Ans.lp {m:Option (Sum Int Bool)} {P:Prop} (h:Lp m P):Ans (m.bind fun e=>match e with| .inl _=>some true| .inr r=>some r) P:=(Ans.loop (Q:=True) h fun _=> .yes trivial).iff (by simp)
theorem a1G {body:Int→Option (Sum Int (Sum Int Bool))} (n:Nat) (hn:n≤9223372036854775807) (q:Nat→Prop) (h:∀i:Nat,i<n→Rnd (i:Int) (body (i:Int)) (q i))
 (he:body (n:Int)=some (.inr (.inl (n:Int)))):Lp (k6 body 0) (∀i,i<n→q i):=by
 by_cases hall:∀i,i<n→q i
 · have hs:=a4n (body:=body) n hn (fun _=>(none:Option Bool)) 0 (Nat.zero_le _) (fun i _ h2=>by
    obtain⟨b,hb,hq⟩:=h i h2
    rw [hb,hq.2 (hall i h2)];simp only [jn,if_true];rw [W_s (by omega)]) he
   rw [a5Y _ _ (fun _ _ _=>rfl)]at hs
   exact .inl ⟨hall,_,hs⟩
 · refine .inr ⟨hall, ?_⟩
   have h2:=b4e n hn q 0 (Nat.zero_le _) (fun i _ h2=>h i h2) he
   have h3:=h2.eq
   rw [decide_eq_false (fun h=>hall fun i hi=>h i (Nat.zero_le _) hi)]at h3
   rw [show((0:Int))=((0:Nat):Int) from rfl]
   cases hl:k6 body ((0:Nat):Int)with
   |none=>rw [hl]at h3;cases h3
   |some e=>
    rw [hl]at h3
    cases e with
    |inl x=>simp at h3
    |inr r=>simp at h3;rw [h3]
theorem Rnd.loop {j:Int} {m:Option (Sum Int Bool)} {P:Prop} (h:Lp m P):Rnd j (m.bind fun e=>match e with| .inl _=>some (.inl (W (j+1)))| .inr r=>some (.inr (.inr r))) P:=by
 rcases h with⟨h,_,rfl⟩|⟨h,rfl⟩
 · exact .go h
 · exact .end h
theorem P3 {α:Type} (l:List α) (hl:l.length≤9223372036854775807) (P:α→Option Bool) (Q:α→Prop) (hP:∀x,x∈l→Ans (P x) (Q x)):
 Ans (Option.bind (Option.bind (k6 (fun(v:Int)=>if(decide (v<(l.length:Int)))=true then Option.bind (idx l v) fun e=>Option.bind (P e) fun x=>if x=true then some (.inr (.inr v))else some (.inl (W (v+1)))else some (.inr (.inl v))) 0)
  fun(e:Sum Int Int)=>match e with| .inl _=>some (-1)| .inr r=>some r) fun x=>some (decide (x≥0))) (∃x,x∈l∧Q x):=
 ⟨_,b3K l hl P (fun x=>decide (Q x)) (fun x hx=>(hP x hx).eq),by simp⟩
theorem b0t {α:Type} {l:List α} {most:Int} {C:Option Bool} {ok:α→Prop} (hC:l.length≤9223372036854775807→Ans C (∃x,x∈l∧¬ok x)) (hm:most≤9223372036854775807):
 Ans (if(decide ((l.length:Int)≤most))=true then Option.bind C fun x=>some (!x)else some false) ((l.length:Int)≤most∧∀x,x∈l→ok x):=
 Ans.ite (by simp) fun h=>(hC (by omega)).not.iff (by simp)
def I9 {α:Type} (f:α→α→Prop) (l:List α):Prop:=∀i a b,l[i]?=some a→l[i+1]?=some b→f a b
theorem a9K {α:Type} (l:List α) (hl:l.length≤9223372036854775807) (cmp:α→α→Option Int) (c:α→α→Int) (f:α→α→Prop) (hc:∀a b,cmp a b=some (c a b)) (hf:∀a b,c a b<0↔f a b):
 Ans (Option.bind (k6 (fun(i:Int)=>if(decide (i<(l.length:Int)))=true then Option.bind (idx l (W (i-1))) fun a=>Option.bind (idx l i) fun b=>Option.bind (cmp a b) fun x=>
  if(decide (x≥0))=true then some (.inr (.inr false))else some (.inl (W (i+1)))else some (.inr (.inl i))) 1) fun(e:Sum Int Bool)=>match e with| .inl _=>some true| .inr r=>some r) (I9 f l):=by
 by_cases h0:l.length=0
 · refine⟨true, ?_,by simp;intro i a b h1 _;rw [List.getElem?_eq_none (by omega)]at h1;cases h1⟩
   have:=a4n (R:=Bool) (body:=fun(i:Int)=>if(decide (i<(l.length:Int)))=true then Option.bind (idx l (W (i-1))) fun a=>Option.bind (idx l i) fun b=>Option.bind (cmp a b) fun x=>
    if(decide (x≥0))=true then some (.inr (.inr false))else some (.inl (W (i+1)))else some (.inr (.inl i))) 1 (by omega) (fun _=>none) 1 (Nat.le_refl _) (fun i h1 h2=>by omega) (by simp [h0])
   exact(congrArg (fun o=>Option.bind o _) this).trans rfl
 · refine(b4e (body:=fun(i:Int)=>if(decide (i<(l.length:Int)))=true then Option.bind (idx l (W (i-1))) fun a=>Option.bind (idx l i) fun b=>Option.bind (cmp a b) fun x=>
    if(decide (x≥0))=true then some (.inr (.inr false))else some (.inl (W (i+1)))else some (.inr (.inl i))) l.length hl (fun i=>∀a b,l[i-1]?=some a→l[i]?=some b→f a b) 1 (by omega) (fun i h1 h2=> ?_) (by simp)).iff ?_
   · have e1:W ((i:Int)-1)=((i-1:Nat):Int):=by rw [a2J (by omega)];omega
     have e2:idx l ((i-1:Nat):Int)=some (l[i-1]'(by omega)):=by simp [idx,show i-1<l.length by omega]
     have e3:idx l ((i:Nat):Int)=some (l[i]'h2):=by simp [idx,h2]
     have hlt:((i:Int)<(l.length:Int)):=by omega
     simp only [hlt,decide_true,if_true,e1,e2,e3,Option.bind_some,hc]
     rw [List.getElem?_eq_getElem (show i-1<l.length by omega),List.getElem?_eq_getElem h2]
     refine(Rnd.ite (P:=c (l[i-1]'(by omega)) (l[i]'h2)<0) (Q:=True) (by simp) fun _=> .go trivial).iff ?_
     rw [and_true,hf]
     exact⟨fun h a b ha hb=>by cases ha;cases hb;exact h,fun h=>h _ _ rfl rfl⟩
   · constructor
     · intro h i a b ha hb'
       have:i+1<l.length:=by
        rcases Nat.lt_or_ge (i+1) l.length with h|h
        · exact h
        · rw [List.getElem?_eq_none h]at hb';cases hb'
       exact h (i+1) (by omega) this a b (by simpa using ha) hb'
     · intro h i h1 h2 a b ha hb'
       exact h (i-1) a b ha (by rw [Nat.sub_add_cancel h1];exact hb')
theorem b0f {α:Type} (l:List α) (ok:α→Prop) (f:α→α→Prop):(∀i,0≤i→i<l.length→(∀x,l[i]?=some x→ok x)∧(0<i→∀a,l[i-1]?=some a→∀b,l[i]?=some b→f a b))↔(∀x,x∈l→ok x)∧I9 f l:=by
 constructor
 · intro h
   refine⟨fun x hx=> ?_,fun i a b ha hb=> ?_⟩
   · obtain⟨i,hi,rfl⟩:=List.getElem_of_mem hx
     exact(h i (Nat.zero_le _) hi).1 _ (List.getElem?_eq_getElem hi)
   · have:i+1<l.length:=by
      rcases Nat.lt_or_ge (i+1) l.length with h|h
      · exact h
      · rw [List.getElem?_eq_none h]at hb;cases hb
     exact(h (i+1) (Nat.zero_le _) this).2 (by omega) a (by simpa using ha) b hb
 · intro⟨h1,h2⟩ i _ hi
   refine⟨fun x hx=>h1 x (List.mem_of_getElem? hx),fun h0 a ha b hb=>h2 (i-1) a b ha (by rw [Nat.sub_add_cancel h0];exact hb)⟩
theorem T0 (n lo hi:Int):Ans (e8 n lo hi) (lo≤n∧n≤hi):=Ans.ite (by simp) fun _=>Ans.ofb (by simp)
theorem a9F (n lo hi:Int):Ans (F7 n lo hi) (lo≤n∧n≤hi):=Ans.ite (by simp) fun _=>Ans.ofb (by simp)
end Go.Proofs.YtcedmbakcchkiaaGreatDoor
namespace Go.Proofs.YtcedmbakcchkiaaGreatDoor
open Go Go.Sx
open Classical
theorem a8y (n:Int):Ans (s9 n) (0≤n∧n≤5):=(T0 _ _ _).id
theorem a5Z (n:Int):Ans (m7 n) (0≤n∧n≤100000):=(T0 _ _ _).id
theorem a8K (n:Int):Ans (i0 n) (1≤n∧n≤1000000):=(T0 _ _ _).id
theorem b0r (n:Int):Ans (u0 n) (6≤n∧n≤59999):=(T0 _ _ _).id
theorem a6a (n:Int):Ans (t6 n) (1≤n∧n≤99):=(T0 _ _ _).id
theorem a1q (n:Int):Ans (e7 n) (0≤n∧n≤144001439):=(T0 _ _ _).id
theorem b6Y (n:Int):Ans (P8 n) (0≤n∧n≤63):=(T0 _ _ _).id
theorem a6Q (n:Int):Ans (Z6 n) (0≤n∧n≤5):=(a9F _ _ _).id
theorem a2B (n:Int):Ans (U1 n) (0≤n∧n≤100000):=(a9F _ _ _).id
theorem a6O (n:Int):Ans (H3 n) (1≤n∧n≤1000000):=(a9F _ _ _).id
theorem a9i (n:Int):Ans (V7 n) (6≤n∧n≤59999):=(a9F _ _ _).id
theorem a4I (n:Int):Ans (U4 n) (1≤n∧n≤99):=(a9F _ _ _).id
theorem W6 (n:Int):Ans (H5 n) (0≤n∧n≤144001439):=(a9F _ _ _).id
theorem b1U (n:Int):Ans (Y3 n) (0≤n∧n≤63):=(a9F _ _ _).id
def qr (n:Int):Bool:=(H8 n).getD false
set_option maxRecDepth 10000 in
theorem c0h:∀n:Fin 64,E1 (n.val:Int)=some (qr (n.val:Int))∧H8 (n.val:Int)=some (qr (n.val:Int)):=by decide+kernel
theorem a8p {n:Int} (h:0≤n∧n≤63):E1 n=some (qr n)∧H8 n=some (qr n):=by
 have:=c0h ⟨n.toNat,by omega⟩
 simpa [Int.toNat_of_nonneg h.1]using this
theorem a6z {n:Int} (h:0≤n):n.tmod 6=n % 6:=Int.tmod_eq_emod_of_nonneg h
def a2A (s:b6):Prop:=(0≤s.Night∧s.Night≤100000)∧(6≤s.Promised∧s.Promised≤59999)∧((s.Ballot=0∧s.Value=0)∨((6≤s.Ballot∧s.Ballot≤s.Promised)∧(1≤s.Value∧s.Value≤1000000)))
def a6q (me r:Int) (b:c5):Prop:=(0≤b.Night∧b.Night≤100000)∧(6≤b.Ballot∧b.Ballot≤6*r+me)∧b.Ballot % 6=me∧(1≤b.Value∧b.Value≤1000000)∧(0≤b.Best∧b.Best≤b.Ballot-1)∧(0≤b.Mask∧b.Mask≤63)∧b.Asked=qr b.Mask
def a2n (h:b4):Prop:=(6≤h.Ballot∧h.Ballot≤59999)∧(0≤h.Night∧h.Night≤100000)∧(1≤h.Value∧h.Value≤1000000)∧h.Mask≠0∧(0≤h.Mask∧h.Mask≤63)
def a4U (me:Int) (l:a7):Prop:=(1≤l.Thing∧l.Thing≤99)∧l.Thing % 6=me∧(0≤l.To∧l.To≤5)∧l.To≠me∧(0≤l.From∧l.From≤144001439)∧(0≤l.Until∧l.Until≤144001439)∧l.From≤l.Until
def a4B (me:Int) (l:b9):Prop:=(0≤l.Owner∧l.Owner≤5)∧l.Owner≠me∧(1≤l.No∧l.No≤40)∧(1≤l.Thing∧l.Thing≤99)∧l.Thing % 6=l.Owner∧(0≤l.From∧l.From≤144001439)∧(0≤l.Until∧l.Until≤144001439)∧l.From≤l.Until
def V1 (a b:a7):Prop:=max a.From b.From<min a.Until b.Until
def a6N (a b:b6):Prop:=a.Night<b.Night
def b1h (a b:c5):Prop:=a.Night<b.Night
def a4G (a b:b4):Prop:=a.Ballot<b.Ballot∨(a.Ballot=b.Ballot∧a.Night<b.Night)
def a7e (a b:b9):Prop:=a.Owner<b.Owner∨(a.Owner=b.Owner∧a.No<b.No)
def a9o {α:Type} (f:α→α→Prop) (l:List α):Prop:=∀(i:Nat) x,l[i]?=some x→∀y,y∈l.take i→¬f y x
structure a5n (me:Int) (s:b5):Prop where
 dep:0≤me∧me≤5
 round:0≤s.Round∧s.Round≤9999
 nslots:(s.Slots.length:Int)≤12
 slots:∀x,x∈s.Slots→a2A x
 nbids:(s.Bids.length:Int)≤12
 bids:∀x,x∈s.Bids→a6q me s.Round x
 nheard:(s.Heard.length:Int)≤60
 heard:∀x,x∈s.Heard→a2n x
 nleases:(s.Leases.length:Int)≤40
 leases:∀x,x∈s.Leases→a4U me x
 nloans:(s.Loans.length:Int)≤60
 loans:∀x,x∈s.Loans→a4B me x
 rslots:I9 a6N s.Slots
 rbids:I9 b1h s.Bids
 rheard:I9 a4G s.Heard
 rloans:I9 a7e s.Loans
 ballots:a9o (fun a b=>a.Ballot=b.Ballot) s.Bids
 nos:∀(i:Nat) x,s.Leases[i]?=some x→x.No=(i:Int)+1
 meets:a9o (fun a b=>a.Thing=b.Thing∧V1 a b) s.Leases
theorem c0I (s:b6):Ans (Z9 s) (a2A s):=by
 have e1:=(a5Z s.Night).eq
 have e2:=(b0r s.Promised).eq
 have e3:=(a8K s.Value).eq
 have e4:=(T0 s.Ballot 6 s.Promised).eq
 unfold Z9
 simp only [e1,e2,e3,e4,Option.bind_some]
 refine⟨decide (a2A s), ?_,by simp⟩
 unfold a2A
 by_cases h1:s.Ballot=0<;>by_cases h2:s.Value=0<;>by_cases h3:(0≤s.Night∧s.Night≤100000)<;>by_cases h4:(6≤s.Promised∧s.Promised≤59999)<;>by_cases h5:(6≤s.Ballot∧s.Ballot≤s.Promised)<;>simp [h1,h2,h3,h4,h5]<;>omega
theorem b4Q (f u:Int):Ans (N4 f u) ((0≤f∧f≤144001439)∧(0≤u∧u≤144001439)∧f≤u):=
 Ans.and (a1q f) fun _=>Ans.and (a1q u) fun _=> .of
theorem c3q {me:Int} {s:b5} (hm:0≤me∧me≤5) (hr:0≤s.Round∧s.Round≤9999) (b:c5):Ans (S2 b s me) (a6q me s.Round b):=by
 have w:W (W (6*s.Round)+me)=6*s.Round+me:=by rw [a2J (z:=6*s.Round) (by omega),a2J (by omega)]
 unfold S2
 rw [w]
 refine Ans.and (a5Z _) fun h1=>Ans.and (T0 _ _ _) fun h2=> ?_
 rw [a2J (z:=b.Ballot-1) (by omega)]
 show Ans (if(b.Ballot.tmod 6==me)=true then _ else some false) _
 refine Ans.ite (by rw [a6z (by omega)];simp) fun h3=>Ans.and (a8K _) fun h4=>Ans.and (T0 _ _ _) fun h5=>Ans.and (b6Y _) fun h6=> ?_
 rw [(a8p h6).1]
 exact Ans.ofb (by simp)
theorem c1i (h:b4):Ans (a0m h) (a2n h):=
 Ans.and (b0r _) fun _=>Ans.and (a5Z _) fun _=>Ans.and (a8K _) fun _=>Ans.ite (by simp) fun _=>(b6Y _).id
theorem c1m (me:Int) (l:a7):Ans (S0 l me) (a4U me l):=by
 unfold S0
 refine Ans.and (a6a _) fun h1=> ?_
 show Ans (if(l.Thing.tmod 6==me)=true then _ else some false) _
 exact Ans.ite (by rw [a6z (by omega)];simp) fun h3=>Ans.and (a8y _) fun _=>Ans.ite (by simp) fun _=>(b4Q _ _).id
theorem c2o (me:Int) (l:b9):Ans (R3 l me) (a4B me l):=by
 unfold R3
 refine Ans.and (a8y _) fun _=>Ans.ite (by simp) fun _=>Ans.and (T0 _ _ _) fun _=>Ans.and (a6a _) fun h1=> ?_
 show Ans (if(l.Thing.tmod 6==l.Owner)=true then _ else some false) _
 exact Ans.ite (by rw [a6z (by omega)];simp) fun h3=>(b4Q _ _).id
theorem c1V (l:List b6):Ans (E5 l 12) ((l.length:Int)≤12∧∀x,x∈l→a2A x):=
 b0t (fun hl=>P3 l hl D7 _ fun x _=>(c0I x).not) (by omega)
theorem c2w {me:Int} {s:b5} (hm:0≤me∧me≤5) (hr:0≤s.Round∧s.Round≤9999) (l:List c5):Ans (D6 l 12 s me) ((l.length:Int)≤12∧∀x,x∈l→a6q me s.Round x):=
 b0t (fun hl=>P3 l hl (fun x=>B5 x s me) _ fun x _=>(c3q hm hr x).not) (by omega)
theorem b9W (l:List b4):Ans (B3 l 60) ((l.length:Int)≤60∧∀x,x∈l→a2n x):=
 b0t (fun hl=>P3 l hl z6 _ fun x _=>(c1i x).not) (by omega)
theorem b8U (me:Int) (l:List a7):Ans (B7 l 40 me) ((l.length:Int)≤40∧∀x,x∈l→a4U me x):=
 b0t (fun hl=>P3 l hl (fun x=>y9 x me) _ fun x _=>(c1m me x).not) (by omega)
theorem c1K (me:Int) (l:List b9):Ans (C6 l 60 me) ((l.length:Int)≤60∧∀x,x∈l→a4B me x):=
 b0t (fun hl=>P3 l hl (fun x=>A6 x me) _ fun x _=>(c2o me x).not) (by omega)
def a3w (x y:Int):Int:=if x<y then-1 else if x>y then 1 else 0
theorem b3h (x y:Int):D2 x y=some (a3w x y):=by
 unfold a3w
 simp only [D2,Z7,Option.bind_some,bne_self_eq_false,if_false]
 by_cases h1:x<y<;>by_cases h2:x>y<;>simp [h1,h2]
theorem X5 {x y:Int}:a3w x y<0↔x<y:=by
 unfold a3w;split
 · simp;assumption
 · split<;>simp<;>omega
theorem a2k {x y:Int}:a3w x y=0↔x=y:=by
 unfold a3w;split
 · simp;omega
 · split<;>simp<;>omega
def b8w (a b c d:Int):Int:=if a3w a b=0 then a3w c d else a3w a b
theorem b7f {a b c d:Int}:b8w a b c d<0↔a<b∨(a=b∧c<d):=by
 unfold b8w
 split
 · rename_i h;rw [a2k]at h;rw [X5];omega
 · rename_i h;rw [a2k]at h;rw [X5];omega
theorem c1X (a b:Int):a1e [a,b]=some (if a=0 then b else a):=by
 have hs:=a4n (R:=Int) (body:=S3 [a,b]) 2 (by omega) (fun i=>if i=0 then(if a=0 then none else some a)else(if b=0 then none else some b)) 0 (Nat.zero_le _) (fun i _ h2=>by
  have:i=0∨i=1:=by omega
  unfold S3
  rcases this with rfl|rfl
  · by_cases h:a=0<;>simp [idx,h];exact W_s (by omega)
  · by_cases h:b=0<;>simp [idx,h];exact W_s (by omega)) (by simp [S3])
 unfold a1e
 rw [show((0:Int))=((0:Nat):Int) from rfl,hs]
 by_cases h:a=0<;>by_cases h':b=0<;>simp [b0E,h,h']
theorem a9I (a b:b6):F5 a b=some (a3w a.Night b.Night):=by simp only [F5,b3h,Option.bind_some]
theorem b0k (a b:c5):G8 a b=some (a3w a.Night b.Night):=by simp only [G8,b3h,Option.bind_some]
theorem a9J (a b:b4):F3 a b=some (b8w a.Ballot b.Ballot a.Night b.Night):=by simp only [F3,b3h,Option.bind_some,c1X,b8w]
theorem a9z (a b:b9):F4 a b=some (b8w a.Owner b.Owner a.No b.No):=by simp only [F4,b3h,Option.bind_some,c1X,b8w]
theorem c0q (l:List b6) (hl:l.length≤9223372036854775807):Ans (y5 l) (I9 a6N l):=a9K l hl _ _ _ a9I fun _ _=>X5
theorem c1Q (l:List c5) (hl:l.length≤9223372036854775807):Ans (A5 l) (I9 b1h l):=a9K l hl _ _ _ b0k fun _ _=>X5
theorem b9a (l:List b4) (hl:l.length≤9223372036854775807):Ans (w3 l) (I9 a4G l):=a9K l hl _ _ _ a9J fun _ _=>b7f
theorem b8Q (l:List b9) (hl:l.length≤9223372036854775807):Ans (w8 l) (I9 a7e l):=a9K l hl _ _ _ a9z fun _ _=>b7f
theorem b9Q (a b:Int):(if b>a then b else a)=max a b:=by split<;>omega
theorem c0i (a b:Int):(if b<a then b else a)=min a b:=by split<;>omega
theorem b8N (a b:a7):Ans (Z5 a b) (V1 a b):=by
 unfold Z5 V1
 rw [b9Q,c0i];exact .of
theorem c3Q {α:Type} (l:List α) (k:Nat):sub l 0 k=l.take k:=by simp [sub]
theorem b8g (s:b5) (hl:s.Bids.length≤9223372036854775807):Lp (k6 (K2 s) 0) (a9o (fun a b=>a.Ballot=b.Ballot) s.Bids):=by
 refine(a1G s.Bids.length hl (fun i=>∀x,s.Bids[i]?=some x→∀y,y∈s.Bids.take i→¬y.Ballot=x.Ballot) (fun i h2=> ?_) (by simp [K2])).iff ?_
 · have hlt:((i:Int)<(s.Bids.length:Int)):=by omega
   have hg:0≤(i:Int)∧(i:Int)≤(s.Bids.length:Int):=by omega
   unfold K2
   simp only [hlt,decide_true,if_true]
   refine Rnd.get h2 ?_
   simp only [gd,hg,and_self,if_true,Option.bind_some,c3Q,Int.toNat_natCast]
   refine(Rnd.and (P3 _ (by simp;omega) (fun x=>a0j x s.Bids[i]) (fun y=>y.Ballot=s.Bids[i].Ballot) fun x _=>Ans.ofb (by simp)) fun _=> .go trivial).iff ?_
   rw [List.getElem?_eq_getElem h2]
   simp
 · exact⟨fun h i x hx=>h i ((List.getElem?_eq_some_iff.1 hx).1) x hx,fun h i _=>h i⟩
theorem c1R (s:b5) (hl:s.Leases.length≤9223372036854775806):Lp (k6 (K3 s) 0) ((∀(i:Nat) x,s.Leases[i]?=some x→x.No=(i:Int)+1)∧a9o (fun a b=>a.Thing=b.Thing∧V1 a b) s.Leases):=by
 refine(a1G s.Leases.length (by omega) (fun i=>∀x,s.Leases[i]?=some x→x.No=(i:Int)+1∧∀y,y∈s.Leases.take i→¬(y.Thing=x.Thing∧V1 y x)) (fun i h2=> ?_) (by simp [K3])).iff ?_
 · have hlt:((i:Int)<(s.Leases.length:Int)):=by omega
   have hg:0≤(i:Int)∧(i:Int)≤(s.Leases.length:Int):=by omega
   unfold K3
   simp only [hlt,decide_true,if_true]
   refine Rnd.get h2 ?_
   refine(Rnd.ite (P:=s.Leases[i].No=(i:Int)+1) (Q:=∀y,y∈s.Leases.take i→¬(y.Thing=s.Leases[i].Thing∧V1 y s.Leases[i])) (by rw [a2J (by omega)];simp) fun _=> ?_).iff (Q:=∀x,s.Leases[i]?=some x→x.No=(i:Int)+1∧∀y,y∈s.Leases.take i→¬(y.Thing=x.Thing∧V1 y x)) ?_
   · simp only [gd,hg,and_self,if_true,Option.bind_some,c3Q,Int.toNat_natCast]
     refine(Rnd.and (P3 _ (by simp;omega) (fun x=>a0k x s.Leases[i]) (fun y=>y.Thing=s.Leases[i].Thing∧V1 y s.Leases[i]) fun x _=>Ans.ite (by simp) fun _=>(b8N _ _).id) fun _=> .go trivial).iff ?_
     simp
   · rw [List.getElem?_eq_getElem h2]
     simp
 · constructor
   · intro h
     exact⟨fun i x hx=>(h i ((List.getElem?_eq_some_iff.1 hx).1) x hx).1,fun i x hx=>(h i ((List.getElem?_eq_some_iff.1 hx).1) x hx).2⟩
   · exact fun h i _ x hx=>⟨h.1 i x hx,h.2 i x hx⟩
theorem b0o {me:Int} {s:b5}:a5n me s↔(0≤me∧me≤5)∧(0≤s.Round∧s.Round≤9999)∧((s.Slots.length:Int)≤12∧∀x,x∈s.Slots→a2A x)∧((s.Bids.length:Int)≤12∧∀x,x∈s.Bids→a6q me s.Round x)∧((s.Heard.length:Int)≤60∧∀x,x∈s.Heard→a2n x)∧((s.Leases.length:Int)≤40∧∀x,x∈s.Leases→a4U me x)∧((s.Loans.length:Int)≤60∧∀x,x∈s.Loans→a4B me x)∧I9 a6N s.Slots∧I9 b1h s.Bids∧I9 a4G s.Heard∧I9 a7e s.Loans∧a9o (fun a b=>a.Ballot=b.Ballot) s.Bids∧((∀(i:Nat) x,s.Leases[i]?=some x→x.No=(i:Int)+1)∧a9o (fun a b=>a.Thing=b.Thing∧V1 a b) s.Leases):=by
 constructor
 · rintro⟨a,b,c1,c2,d1,d2,e1,e2,f1,f2,g1,g2,h1,h2,h3,h4,h5,h6,h7⟩
   exact⟨a,b,⟨c1,c2⟩,⟨d1,d2⟩,⟨e1,e2⟩,⟨f1,f2⟩,⟨g1,g2⟩,h1,h2,h3,h4,h5,h6,h7⟩
 · rintro⟨a,b,⟨c1,c2⟩,⟨d1,d2⟩,⟨e1,e2⟩,⟨f1,f2⟩,⟨g1,g2⟩,h1,h2,h3,h4,h5,h6,h7⟩
   exact⟨a,b,c1,c2,d1,d2,e1,e2,f1,f2,g1,g2,h1,h2,h3,h4,h5,h6,h7⟩
theorem b2N (me:Int) (s:b5):Ans (L4 me s) (a5n me s):=by
 refine Ans.iff ?_ b0o.symm
 unfold L4
 exact Ans.nand (a8y _) fun hm=>Ans.nand (T0 _ _ _) fun hr=>Ans.nand (c1V _) fun h1=>Ans.nand (c2w hm hr _) fun h2=>Ans.nand (b9W _) fun h3=>Ans.nand (b8U _ _) fun h4=>Ans.nand (c1K _ _) fun h5=>
  Ans.nand (c0q _ (by omega)) fun _=>Ans.nand (c1Q _ (by omega)) fun _=>Ans.nand (b9a _ (by omega)) fun _=>Ans.nand (b8Q _ (by omega)) fun _=>Ans.loop (b8g s (by omega)) fun _=>Ans.lp (c1R s (by omega))
end Go.Proofs.YtcedmbakcchkiaaGreatDoor
namespace Go.Proofs.YtcedmbakcchkiaaGreatDoor
open Go Go.Sx
open Classical
theorem b9A (n:Int):a3R n 6=some (n % 6):=by
 unfold a3R
 simp only [gd,ne_eq,show¬(6:Int)=0 by omega,not_false_eq_true,if_true,Option.some.injEq]
 have h3:=Int.tmod_eq_emod (a:=n) (b:=6)
 have h1: -6<n.tmod 6∧n.tmod 6<6∧(n.tmod 6=n % 6∨n.tmod 6=n % 6-6):=by
  rw [h3];split<;>simp<;>omega
 rw [a2J (by omega),a6z (by omega)]
 omega
theorem b6w (m:Int):∃b,H8 m=some b:=by
 obtain⟨e,he,n,d,rfl⟩:=a8B (body:=a0e m) (fun st=>∃(n:Nat) (d:Nat),st=((n:Int),(d:Int))∧n≤d∧d≤6) (fun st=>(6-st.2).toNat) (fun st=>∃n d:Int,st=(n,d)) (by
  rintro st ⟨n,d,rfl,h1,h2⟩
  unfold a0e a8n
  by_cases h:(d:Int)<6
  · right
    have hd:(0:Int)≤d:=by omega
    simp only [h,decide_true,if_true,gd,hd,Option.bind_some]
    split
    · exact⟨_,rfl,⟨n+1,d+1,by rw [W_s (by omega),W_s (by omega)],by omega,by omega⟩,by simp only;rw [W_s (by omega)];omega⟩
    · exact⟨_,rfl,⟨n,d+1,by rw [W_s (by omega)],by omega,by omega⟩,by simp only;rw [W_s (by omega)];omega⟩
  · left
    exact⟨((n:Int),(d:Int)),by simp only [h,decide_false,Bool.false_eq_true,if_false],_,_,rfl⟩) (0,0) ⟨0,0,rfl,by omega,by omega⟩ (by simp [a5g])
 unfold H8
 rw [he]
 exact⟨_,rfl⟩
theorem a6H (m:Int):H8 m=some (qr m):=by
 obtain⟨b,hb⟩:=b6w m
 rw [hb,qr,hb];rfl
theorem a9P {i:Nat} (h:0<i) (h2:i<9223372036854775807):W ((i:Int)-1)=((i-1:Nat):Int):=by rw [a2J (by omega)];omega
theorem M4 {α:Type} {l:List α} {i:Nat} {x:α} (h:l[i]?=some x):idx l (i:Int)=some x:=by simp [idx,h]
theorem a4f {α:Type} {l:List α} {i:Nat} (h:i<l.length):∃x,l[i]?=some x:=⟨_,List.getElem?_eq_getElem h⟩
theorem b3w {α:Type} {l:List α} {i:Nat} {m:Option (Sum Int (Sum Int Bool))} {ok:α→Prop} {f:α→α→Prop} (h:i<l.length) (k:∀x,l[i]?=some x→Rnd i m (ok x∧(0<i→∀y,l[i-1]?=some y→f y x))):
 Rnd (i:Int) m ((∀x,l[i]?=some x→ok x)∧(0<i→∀a,l[i-1]?=some a→∀b,l[i]?=some b→f a b)):=by
 obtain⟨x,hx⟩:=a4f h
 refine(k x hx).iff ?_
 rw [hx]
 simp
theorem c1O (l:List b6) (i:Nat) (h:i<l.length) (hl:l.length≤12):Rnd (i:Int) (O1 l i) ((∀x,l[i]?=some x→a2A x)∧(0<i→∀a,l[i-1]?=some a→∀b,l[i]?=some b→a6N a b)):=by
 refine b3w h fun x hx=> ?_
 have hlt:((i:Int)<(l.length:Int)):=by omega
 have e1:=(a2B x.Night).eq
 have e2:=(a9i x.Promised).eq
 have e3:=(a6O x.Value).eq
 have e4:=(a9F x.Ballot 6 x.Promised).eq
 unfold O1
 simp only [hlt,decide_true,if_true,M4 hx,Option.bind_some,e1,e2,e3,e4]
 by_cases h0:0<i
 · obtain⟨y,hy⟩:=a4f (l:=l) (i:=i-1) (by omega)
   have h00:(i:Int)>0:=by omega
   simp only [h00,decide_true,if_true,a9P h0 (by omega),M4 hy,hy,Option.bind_some,b7Y,b7t (i:Int),b2h,h0,true_imp_iff,Option.some.injEq,forall_eq']
   refine⟨_,rfl, ?_⟩
   simp only [a2A,a6N,Bool.or_eq_true,Bool.and_eq_true,Bool.not_eq_true',decide_eq_true_eq,decide_eq_false_iff_not,beq_iff_eq,Bool.not_not,beq_eq_false_iff_ne,ne_eq,Bool.and_false,Bool.and_true,Bool.false_or,Bool.or_false,Bool.false_eq_true]
   omega
 · have h00:¬((i:Int)>0):=by omega
   simp only [h00,decide_false,Bool.false_eq_true,if_false,b7Y,b7t (i:Int),b2h,h0,false_imp_iff,and_true]
   refine⟨_,rfl, ?_⟩
   simp only [a2A,Bool.or_eq_true,Bool.and_eq_true,Bool.not_eq_true',decide_eq_true_eq,decide_eq_false_iff_not,beq_iff_eq,Bool.not_not,beq_eq_false_iff_ne,ne_eq,Bool.and_false,Bool.and_true,Bool.false_or,Bool.or_false,Bool.false_eq_true]
   omega
theorem c0D (l:List b4) (i:Nat) (h:i<l.length) (hl:l.length≤60):Rnd (i:Int) (N5 l i) ((∀x,l[i]?=some x→a2n x)∧(0<i→∀a,l[i-1]?=some a→∀b,l[i]?=some b→a4G a b)):=by
 refine b3w h fun x hx=> ?_
 have hlt:((i:Int)<(l.length:Int)):=by omega
 have e1:=(a2B x.Night).eq
 have e2:=(a9i x.Ballot).eq
 have e3:=(a6O x.Value).eq
 have e4:=(b1U x.Mask).eq
 unfold N5
 simp only [hlt,decide_true,if_true,M4 hx,Option.bind_some,e1,e2,e3,e4]
 by_cases h0:0<i
 · obtain⟨y,hy⟩:=a4f (l:=l) (i:=i-1) (by omega)
   have h00:(i:Int)>0:=by omega
   simp only [h00,decide_true,if_true,a9P h0 (by omega),M4 hy,hy,Option.bind_some,b7Y,b7t (i:Int),b2h,h0,true_imp_iff,Option.some.injEq,forall_eq']
   refine⟨_,rfl, ?_⟩
   simp only [a2n,a4G,Bool.or_eq_true,Bool.and_eq_true,Bool.not_eq_true',decide_eq_true_eq,decide_eq_false_iff_not,beq_iff_eq,Bool.not_not,beq_eq_false_iff_ne,ne_eq,Bool.and_false,Bool.and_true,Bool.false_or,Bool.or_false,Bool.false_eq_true]
   omega
 · have h00:¬((i:Int)>0):=by omega
   simp only [h00,decide_false,Bool.false_eq_true,if_false,b7Y,b7t (i:Int),b2h,h0,false_imp_iff,and_true]
   refine⟨_,rfl, ?_⟩
   simp only [a2n,Bool.or_eq_true,Bool.and_eq_true,Bool.not_eq_true',decide_eq_true_eq,decide_eq_false_iff_not,beq_iff_eq,Bool.not_not,beq_eq_false_iff_ne,ne_eq,Bool.and_false,Bool.and_true,Bool.false_or,Bool.or_false,Bool.false_eq_true]
   omega
theorem c1b (l:List b9) (me:Int) (i:Nat) (h:i<l.length) (hl:l.length≤60):Rnd (i:Int) (N7 l me i) ((∀x,l[i]?=some x→a4B me x)∧(0<i→∀a,l[i-1]?=some a→∀b,l[i]?=some b→a7e a b)):=by
 refine b3w h fun x hx=> ?_
 have hlt:((i:Int)<(l.length:Int)):=by omega
 have e1:=(a6Q x.Owner).eq
 have e2:=(a9F x.No 1 40).eq
 have e3:=(a4I x.Thing).eq
 have e4:=(W6 x.From).eq
 have e5:=(W6 x.Until).eq
 have et:1≤x.Thing∧x.Thing≤99→x.Thing.tmod 6=x.Thing % 6:=fun h=>a6z (by omega)
 unfold N7
 simp only [hlt,decide_true,if_true,M4 hx,Option.bind_some,e1,e2,e3,e4,e5]
 generalize x.Thing.tmod 6=tm at et⊢
 by_cases h0:0<i
 · obtain⟨y,hy⟩:=a4f (l:=l) (i:=i-1) (by omega)
   have h00:(i:Int)>0:=by omega
   simp only [h00,decide_true,if_true,a9P h0 (by omega),M4 hy,hy,Option.bind_some,b7Y,b7t (i:Int),b2h,h0,true_imp_iff,Option.some.injEq,forall_eq']
   refine⟨_,rfl, ?_⟩
   simp only [a4B,a7e,Bool.or_eq_true,Bool.and_eq_true,Bool.not_eq_true',decide_eq_true_eq,decide_eq_false_iff_not,beq_iff_eq,Bool.not_not,beq_eq_false_iff_ne,ne_eq,Bool.and_false,Bool.and_true,Bool.false_or,Bool.or_false,Bool.false_eq_true,bne_iff_ne,bne_eq_false_iff_eq]
   omega
 · have h00:¬((i:Int)>0):=by omega
   simp only [h00,decide_false,Bool.false_eq_true,if_false,b7Y,b7t (i:Int),b2h,h0,false_imp_iff,and_true]
   refine⟨_,rfl, ?_⟩
   simp only [a4B,Bool.or_eq_true,Bool.and_eq_true,Bool.not_eq_true',decide_eq_true_eq,decide_eq_false_iff_not,beq_iff_eq,Bool.not_not,beq_eq_false_iff_ne,ne_eq,Bool.and_false,Bool.and_true,Bool.false_or,Bool.or_false,Bool.false_eq_true,bne_iff_ne,bne_eq_false_iff_eq]
   omega
theorem c0P (l:List c5) (i:Nat) (h:i<l.length) (hl:l.length≤12) (x:c5):Lp (k6 (G4 l i x) 0) (∀y,y∈l.take i→¬y.Ballot=x.Ballot):=by
 refine(a1G i (by omega) (fun k=>∀y,l[k]?=some y→¬y.Ballot=x.Ballot) (fun k hk=> ?_) (by simp [G4])).iff ?_
 · obtain⟨y,hy⟩:=a4f (l:=l) (i:=k) (by omega)
   have hlt:((k:Int)<(i:Int)):=by omega
   unfold G4
   simp only [hlt,decide_true,if_true,M4 hy,Option.bind_some,hy,Option.some.injEq,forall_eq']
   exact(Rnd.ite (P:=¬y.Ballot=x.Ballot) (by simp) fun _=> .go trivial).iff (by simp)
 · constructor
   · intro h' y hy
     obtain⟨k,hk,rfl⟩:=List.mem_take_iff_getElem.1 hy
     exact h' k (by omega) _ (List.getElem?_eq_getElem _)
   · intro h' k hk y hy
     exact h' y (List.mem_take_iff_getElem.2 ⟨k,by omega,(List.getElem?_eq_some_iff.1 hy).2⟩)
theorem b6W (a b:a7):Ans (a0p a b) (a.Thing=b.Thing∧V1 a b):=by
 unfold a0p V1
 rw [b9Q,c0i]
 exact Ans.ite (by simp) fun _=> .of
theorem b7L (l:List a7) (i:Nat) (h:i<l.length) (hl:l.length≤40) (x:a7):Lp (k6 (M5 l i x) 0) (∀y,y∈l.take i→¬(y.Thing=x.Thing∧V1 y x)):=by
 refine(a1G i (by omega) (fun k=>∀y,l[k]?=some y→¬(y.Thing=x.Thing∧V1 y x)) (fun k hk=> ?_) (by simp [M5])).iff ?_
 · obtain⟨y,hy⟩:=a4f (l:=l) (i:=k) (by omega)
   have hlt:((k:Int)<(i:Int)):=by omega
   unfold M5
   simp only [hlt,decide_true,if_true,M4 hy,Option.bind_some,hy,Option.some.injEq,forall_eq']
   exact(Rnd.and (b6W y x) fun _=> .go trivial).iff (by simp)
 · constructor
   · intro h' y hy
     obtain⟨k,hk,rfl⟩:=List.mem_take_iff_getElem.1 hy
     exact h' k (by omega) _ (List.getElem?_eq_getElem _)
   · intro h' k hk y hy
     exact h' y (List.mem_take_iff_getElem.2 ⟨k,by omega,(List.getElem?_eq_some_iff.1 hy).2⟩)
theorem c2t (l:List c5) (me r:Int) (hm:0≤me∧me≤5) (hr:0≤r∧r≤9999) (i:Nat) (h:i<l.length) (hl:l.length≤12):Rnd (i:Int) (Q5 l me r i) ((∀x,l[i]?=some x→a6q me r x∧∀y,y∈l.take i→¬y.Ballot=x.Ballot)∧(0<i→∀a,l[i-1]?=some a→∀b,l[i]?=some b→b1h a b)):=by
 refine b3w (ok:=fun x=>a6q me r x∧∀y,y∈l.take i→¬y.Ballot=x.Ballot) h fun x hx=> ?_
 have hlt:((i:Int)<(l.length:Int)):=by omega
 have w1:W (W (6*r)+me)=6*r+me:=by rw [a2J (z:=6*r) (by omega),a2J (by omega)]
 have w2:W (6+me)=6+me:=a2J (by omega)
 have hlp:=c0P l i h hl x
 unfold Q5
 simp only [hlt,decide_true,if_true]
 simp only [M4 hx,Option.bind_some,w1,w2,b9A,a6H]
 have tail:Rnd (i:Int) (Option.bind (H3 x.Value) fun x154=>if(!x154)=true then some (.inr (.inr false))else Option.bind (F7 x.Ballot (6+me) (6*r+me)) fun x157=>if(!x157)=true then some (.inr (.inr false))else
  if(x.Ballot % 6 !=me)=true then some (.inr (.inr false))else Option.bind (F7 x.Best 0 (W (x.Ballot-1))) fun x163=>if(!x163)=true then some (.inr (.inr false))else Option.bind (Y3 x.Mask) fun x166=>if(!x166)=true then some (.inr (.inr false))else
  if(!(x.Asked==qr x.Mask))=true then some (.inr (.inr false))else Option.bind (k6 (G4 l i x) 0) fun e=>match e with| .inl _=>some (.inl (W ((i:Int)+1)))| .inr r=>some (.inr (.inr r)))
  ((1≤x.Value∧x.Value≤1000000)∧(6+me≤x.Ballot∧x.Ballot≤6*r+me)∧x.Ballot % 6=me∧(0≤x.Best∧x.Best≤x.Ballot-1)∧(0≤x.Mask∧x.Mask≤63)∧x.Asked=qr x.Mask∧∀y,y∈l.take i→¬y.Ballot=x.Ballot):=by
  refine Rnd.nand (a6O _) fun h1=>Rnd.nand (a9F _ _ _) fun h2=>Rnd.ite (by simp) fun h3=> ?_
  rw [a2J (z:=x.Ballot-1) (by omega)]
  exact Rnd.nand (a9F _ _ _) fun h4=>Rnd.nand (b1U _) fun h5=>Rnd.ite (by simp) fun h6=>Rnd.loop hlp
 by_cases h0:0<i
 · obtain⟨y,hy⟩:=a4f (l:=l) (i:=i-1) (by omega)
   have h00:(i:Int)>0:=by omega
   simp only [h00,decide_true,if_true,a9P h0 (by omega),M4 hy,hy,Option.bind_some,h0,true_imp_iff,Option.some.injEq,forall_eq']
   refine(Rnd.nand (a2B _) fun h1=>Rnd.ite (P:=y.Night<x.Night) (by simp) fun h2=>tail).iff ?_
   unfold a6q b1h
   constructor
   · rintro⟨a,b,c,d,e,f,g,h,k⟩;exact⟨⟨⟨a,by omega,e,c,f,g,h⟩,k⟩,b⟩
   · rintro⟨⟨⟨a,b,c,d,e,f,g⟩,k⟩,m⟩;exact⟨a,m,d,by omega,c,e,f,g,k⟩
 · have h00:¬((i:Int)>0):=by omega
   simp only [h00,decide_false,Bool.false_eq_true,if_false,h0,false_imp_iff,and_true]
   refine(Rnd.nand (a2B _) fun h1=>tail).iff ?_
   unfold a6q
   constructor
   · rintro⟨a,c,d,e,f,g,h,k⟩;exact⟨⟨a,by omega,e,c,f,g,h⟩,k⟩
   · rintro⟨⟨a,b,c,d,e,f,g⟩,k⟩;exact⟨a,d,by omega,c,e,f,g,k⟩
theorem b9K (l:List a7) (me:Int) (i:Nat) (h:i<l.length) (hl:l.length≤40):Rnd (i:Int) (M2 l me i) (∀x,l[i]?=some x→a4U me x∧x.No=(i:Int)+1∧∀y,y∈l.take i→¬(y.Thing=x.Thing∧V1 y x)):=by
 obtain⟨x,hx⟩:=a4f h
 have hlt:((i:Int)<(l.length:Int)):=by omega
 have hlp:=b7L l i h hl x
 unfold M2
 simp only [hlt,decide_true,if_true,M4 hx,Option.bind_some,hx,Option.some.injEq,forall_eq']
 refine(Rnd.ite (P:=x.No=(i:Int)+1) (by rw [a2J (by omega)];simp) fun _=>Rnd.nand (a4I _) fun h1=>Rnd.ite (P:=x.Thing % 6=me) (by rw [a6z (by omega)];simp) fun _=>Rnd.nand (a6Q _) fun _=>Rnd.ite (P:=¬x.To=me) (by simp) fun _=>
  Rnd.nand (W6 _) fun _=>Rnd.nand (W6 _) fun _=>Rnd.ite (P:=x.From≤x.Until) (by simp) fun _=>Rnd.loop hlp).iff ?_
 unfold a4U
 constructor
 · rintro⟨a,b,c,d,e,f,g,h,k⟩;exact⟨⟨b,c,d,e,f,g,h⟩,a,k⟩
 · rintro⟨⟨b,c,d,e,f,g,h⟩,a,k⟩;exact⟨a,b,c,d,e,f,g,h,k⟩
theorem b4T {m:Option (Sum Int Bool)} {n most:Int} {P:Prop} (h:n≤most→Lp m P):Ans (if(decide (n>most))=true then some false else m.bind fun e=>match e with| .inl _=>some true| .inr r=>some r) (n≤most∧P):=
 Ans.ite' (by simp) fun h'=>Ans.lp (h h')
theorem a7c {i:Nat} {P:Prop}:(0≤i→P)↔P:=⟨fun h=>h (Nat.zero_le _),fun h _=>h⟩
theorem b4m (l:List b6):Ans (a2O l) ((l.length:Int)≤12∧(∀x,x∈l→a2A x)∧I9 a6N l):=
 b4T fun h=>(a1G l.length (by omega) _ (fun i hi=>c1O l i hi (by omega)) (by simp [O1])).iff ((forall_congr' fun _=>a7c.symm).trans (b0f l a2A a6N))
theorem b4i (l:List b4):Ans (a2Y l) ((l.length:Int)≤60∧(∀x,x∈l→a2n x)∧I9 a4G l):=
 b4T fun h=>(a1G l.length (by omega) _ (fun i hi=>c0D l i hi (by omega)) (by simp [N5])).iff ((forall_congr' fun _=>a7c.symm).trans (b0f l a2n a4G))
theorem b3Z (l:List b9) (me:Int):Ans (a2N l me) ((l.length:Int)≤60∧(∀x,x∈l→a4B me x)∧I9 a7e l):=
 b4T fun h=>(a1G l.length (by omega) _ (fun i hi=>c1b l me i hi (by omega)) (by simp [N7])).iff ((forall_congr' fun _=>a7c.symm).trans (b0f l (a4B me) a7e))
theorem b5l (l:List c5) (me r:Int) (hm:0≤me∧me≤5) (hr:0≤r∧r≤9999):Ans (a3F l me r) ((l.length:Int)≤12∧(∀x,x∈l→a6q me r x)∧I9 b1h l∧a9o (fun a b=>a.Ballot=b.Ballot) l):=
 b4T fun h=>(a1G l.length (by omega) _ (fun i hi=>c2t l me r hm hr i hi (by omega)) (by simp [Q5])).iff (by
  have key:=b0f l (a6q me r) b1h
  constructor
  · intro h
    obtain⟨h1,h2⟩:=key.1 fun i _ hi=>⟨fun x hx=>((h i hi).1 x hx).1,(h i hi).2⟩
    exact⟨h1,h2,fun i x hx=>((h i (List.getElem?_eq_some_iff.1 hx).1).1 x hx).2⟩
  · rintro⟨h1,h2,h3⟩ i hi
    have:=key.2 ⟨h1,h2⟩ i (Nat.zero_le _) hi
    exact⟨fun x hx=>⟨this.1 x hx,h3 i x hx⟩,this.2⟩)
theorem b3x (l:List a7) (me:Int):Ans (a1U l me) ((l.length:Int)≤40∧(∀x,x∈l→a4U me x)∧(∀(i:Nat) x,l[i]?=some x→x.No=(i:Int)+1)∧a9o (fun a b=>a.Thing=b.Thing∧V1 a b) l):=
 b4T fun h=>(a1G l.length (by omega) _ (fun i hi=>b9K l me i hi (by omega)) (by simp [M2])).iff (by
  constructor
  · intro h
    refine⟨fun x hx=> ?_,fun i x hx=>((h i (List.getElem?_eq_some_iff.1 hx).1) x hx).2.1,fun i x hx=>((h i (List.getElem?_eq_some_iff.1 hx).1) x hx).2.2⟩
    obtain⟨i,hi,rfl⟩:=List.getElem_of_mem hx
    exact((h i hi) _ (List.getElem?_eq_getElem hi)).1
  · rintro⟨h1,h2,h3⟩ i hi x hx
    exact⟨h1 x (List.mem_of_getElem? hx),h2 i x hx,h3 i x hx⟩)
def Err (m:Option Int) (P:Prop) (e:Int):Prop:=m=some (if P then 0 else e)
theorem Err.nand {m:Option Bool} {n:Option Int} {P Q:Prop} {e:Int} (h:Ans m P) (k:P→Err n Q e):Err (Option.bind m fun x=>if(!x)=true then some e else n) (P∧Q) e:=by
 obtain⟨b,rfl,hb⟩:=h
 unfold Err
 by_cases hp:P
 · have:=k hp
   unfold Err at this
   simp [hb.2 hp,hp,this]
 · have:b=false:=by cases b with|false=>rfl|true=>exact absurd (hb.1 rfl) hp
   simp [this,hp]
theorem Err.one {m:Option Bool} {P:Prop} {e:Int} (h:Ans m P):Err (Option.bind m fun x=>if(!x)=true then some e else some 0) P e:=by
 have:=Err.nand (Q:=True) (n:=some 0) (e:=e) h (fun _=>by simp [Err])
 simpa using this
theorem Err.iff {m:Option Int} {P Q:Prop} {e:Int} (h:Err m P e) (k:P↔Q):Err m Q e:=by
 unfold Err at*;rw [h];simp [k]
theorem a6x (me:Int) (s:b5):Err (Y0 me s) (a5n me s) 90:=by
 refine Err.iff (Err.nand (a6Q _) fun hm=>Err.nand (a9F _ _ _) fun hr=>Err.nand (b4m _) fun _=>Err.nand (b5l _ _ _ hm hr) fun _=>Err.nand (b4i _) fun _=>Err.nand (b3x _ _) fun _=>Err.one (b3Z _ _)) ?_
 rw [b0o]
 constructor
 · rintro⟨a,b,⟨c1,c2,c3⟩,⟨d1,d2,d3,d4⟩,⟨e1,e2,e3⟩,⟨f1,f2,f3,f4⟩,⟨g1,g2,g3⟩⟩
   exact⟨a,b,⟨c1,c2⟩,⟨d1,d2⟩,⟨e1,e2⟩,⟨f1,f2⟩,⟨g1,g2⟩,c3,d3,e3,g3,d4,f3,f4⟩
 · rintro⟨a,b,⟨c1,c2⟩,⟨d1,d2⟩,⟨e1,e2⟩,⟨f1,f2⟩,⟨g1,g2⟩,c3,d3,e3,g3,d4,f3,f4⟩
   exact⟨a,b,⟨c1,c2,c3⟩,⟨d1,d2,d3,d4⟩,⟨e1,e2,e3⟩,⟨f1,f2,f3,f4⟩,⟨g1,g2,g3⟩⟩
def C8 (x:a6):Prop:=a5n x.Me x.Now∧a5n x.Me x.Safe
theorem c1B (x:a6):Err (V6 x) (C8 x) 90:=Err.nand (b2N _ _) fun _=>Err.one (b2N _ _)
theorem a8g (x:a6):Err (W7 x) (C8 x) 90:=by
 have e1:=a6x x.Me x.Now
 have e2:=a6x x.Me x.Safe
 unfold Err at*
 unfold W7
 rw [e1,e2]
 unfold C8
 by_cases h1:a5n x.Me x.Now<;>by_cases h2:a5n x.Me x.Safe<;>simp [h1,h2]
end Go.Proofs.YtcedmbakcchkiaaGreatDoor
namespace Go.Proofs.YtcedmbakcchkiaaGreatDoor
open Go Go.Sx
open Classical
theorem c1g {α:Type} {l:List α} (hl:l.length≤9223372036854775806) {q:α→α→Bool} (hq:∀x,q x x=true) {body:Int→Option (Sum Int (Sum Int Bool))}
 (hb:body=fun i=>if(decide (i<(l.length:Int)))=true then Option.bind (idx l i) fun a=>Option.bind (idx l i) fun b=>if(!(q a b))=true then some (.inr (.inr false))else some (.inl (W (i+1)))else some (.inr (.inl i))):Lp (k6 body 0) True:=by
 refine(a1G l.length (by omega) (fun _=>True) (fun i hi=> ?_) (by rw [hb];simp)).iff (by simp)
 rw [hb]
 have hlt:((i:Int)<(l.length:Int)):=by omega
 simp only [hlt,decide_true,if_true]
 refine Rnd.get hi (Rnd.get hi ?_)
 rw [hq]
 exact .go trivial
theorem Ans.true {m:Option Bool} (h:Ans m True):m=some true:=by rw [h.eq];simp
theorem b1S (l:List Int) (h:l.length≤9223372036854775806):a0P l l=some true:=by
 unfold a0P
 refine Ans.true ((Ans.ite' (P:=True) (by simp) fun _=>Ans.lp (c1g h (q:=fun a b=> !(a !=b)) (by simp) ?_)).iff (by simp))
 funext i
 unfold a0X
 simp only [Bool.not_not]
end Go.Proofs.YtcedmbakcchkiaaGreatDoor
namespace Go.Proofs.YtcedmbakcchkiaaGreatDoor
open Go Go.Sx
open Classical
def a9C {α σ R:Type} (f:σ→α→Sum σ R):List α→σ→Sum σ R
 | [],s=> .inl s
 |x::l,s=>match f s x with| .inl s'=>a9C f l s'| .inr r=> .inr r
theorem a8J {α σ S E R:Type} {body:S→Option (Sum S E)} (l:List α) (hl:l.length≤9223372036854775807) (enc:Nat→σ→S) (f:σ→α→Sum σ R) (out:R→E) (fin:σ→E) (P:List α→σ→Prop)
 (h:∀pre x post s,l=pre++x::post→P pre s→body (enc pre.length s)=some (match f s x with| .inl s'=> .inl (enc (pre.length+1) s')| .inr r=> .inr (out r))∧∀s',f s x= .inl s'→P (pre++ [x]) s')
 (he:∀s,P l s→body (enc l.length s)=some (.inr (fin s))) (s0:σ) (h0:P [] s0):
 k6 body (enc 0 s0)=some (match a9C f l s0 with| .inl s=>fin s| .inr r=>out r):=by
 have key:∀(post pre:List α) (s:σ) (n:Nat),l=pre++post→P pre s→post.length<n→a0D body n (enc pre.length s)=some (match a9C f post s with| .inl s=>fin s| .inr r=>out r):=by
  intro post
  induction post with
  |nil=>
   intro pre s n hp hs hn
   cases n with
   |zero=>omega
   |succ n=>
    simp only [List.append_nil]at hp
    subst hp
    simp only [a0D,he s hs,a9C]
  |cons x post ih=>
   intro pre s n hp hs hn
   cases n with
   |zero=>omega
   |succ n=>
    obtain⟨h1,h2⟩:=h pre x post s hp hs
    simp only [a0D,h1,a9C]
    cases hf:f s x with
    |inl s'=>
     have:=ih (pre++ [x]) s' n (by simp [hp]) (h2 s' hf) (by simp at hn;omega)
     simpa using this
    |inr r=>rfl
 exact key l [] s0 a5g rfl h0 (by unfold a5g;omega)
theorem b9B {α β R:Type} (em:α→List β) (l:List α) (s:List β):a9C (R:=R) (fun s x=> .inl (s++em x)) l s= .inl (s++l.flatMap em):=by
 induction l generalizing s with
 |nil=>simp [a9C]
 |cons x l ih=>simp [a9C,ih]
theorem b5b {α β S:Type} {body:S→Option (Sum S S)} (l:List α) (hl:l.length≤1000) (enc:Nat→List β→S) (em:α→List β) (acc:List β) (ha:acc.length≤10000) (hem:∀x,(em x).length≤2)
 (h:∀pre x post s,l=pre++x::post→s.length≤20000→body (enc pre.length s)=some (.inl (enc (pre.length+1) (s++em x)))) (he:∀s,body (enc l.length s)=some (.inr (enc l.length s))):
 k6 body (enc 0 acc)=some (enc l.length (acc++l.flatMap em)):=by
 have:=a8J (R:=S) (body:=body) l (by omega) enc (fun s x=> .inl (s++em x)) id (fun s=>enc l.length s) (fun pre s=>s.length≤acc.length+2*pre.length∧pre.length≤l.length) (fun pre x post s hp hs=>⟨h pre x post s hp (by omega),fun s' hs'=>by
  have hx:=hem x
  have hpl:pre.length+1≤l.length:=by rw [hp];simp
  simp only [Sum.inl.injEq]at hs'
  subst hs'
  simp only [List.length_append,List.length_singleton]
  omega⟩) (fun s _=>he s) acc ⟨by simp,by simp⟩
 rw [this,b9B]
theorem b3A {α:Type} {pre post:List α} {x:α}:idx (pre++x::post) (pre.length:Int)=some x:=by
 unfold idx;simp
theorem b5x {α:Type} {pre post:List α} {x:α}:((pre.length:Int)<((pre++x::post).length:Int)):=by simp;omega
theorem a7D {α:Type} {p:Prop} [Decidable p] {k:Option α} (h:p):gd p k=k:=by unfold gd;rw [if_pos h]
theorem b2K {me:Int} {s:b5} (h:a5n me s):B2 s=some s:=by
 have:=h.nslots;have:=h.nbids;have:=h.nheard;have:=h.nleases;have:=h.nloans
 unfold B2 D4 E6 A3 A2 D1
 rw [a7D (by omega),a7D (by omega),a7D (by omega),a7D (by omega),a7D (by omega)]
 rfl
theorem a9M (x:a6):I7 x=some (if C8 x then(some ⟨x⟩,0)else(none,90)):=by
 have e:=c1B x
 unfold Err at e
 unfold I7
 rw [e]
 by_cases h:C8 x
 · rw [if_pos h,if_pos h,b2K h.1,b2K h.2];rfl
 · rw [if_neg h,if_neg h];rfl
theorem a2C {α β:Type} (f:α→List β) (n:Nat) (h:∀x,(f x).length≤n):∀l:List α,(l.flatMap f).length≤n*l.length
 | []=>by simp
 |x::l=>by
  have:=a2C f n h l
  have:=h x
  simp only [List.flatMap_cons,List.length_append,List.length_cons,Nat.mul_add];omega
end Go.Proofs.YtcedmbakcchkiaaGreatDoor
namespace Go.Proofs.YtcedmbakcchkiaaGreatDoor
open Go Go.Sx
open Classical
theorem c2Q {z:Int} (h:0≤z∧z≤18446744073709551615):IntKind.u64.wrap z=z:=by
 simp only [IntKind.wrap,IntKind.signed,IntKind.bits]
 simp
 omega
theorem c4S (i j:Nat) (h:i+j≤9223372036854775807):W ((IntKind.u64.wrap (W ((i:Int)+(j:Int)))).fdiv (2^(min (1:Int).toNat IntKind.u64.bits)))=(((i+j) / 2:Nat):Int):=by
 have e:(2:Int)^(min (1:Int).toNat IntKind.u64.bits)=2:=by decide
 rw [e,a2J (z:=(i:Int)+j) (by omega),c2Q (by omega),Int.fdiv_eq_ediv_of_nonneg _ (by omega)]
 have e2:((i:Int)+j) / 2=(((i+j) / 2:Nat):Int):=by simp
 rw [e2,a2J (by omega)]
structure Cut {α:Type} (c:α→Int) (l:List α) (i:Nat):Prop where
 le:i≤l.length
 lo:∀k (h:k<l.length),k<i→c l[k]<0
 hi:∀k (h:k<l.length),i≤k→¬c l[k]<0
def bsB {α:Type} (l:List α) (cm:α→Option Int):(Int×Int)→Option (Sum (Int×Int) (Int×Int)):=fun(i,j)=>
 if(decide (i<j))=true then
  Option.bind (idx l (W ((IntKind.u64.wrap (W (i+j))).fdiv (2^(min (1:Int).toNat IntKind.u64.bits))))) fun e=>
  Option.bind (cm e) fun x=>
  if(decide (x<0))=true then
   some (.inl ((W ((W ((IntKind.u64.wrap (W (i+j))).fdiv (2^(min (1:Int).toNat IntKind.u64.bits))))+1)),j))
  else
   some (.inl (i,(W ((IntKind.u64.wrap (W (i+j))).fdiv (2^(min (1:Int).toNat IntKind.u64.bits))))))
 else
  some (.inr (i,j))
def bsM {α:Type} (l:List α) (cm:α→Option Int):Option (Int×Bool):=
 Option.bind (k6 (bsB l cm) (0,(l.length:Int))) fun(i,_)=>
 if(decide (i<(l.length:Int)))=true then
  Option.bind (idx l i) fun e=>
  Option.bind (cm e) fun x=>
  some (i,(x==0))
 else
  some (i,false)
theorem b6x {α:Type} (l:List α) (c:α→Int) (hl:l.length≤1000) (hm:∀i j (hi:i<l.length) (hj:j<l.length),i≤j→c l[j]<0→c l[i]<0) (cm:α→Option Int) (hc:∀x,x∈l→cm x=some (c x)):
 ∃i,Cut c l i∧bsM l cm=some ((i:Int),decide (∃x,l[i]?=some x∧c x=0)):=by
 obtain⟨e,he,i,rfl,hi⟩:=a8B (body:=bsB l cm) (fun st:Int×Int=>∃i j:Nat,st=((i:Int),(j:Int))∧i≤j∧j≤l.length∧(∀k (hk:k<l.length),k<i→c l[k]<0)∧(∀k (hk:k<l.length),j≤k→¬c l[k]<0))
  (fun st=>(st.2-st.1).toNat) (fun st=>∃i:Nat,st=((i:Int),(i:Int))∧Cut c l i) (by
  rintro⟨_,_⟩ ⟨i,j,he,hij,hj,ha,hb⟩
  cases he
  unfold bsB
  by_cases hlt:i<j
  · right
    have c1:(i:Int)<(j:Int):=by omega
    have hmid:(i+j) / 2<l.length:=by omega
    have hx:idx l (((i+j) / 2:Nat):Int)=some l[(i+j) / 2]:=M4 (List.getElem?_eq_getElem hmid)
    simp only [c1,decide_true,if_true,c4S i j (by omega),hx,Option.bind_some,hc _ (List.getElem_mem hmid)]
    by_cases hcc:c l[(i+j) / 2]<0
    · refine⟨((((i+j) / 2+1:Nat):Int),(j:Int)), ?_,⟨(i+j) / 2+1,j,rfl,by omega,hj,fun k hk hki=> ?_,hb⟩,by simp only;omega⟩
      · simp only [hcc,decide_true,if_true]
        rw [a2J (z:=(((i+j) / 2:Nat):Int)+1) (by omega)];rfl
      · exact hm k ((i+j) / 2) hk hmid (by omega) hcc
    · refine⟨((i:Int),(((i+j) / 2:Nat):Int)), ?_,⟨i,(i+j) / 2,rfl,by omega,by omega,ha,fun k hk hki h=>hcc (hm _ _ hmid hk hki h)⟩,by simp only;omega⟩
      simp only [hcc,decide_false,Bool.false_eq_true,if_false]
  · left
    have c1:¬(i:Int)<(j:Int):=by omega
    obtain rfl:i=j:=by omega
    exact⟨_,by simp only [c1,decide_false,Bool.false_eq_true,if_false],i,rfl,hj,ha,hb⟩) (0,(l.length:Int)) ⟨0,l.length,rfl,by omega,by omega,by omega,by omega⟩ (by simp only [a5g];omega)
 refine⟨i,hi, ?_⟩
 unfold bsM
 rw [he]
 have hle:=hi.le
 by_cases h:i<l.length
 · have c1:(i:Int)<(l.length:Int):=by omega
   have hx:idx l (i:Int)=some l[i]:=by simp [idx,h]
   simp only [Option.bind_some,c1,decide_true,if_true,hx,hc _ (List.getElem_mem h),List.getElem?_eq_getElem h,Option.some.injEq,exists_eq_left']
   congr 2
 · have c1:¬(i:Int)<(l.length:Int):=by omega
   simp only [Option.bind_some,c1,decide_false,Bool.false_eq_true,if_false,List.getElem?_eq_none (show l.length≤i by omega)]
   simp
noncomputable def upd {α:Type} (c:α→Int) (new:α) (f:α→α):List α→List α
 | []=> [f new]
 |x::l=>if c x<0 then x::upd c new f l else if c x=0 then f x::l else f new::x::l
theorem b3a {α:Type} {c:α→Int} {new:α} {f:α→α}:∀ {l:List α} {i:Nat},Cut c l i→upd c new f l=l.take i++(match l.drop i with| []=> [f new]|x::r=>if c x=0 then f x::r else f new::x::r)
 | [],i,h=>by simp [upd]
 |x::l,0,h=>by
  have:=h.hi 0 (by simp) (Nat.le_refl _)
  simp only [List.getElem_cons_zero]at this
  simp [upd,this]
 |x::l,i+1,h=>by
  have h0:=h.lo 0 (by simp) (by omega)
  simp only [List.getElem_cons_zero]at h0
  have ih:=b3a (c:=c) (new:=new) (f:=f) (l:=l) (i:=i) ⟨by have:=h.le;simpa using this,fun k hk hki=>h.lo (k+1) (by simpa using hk) (by omega),fun k hk hki=>h.hi (k+1) (by simpa using hk) (by omega)⟩
  simp only [upd,h0,if_true,ih,List.take_succ_cons,List.drop_succ_cons,List.cons_append]
theorem c1G {α:Type} {l:List α} {i:Nat} {x:α} (h:l[i]?=some x):l.drop i=x::l.drop (i+1):=by
 obtain⟨hi,rfl⟩:=List.getElem?_eq_some_iff.1 h
 exact List.drop_eq_getElem_cons hi
theorem c1l {α:Type} {l:List α} {f:α→α→Prop} {c:α→Int} (h:I9 f l) (hc:∀a b,f a b→c b<0→c a<0):∀i j (hi:i<l.length) (hj:j<l.length),i≤j→c l[j]<0→c l[i]<0:=by
 intro i j hi hj hij
 induction j with
 |zero=>
  obtain rfl:i=0:=by omega
  exact id
 |succ j ih=>
  intro h1
  by_cases e:i=j+1
  · subst e;exact h1
  · exact ih (by omega) (by omega) (hc _ _ (h j _ _ (List.getElem?_eq_getElem _) (List.getElem?_eq_getElem hj)) h1)
end Go.Proofs.YtcedmbakcchkiaaGreatDoor
namespace Go.Proofs.YtcedmbakcchkiaaGreatDoor
open Go Go.Sx
open Classical
theorem b3v {S E:Type} {body:S→Option (Sum S E)} (st:Nat→S) (n:Nat) (hn:n≤9223372036854775807) (fin:E) (h:∀k,k<n→body (st k)=some (.inl (st (k+1)))) (he:body (st n)=some (.inr fin)):k6 body (st 0)=some fin:=by
 have key:∀(m k N:Nat),k+m=n→m<N→a0D body N (st k)=some fin:=by
  intro m
  induction m with
  |zero=>
   intro k N hk hN
   cases N with
   |zero=>omega
   |succ N=>
    obtain rfl:k=n:=by omega
    simp only [a0D,he]
  |succ m ih=>
   intro k N hk hN
   cases N with
   |zero=>omega
   |succ N=>
    simp only [a0D,h k (by omega)]
    exact ih (k+1) N (by omega) (by omega)
 exact key n 0 a5g (by omega) (by unfold a5g;omega)
theorem a1z {α:Type} {l:List α} {k:Nat} {x:α} (h:l[k]?=some x):l.take (k+1)=l.take k++ [x]:=by
 rw [List.take_add_one,h];rfl
noncomputable def a1Z {α:Type} (c:α→Int) (new:α) (f:α→α) (l:List α) (i:Nat) (x:α) (k:Nat):List α:=
 if k≤i then l.take k else l.take i++((if c x=0 then [f x]else [f new,x])++(l.take k).drop (i+1))
section
variable {α : Type} {c : α → Int} {new : α} {f : α → α} {l : List α} {i k : Nat} {x y : α}
theorem b8W (h:k<i) (hy:l[k]?=some y):a1Z c new f l i x (k+1)=a1Z c new f l i x k++ [y]:=by
 unfold a1Z
 rw [if_pos (by omega),if_pos (by omega),a1z hy]
theorem c0x (hx:l[i]?=some x):a1Z c new f l i x (i+1)=a1Z c new f l i x i++(if c x=0 then [f x]else [f new,x]):=by
 unfold a1Z
 rw [if_neg (by omega),if_pos (Nat.le_refl _)]
 have:(l.take (i+1)).drop (i+1)= []:=List.drop_eq_nil_of_le (by simp;omega)
 rw [this,List.append_nil]
theorem c0v (h:i<k) (hy:l[k]?=some y):a1Z c new f l i x (k+1)=a1Z c new f l i x k++ [y]:=by
 have hk:=(List.getElem?_eq_some_iff.1 hy).1
 unfold a1Z
 rw [if_neg (show¬k+1≤i by omega),if_neg (show¬k≤i by omega),a1z hy,List.drop_append_of_le_length (by simp;omega)]
 simp
theorem b8z (hc:Cut c l i) (hx:l[i]?=some x):a1Z c new f l i x l.length=upd c new f l:=by
 have hi:=(List.getElem?_eq_some_iff.1 hx).1
 unfold a1Z
 rw [if_neg (by omega),b3a hc,c1G hx,List.take_length]
 by_cases h0:c x=0<;>simp [h0]
theorem b7x (hx:l[i]?=some x) (hk:k≤l.length):(a1Z c new f l i x k).length≤k+1:=by
 have hi:=(List.getElem?_eq_some_iff.1 hx).1
 unfold a1Z
 split
 · simp;omega
 · split<;>simp<;>omega
theorem b4J (h:k≤i):a1Z c new f l i x k=l.take k:=by unfold a1Z;rw [if_pos h]
end
theorem c2g {α:Type} {c:α→Int} {l:List α} {i:Nat} {f:α→α→Prop} (h:Cut c l i) (hr:I9 f l) (hf:∀a b,f a b→¬c a<0→0<c b):∀k y,i<k→l[k]?=some y→0<c y:=by
 intro k y hk hy
 obtain⟨hl,rfl⟩:=List.getElem?_eq_some_iff.1 hy
 obtain⟨m,rfl⟩:∃m,k=m+1:=⟨k-1,by omega⟩
 exact hf _ _ (hr m _ _ (List.getElem?_eq_getElem (by omega)) (List.getElem?_eq_getElem hl)) (h.hi m (by omega) (by omega))
theorem b9q {α:Type} {c:α→Int} {l:List α} {i k:Nat} {y:α} (h:Cut c l i) (hk:k<i) (hy:l[k]?=some y):c y<0:=by
 obtain⟨hl,rfl⟩:=List.getElem?_eq_some_iff.1 hy
 exact h.lo k hl hk
theorem c2C {α:Type} {c:α→Int} {l:List α} {i k:Nat} {y:α} (h:Cut c l i) (hk:i≤k) (hy:l[k]?=some y):¬c y<0:=by
 obtain⟨hl,rfl⟩:=List.getElem?_eq_some_iff.1 hy
 exact h.hi k hl hk
theorem c1a {α:Type} {c:α→Int} {new:α} {f:α→α} {l:List α} (h:Cut c l l.length):upd c new f l=l++ [f new]:=by
 rw [b3a h,List.drop_length,List.take_length]
theorem c2M {α:Type} (c:α→Int) (l:List α) (hm:∀i j (hi:i<l.length) (hj:j<l.length),i≤j→c l[j]<0→c l[i]<0) (hl:l.length≤1000):∃i,Cut c l i:=by
 obtain⟨i,hi,_⟩:=b6x l c hl hm (fun x=>some (c x)) (fun _ _=>rfl)
 exact⟨i,hi⟩
end Go.Proofs.YtcedmbakcchkiaaGreatDoor
namespace Go.Proofs.YtcedmbakcchkiaaGreatDoor
open Go Go.Sx
open Classical
theorem c2k {x:Int} (h1:¬x<0) (h2:¬x=0):0<x:=by omega
end Go.Proofs.YtcedmbakcchkiaaGreatDoor
namespace Go.Proofs.YtcedmbakcchkiaaGreatDoor
open Go Go.Sx
open Classical
def a7S (l:List a7) (y:a7):Prop:=∃o,o∈l∧o.Thing=y.Thing∧V1 o y
theorem c2m (p:a6) (h:C8 p) (y:a7):Ans (R7 ⟨p⟩ y) (a7S p.Now.Leases y):=by
 have:=h.1.nleases
 exact(P3 p.Now.Leases (by omega) (fun o=>W9 o y) (fun o=>o.Thing=y.Thing∧V1 o y) fun o _=>Ans.ite (by simp) fun _=>(b8N _ _).id).id
end Go.Proofs.YtcedmbakcchkiaaGreatDoor
namespace Go.Proofs.YtcedmbakcchkiaaGreatDoor
open Go Go.Sx
open Classical
theorem a3W {α R:Type} {body:Int→Option (Sum Int (Sum Int R))} (l:List α) (hl:l.length≤1000) (q:α→Bool) (r:α→R) (h:∀(i:Nat) x,l[i]?=some x→body (i:Int)=some (if q x=true then .inr (.inr (r x))else .inl ((i+1:Nat):Int)))
 (he:body (l.length:Int)=some (.inr (.inl (l.length:Int)))):k6 body 0=some (match l.find? q with|some x=> .inr (r x)|none=> .inl (l.length:Int)):=by
 have:=a8J (R:=R) (body:=body) l (by omega) (fun k (_:Unit)=>(k:Int)) (fun _ x=>if q x=true then .inr (r x)else .inl ()) .inr (fun _=> .inl (l.length:Int)) (fun _ _=>True) (fun pre x post s hp _=>by
  refine⟨?_,fun _ _=>trivial⟩
  rw [h pre.length x (by rw [hp];simp)]
  by_cases hq:q x=true<;>simp [hq]) (fun _ _=>he) () trivial
 rw [show((0:Nat):Int)=0 from rfl]at this
 rw [this]
 have key:∀l:List α,a9C (fun(_:Unit) x=>if q x=true then Sum.inr (r x)else Sum.inl ()) l ()=match l.find? q with|some x=> .inr (r x)|none=> .inl ():=by
  intro l
  induction l with
  |nil=>rfl
  |cons x l ih=>
   unfold a9C
   by_cases hq:q x=true
   · simp [hq]
   · simp [hq,ih]
 rw [key]
 cases l.find? q<;>rfl
def a3m (night:Int) (h:b4):Bool:=decide (h.Night=night)&&qr h.Mask
def a3h (s:b5) (night:Int):Option b4:=s.Heard.find? (a3m night)
theorem b8C {x:a6} (h:C8 x) (night:Int):N9 ⟨x⟩ night=some (match a3h x.Now night with|some y=>(y.Value,true)|none=>(0,false)):=by
 have hn:=h.1.nheard
 unfold N9
 rw [a3W x.Now.Heard (by omega) (a3m night) (fun y=>(y.Value,true)) (fun i y hy=>by
  have hi:=(List.getElem?_eq_some_iff.1 hy).1
  have hlt:((i:Int)<(x.Now.Heard.length:Int)):=by omega
  have hq:=(a8p (h.1.heard y (List.mem_of_getElem? hy)).2.2.2.2).1
  unfold J8 a3m
  simp only [hlt,decide_true,if_true,M4 hy,Option.bind_some,hq,W_s (show i<9223372036854775807 by omega)]
  by_cases g1:y.Night=night<;>by_cases g2:qr y.Mask=true<;>simp [g1,g2]) (by simp [J8])]
 unfold a3h
 cases x.Now.Heard.find? (a3m night)<;>rfl
theorem b6f {x:a6} (h:C8 x) (night:Int):a2h x.Now night=some (match a3h x.Now night with|some y=>y.Value|none=>0):=by
 have hn:=h.1.nheard
 unfold a2h
 rw [a3W x.Now.Heard (by omega) (a3m night) (fun y=>y.Value) (fun i y hy=>by
  have hi:=(List.getElem?_eq_some_iff.1 hy).1
  have hlt:((i:Int)<(x.Now.Heard.length:Int)):=by omega
  unfold a0f a3m
  simp only [hlt,decide_true,if_true,M4 hy,Option.bind_some,a6H,W_s (show i<9223372036854775807 by omega)]
  by_cases g1:y.Night=night<;>by_cases g2:qr y.Mask=true<;>simp [g1,g2]) (by simp [a0f])]
 unfold a3h
 cases x.Now.Heard.find? (a3m night)<;>rfl
theorem b4a {x:a6} (h:C8 x) {night:Int} {y:b4} (hy:a3h x.Now night=some y):1≤y.Value∧y.Value≤1000000∧y.Night=night∧y∈x.Now.Heard∧qr y.Mask=true:=by
 have hm:=List.mem_of_find?_eq_some hy
 have hq:=List.find?_some hy
 have:=h.1.heard y hm
 unfold a3m at hq
 simp only [Bool.and_eq_true,decide_eq_true_eq]at hq
 exact⟨this.2.2.1.1,this.2.2.1.2,hq.1,hm,hq.2⟩
noncomputable def b0b (x:a6) (night:Int):Int×Int:=if C8 x then(if 0≤night∧night≤100000 then(match a3h x.Now night with|some y=>(y.Value,0)|none=>(0,96))else(0,6))else(0,90)
theorem b8h (x:a6) (night:Int):a0d x night=some (b0b x night):=by
 unfold a0d b0b
 rw [a9M,(a5Z night).eq]
 by_cases h:C8 x
 · simp only [h,if_true,Option.bind_some,a6k,bne_self_eq_false,Bool.false_eq_true,if_false,b8C h]
   by_cases h1:0≤night∧night≤100000
   · simp only [h1,and_self,decide_true,Bool.not_true,Bool.false_eq_true,if_false,if_true]
     cases a3h x.Now night<;>simp
   · simp [h1]
 · simp [h,a6k]
theorem b6c (x:a6) (night:Int):a2m x night=some (b0b x night):=by
 have e0:=a8g x
 unfold Err at e0
 unfold a2m b0b
 rw [e0,(a2B night).eq]
 by_cases h:C8 x
 · simp only [h,if_true,Option.bind_some,bne_self_eq_false,Bool.false_eq_true,if_false,b6f h]
   by_cases h1:0≤night∧night≤100000
   · simp only [h1,and_self,decide_true,Bool.not_true,Bool.false_eq_true,if_false,if_true]
     cases hy:a3h x.Now night with
     |none=>simp
     |some y=>
      have:=b4a h hy
      have hn:(y.Value==0)=false:=by rw [beq_eq_false_iff_ne];omega
      simp [hn]
   · simp [h1]
 · simp [h]
def b1T (thing from_ until_ t m:Int):Prop:=thing=t∧from_≤m∧m<until_
def b9F (x:a6) (t m:Int):Prop:=if t % 6=x.Me then¬∃l,l∈x.Now.Leases∧b1T l.Thing l.From l.Until t m else∃l,l∈x.Now.Loans∧b1T l.Thing l.From l.Until t m
theorem c3t {x:a6} (h:C8 x) {t:Int} (ht:1≤t∧t≤99) (m:Int):Ans (V0 ⟨x⟩ t m) (b9F x t m):=by
 have n1:=h.1.nleases;have n2:=h.1.nloans
 have hd:c9 t=some (t % 6):=by show some (t.tmod 6)=_;rw [a6z (by omega)]
 unfold V0 b9F
 simp only [hd,Option.bind_some]
 by_cases g:t % 6=x.Me
 · rw [if_pos g,if_pos (by rw [beq_iff_eq];exact g)]
   exact(P3 x.Now.Leases (by omega) (fun l=>Y4 l t m) (fun l=>b1T l.Thing l.From l.Until t m) fun l _=>Ans.ite (by simp) fun _=>Ans.ite (by simp) fun _=> .of).not
 · rw [if_neg g,if_neg (by rw [beq_iff_eq];exact g)]
   exact(P3 x.Now.Loans (by omega) (fun l=>Y5 l t m) (fun l=>b1T l.Thing l.From l.Until t m) fun l _=>Ans.ite (by simp) fun _=>Ans.ite (by simp) fun _=> .of).id
theorem c2h {x:a6} (h:C8 x) {t:Int} (ht:1≤t∧t≤99) (m:Int):Ans (a5T x.Me x.Now (t,m)) (b9F x t m):=by
 have n1:=h.1.nleases;have n2:=h.1.nloans
 unfold a5T b9F
 simp only [a6z (show 0≤t by omega)]
 by_cases g:t % 6=x.Me
 · rw [if_pos g,if_pos (by rw [beq_iff_eq];exact g)]
   rw [a3W x.Now.Leases (by omega) (fun l=>decide (b1T l.Thing l.From l.Until t m)) (fun _=>false) (fun i y hy=>by
    have hi:=(List.getElem?_eq_some_iff.1 hy).1
    have hlt:((i:Int)<(x.Now.Leases.length:Int)):=by omega
    unfold a2e b1T
    simp only [hlt,decide_true,if_true,M4 hy,Option.bind_some,W_s (show i<9223372036854775807 by omega)]
    by_cases g1:y.Thing=t<;>by_cases g2:y.From≤m<;>by_cases g3:m<y.Until<;>simp [g1,g2,g3]) (by simp [a2e])]
   cases hf:x.Now.Leases.find? (fun l=>decide (b1T l.Thing l.From l.Until t m))with
   |none=>
    refine .yes ?_
    rintro⟨l,hl,hc⟩
    have:=List.find?_eq_none.1 hf l hl
    simp [hc]at this
   |some y=>
    refine .no fun hn=>hn ⟨y,List.mem_of_find?_eq_some hf, ?_⟩
    simpa using List.find?_some hf
 · rw [if_neg g,if_neg (by rw [beq_iff_eq];exact g)]
   rw [a3W x.Now.Loans (by omega) (fun l=>decide (b1T l.Thing l.From l.Until t m)) (fun _=>true) (fun i y hy=>by
    have hi:=(List.getElem?_eq_some_iff.1 hy).1
    have hlt:((i:Int)<(x.Now.Loans.length:Int)):=by omega
    unfold a2f b1T
    simp only [hlt,decide_true,if_true,M4 hy,Option.bind_some,W_s (show i<9223372036854775807 by omega)]
    by_cases g1:y.Thing=t<;>by_cases g2:y.From≤m<;>by_cases g3:m<y.Until<;>simp [g1,g2,g3]) (by simp [a2f])]
   cases hf:x.Now.Loans.find? (fun l=>decide (b1T l.Thing l.From l.Until t m))with
   |none=>
    refine .no ?_
    rintro⟨l,hl,hc⟩
    have:=List.find?_eq_none.1 hf l hl
    simp [hc]at this
   |some y=>
    refine .yes ⟨y,List.mem_of_find?_eq_some hf, ?_⟩
    simpa using List.find?_some hf
noncomputable def c1q (x:a6) (t m:Int):Bool×Int:=if C8 x then(if 1≤t∧t≤99 then(if 0≤m∧m≤144001439 then(decide (b9F x t m),0)else(false,95))else(false,1))else(false,90)
theorem c2S (x:a6) (t m:Int):J1 x t m=some (c1q x t m):=by
 unfold J1 c1q
 rw [a9M,(a6a t).eq,(a1q m).eq]
 by_cases h:C8 x
 · simp only [h,if_true,Option.bind_some,a6k,bne_self_eq_false,Bool.false_eq_true,if_false]
   by_cases h1:1≤t∧t≤99
   · by_cases h2:0≤m∧m≤144001439
     · simp only [h1,h2,and_self,decide_true,Bool.not_true,Bool.false_eq_true,if_false,if_true,(c3t h h1 m).eq,Option.bind_some]
     · simp [h1,h2]
   · simp [h1]
 · simp [h,a6k]
theorem c1W (x:a6) (t m:Int):a6c x t m=some (c1q x t m):=by
 have e0:=a8g x
 unfold Err at e0
 unfold a6c c1q
 rw [e0,(a4I t).eq,(W6 m).eq]
 by_cases h:C8 x
 · simp only [h,if_true,Option.bind_some,bne_self_eq_false,Bool.false_eq_true,if_false]
   by_cases h1:1≤t∧t≤99
   · by_cases h2:0≤m∧m≤144001439
     · simp only [h1,h2,and_self,decide_true,Bool.not_true,Bool.false_eq_true,if_false,if_true,(c2h h h1 m).eq,Option.bind_some]
     · simp [h1,h2]
   · simp [h1]
 · simp [h]
noncomputable def a1X (l:List Int) (n:Int):List Int:=upd (fun y=>a3w y n) n id l
theorem b5v {l:List Int} (h:l.Pairwise (fun a b=>a<b)):I9 (fun a b=>a<b) l:=fun i a b ha hb=>by
 obtain⟨hi,rfl⟩:=List.getElem?_eq_some_iff.1 ha
 obtain⟨hj,rfl⟩:=List.getElem?_eq_some_iff.1 hb
 exact List.pairwise_iff_getElem.1 h _ _ _ _ (by omega)
theorem b1r (n:Int):∀(l:List Int) (x:Int),x∈a1X l n↔x∈l∨x=n
 | [],x=>by simp [a1X,upd]
 |y::l,x=>by
  have ih:=b1r n l x
  unfold a1X at ih⊢
  unfold upd
  split
  · rw [List.mem_cons,ih,List.mem_cons];simp only [or_assoc]
  · split
    · rename_i h0
      have:=a2k.1 h0
      simp only [id,List.mem_cons]
      constructor
      · rintro(h|h)
        · exact .inl (.inl h)
        · exact .inl (.inr h)
      · rintro((h|h)|h)
        · exact .inl h
        · exact .inr h
        · left;omega
    · simp only [id,List.mem_cons]
      constructor
      · rintro(h|h|h)
        · exact .inr h
        · exact .inl (.inl h)
        · exact .inl (.inr h)
      · rintro((h|h)|h)
        · exact .inr (.inl h)
        · exact .inr (.inr h)
        · exact .inl h
theorem b7l (n:Int):∀(l:List Int),l.Pairwise (fun a b=>a<b)→(a1X l n).Pairwise (fun a b=>a<b)
 | [],_=>by simp [a1X,upd]
 |y::l,h=>by
  have ih:=b7l n l (List.pairwise_cons.1 h).2
  have h1:=(List.pairwise_cons.1 h).1
  unfold a1X upd
  split
  · rename_i h0
    have h0:=X5.1 h0
    refine List.pairwise_cons.2 ⟨fun z hz=> ?_,ih⟩
    rcases(b1r n l z).1 hz with hz|hz
    · exact h1 z hz
    · omega
  · rename_i h0
    rw [X5]at h0
    split
    · exact h
    · rename_i h2
      rw [a2k]at h2
      refine List.pairwise_cons.2 ⟨fun z hz=> ?_,h⟩
      simp only [id]
      rcases List.mem_cons.1 hz with rfl|hz
      · omega
      · have:=h1 z hz;omega
theorem c2I {l:List Int} (hl:l.length≤100) (hs:l.Pairwise (fun a b=>a<b)) (n:Int):a5R l n=some (a1X l n):=by
 have hr:=b5v hs
 have hmono:=c1l (c:=fun y=>a3w y n) hr fun a b (hab:a<b) hb=>by rw [X5]at*;omega
 obtain⟨i,hi⟩:=c2M (fun y=>a3w y n) l hmono (by omega)
 have hgt:∀k y,i<k→l[k]?=some y→n<y:=fun k y hk hy=>by
  have:=c2g (c:=fun y=>a3w y n) hi hr (fun a b (hab:a<b) ha=>by
   rw [X5]at ha
   refine c2k ?_ ?_
   · rw [X5];omega
   · rw [a2k];omega) k y hk hy
  have h1:= @X5 y n
  have h2:= @a2k y n
  omega
 have hle:=hi.le
 unfold a5R
 by_cases hil:i<l.length
 · obtain⟨e,he⟩:=a4f hil
   have hl:=b3v (body:=N8 l n) (fun k=>(([]:List Int),(if k≤i then false else true),(k:Int),([]:List Int),a1Z (fun y=>a3w y n) n id l i e k)) l.length (by omega) (([]:List Int),true,(l.length:Int),([]:List Int),a1X l n) (fun k hk=>by
    obtain⟨y,hy⟩:=a4f hk
    have hlt:((k:Int)<(l.length:Int)):=by omega
    have hw:W ((k:Int)+1)=((k+1:Nat):Int):=W_s (by omega)
    have hol:=b7x (c:=fun y=>a3w y n) (new:=n) (f:=id) (k:=k) he (by omega)
    unfold N8
    rcases Nat.lt_trichotomy k i with g|g|g
    · have hlo:y<n:=X5.1 (b9q (c:=fun y=>a3w y n) hi g hy)
      rw [b8W g hy]
      have n1:(y==n)=false:=by rw [beq_eq_false_iff_ne];omega
      have n2:¬y>n:=by omega
      simp only [hlt,decide_true,if_true,show k≤i by omega,show k+1≤i by omega,M4 hy,Option.bind_some,n1,n2,decide_false,Bool.false_eq_true,if_false,hw,Bool.not_false]
      rw [a7D (by simp;omega)]
    · subst g
      rw [he]at hy
      obtain rfl:=Option.some.inj hy
      have hhi:=c2C hi (Nat.le_refl _) he
      rw [X5]at hhi
      rw [c0x he,b4J (Nat.le_refl _)]
      have hlen:(l.take k).length=k:=by simp;omega
      have nk:¬k+1≤k:=by omega
      simp only [hlt,decide_true,if_true,Nat.le_refl,nk,if_false,M4 he,Option.bind_some,Bool.not_false,hw,id]
      rw [a7D (by simp;omega),a7D (by simp;omega),a7D (by simp;omega)]
      by_cases h0:e=n
      · have n2:a3w e n=0:=a2k.2 h0
        simp [h0,a2k]
      · have n1:(e==n)=false:=by rw [beq_eq_false_iff_ne];exact h0
        have n2:e>n:=by omega
        have n3:¬a3w e n=0:=fun h=>h0 (a2k.1 h)
        simp [n1,n2,n3]
    · have h3:=hgt k y g hy
      rw [c0v g hy]
      have n1:(y==n)=false:=by rw [beq_eq_false_iff_ne];omega
      simp only [hlt,decide_true,if_true,show¬k≤i by omega,show¬k+1≤i by omega,if_false,M4 hy,Option.bind_some,n1,hw,Bool.not_true,Bool.false_eq_true]
      rw [a7D (by simp;omega)]) (by
    rw [b8z hi he]
    simp [N8,show¬l.length≤i by omega,a1X])
   simp only [Nat.zero_le,if_true,b4J (Nat.zero_le i),List.take_zero,show((0:Nat):Int)=0 from rfl]at hl
   rw [hl]
   rfl
 · obtain rfl:i=l.length:=by omega
   have hl:=b3v (body:=N8 l n) (fun k=>(([]:List Int),false,(k:Int),([]:List Int),l.take k)) l.length (by omega) (([]:List Int),false,(l.length:Int),([]:List Int),l) (fun k hk=>by
    obtain⟨y,hy⟩:=a4f hk
    have hlt:((k:Int)<(l.length:Int)):=by omega
    have hw:W ((k:Int)+1)=((k+1:Nat):Int):=W_s (by omega)
    have hlo:y<n:=X5.1 (b9q (c:=fun y=>a3w y n) hi hk hy)
    have n1:(y==n)=false:=by rw [beq_eq_false_iff_ne];omega
    have n2:¬y>n:=by omega
    unfold N8
    rw [a1z hy]
    simp only [hlt,decide_true,if_true,M4 hy,Option.bind_some,n1,n2,decide_false,Bool.false_eq_true,if_false,hw,Bool.not_false]
    rw [a7D (by simp;omega)]) (by simp [N8])
   simp only [List.take_zero,show((0:Nat):Int)=0 from rfl]at hl
   rw [hl]
   simp only [Option.bind_some,Bool.not_false,if_true]
   rw [a7D (by simp;omega)]
   unfold a1X
   rw [c1a hi]
   rfl
theorem a8D:∀(l a:List Int),a.Pairwise (fun x y=>x<y)→(l.foldl a1X a).Pairwise (fun x y=>x<y)∧∀x,x∈l.foldl a1X a↔x∈a∨x∈l
 | [],a,h=>⟨h,fun x=>by simp⟩
 |n::l,a,h=>by
  obtain⟨h1,h2⟩:=a8D l (a1X a n) (b7l n a h)
  refine⟨h1,fun x=> ?_⟩
  rw [List.foldl_cons,h2 x,b1r,List.mem_cons]
  simp only [or_assoc]
theorem b8p (l:List Int):a4h (a0C l)=l.foldl a1X []:=by
 obtain⟨h1,h2⟩:=a8D l [] List.Pairwise.nil
 refine b6R (b9k (a7j l)) h1 fun x=> ?_
 rw [b7D,a8t,h2 x]
 simp
end Go.Proofs.YtcedmbakcchkiaaGreatDoor
namespace Go.Proofs.YtcedmbakcchkiaaGreatDoor
open Go Go.Sx
open Classical
theorem b4d (l:List Int) (n:Int):(a1X l n).length≤l.length+1:=by
 induction l with
 |nil=>simp [a1X,upd]
 |cons y l ih=>
  unfold a1X at ih⊢
  unfold upd
  split
  · simp only [List.length_cons];omega
  · split<;>simp
theorem b8n {α S:Type} {body:S→Option (Sum S S)} (l:List α) (hl:l.length≤100) (enc:Nat→List Int→S) (em:α→List Int) (hem:∀x,(em x).length≤1)
 (h:∀pre x post s,l=pre++x::post→s.length≤100→s.Pairwise (fun a b=>a<b)→body (enc pre.length s)=some (.inl (enc (pre.length+1) ((em x).foldl a1X s)))) (he:∀s,body (enc l.length s)=some (.inr (enc l.length s))):
 k6 body (enc 0 [])=some (enc l.length ((l.flatMap em).foldl a1X [])):=by
 have:=a8J (R:=S) (body:=body) l (by omega) enc (fun s x=> .inl ((em x).foldl a1X s)) id (fun s=>enc l.length s) (fun pre s=>s.length≤pre.length∧pre.length≤l.length∧s.Pairwise (fun a b=>a<b)) (fun pre x post s hp hs=>by
  refine⟨h pre x post s hp (by omega) hs.2.2,fun s' hs'=> ?_⟩
  simp only [Sum.inl.injEq]at hs'
  subst hs'
  refine⟨?_,by rw [hp];simp,(a8D (em x) s hs.2.2).1⟩
  have hx:=hem x
  match hex:em x with
  | []=>simp;omega
  | [n]=>have:=b4d s n;simp;omega
  |_::_::_=>rw [hex]at hx;simp at hx) (fun s _=>he s) [] ⟨by simp,by simp,List.Pairwise.nil⟩
 rw [this]
 have key:∀(l:List α) (s:List Int),a9C (R:=S) (fun s x=> .inl ((em x).foldl a1X s)) l s= .inl ((l.flatMap em).foldl a1X s):=by
  intro l
  induction l with
  |nil=>intro s;rfl
  |cons x l ih=>intro s;simp only [a9C,ih,List.flatMap_cons,List.foldl_append]
 rw [key]
def a3x (h:b4):List Int:=if qr h.Mask=true then [h.Night]else []
theorem a4z (h:b4):(a3x h).length≤1:=by unfold a3x;split<;>simp
noncomputable def a4t (x:a6):List Int×Int:=if C8 x then((x.Now.Heard.flatMap a3x).foldl a1X [],0)else([],90)
theorem b7P (x:a6):a0a x=some (a4t x):=by
 unfold a0a a4t
 rw [a9M]
 by_cases h:C8 x
 · have hn:=h.1.nheard
   have hl:=b5b (body:=M3 ⟨x⟩) x.Now.Heard (by omega) (fun k a=>(a,(k:Int))) a3x [] (by simp) (fun y=>by have:=a4z y;omega) (fun pre y post a hp ha=>by
    have hw:W ((pre.length:Int)+1)=((pre.length+1:Nat):Int):=W_s (by rw [hp]at hn;simp at hn;omega)
    have hq:=(a8p (h.1.heard y (by rw [hp];simp)).2.2.2.2).1
    unfold M3 a3x
    simp only [hp,b5x,decide_true,if_true,b3A,Option.bind_some,hw,hq]
    by_cases g:qr y.Mask=true<;>simp [g,gd]<;>omega) (fun a=>by simp [M3])
   simp only [show((0:Nat):Int)=0 from rfl,List.nil_append]at hl
   simp only [h,if_true,Option.bind_some,a6k,bne_self_eq_false,Bool.false_eq_true,if_false,hl]
   unfold C5 O8
   rw [a7D (by
    have:=a2C a3x 1 a4z x.Now.Heard
    omega)]
   simp only [Option.bind_some,b8p]
 · simp [h,a6k]
theorem b5D (x:a6):a2g x=some (a4t x):=by
 have e0:=a8g x
 unfold Err at e0
 unfold a2g a4t
 rw [e0]
 by_cases h:C8 x
 · have hn:=h.1.nheard
   have hl:=b8n (body:=S4 x) x.Now.Heard (by omega) (fun k a=>(a,(k:Int))) a3x a4z (fun pre y post a hp ha hs=>by
    have hw:W ((pre.length:Int)+1)=((pre.length+1:Nat):Int):=W_s (by rw [hp]at hn;simp at hn;omega)
    unfold S4 a3x
    simp only [hp,b5x,decide_true,if_true,b3A,Option.bind_some,hw,a6H,c2I ha hs]
    by_cases g:qr y.Mask=true<;>simp [g]) (fun a=>by simp [S4])
   simp only [show((0:Nat):Int)=0 from rfl]at hl
   simp only [h,if_true,Option.bind_some,bne_self_eq_false,Bool.false_eq_true,if_false,hl]
 · simp [h]
theorem b4N:∀(l a:List Int),(l.foldl a1X a).length≤a.length+l.length
 | [],a=>by simp
 |n::l,a=>by
  have:=b4N l (a1X a n)
  have:=b4d a n
  simp only [List.foldl_cons,List.length_cons];omega
theorem b4B (x:a6):(a4t x).1.length≤1000:=by
 unfold a4t
 split
 · rename_i h
   have hn:=h.1.nheard
   have:=b4N (x.Now.Heard.flatMap a3x) []
   have:=a2C a3x 1 a4z x.Now.Heard
   simp only [List.length_nil]at*
   omega
 · simp
def okF (l:List a7) (thing long f:Int):Prop:=f+long≤144001439∧¬a7S l ⟨0,thing,0,f,f+long⟩
def a8Y (T:Int→Prop) (ok:Int→Prop) (r:Int×Int):Prop:=((∀f,T f→¬ok f)∧r=(0,3))∨∃f,T f∧ok f∧(∀g,T g→ok g→f≤g)∧r=(f,0)
theorem a8Y.one {T:Int→Prop} {ok:Int→Prop} {r s:Int×Int} (h1:a8Y T ok r) (h2:a8Y T ok s):r=s:=by
 rcases h1 with⟨a,rfl⟩|⟨f,a,b,c,rfl⟩
 · rcases h2 with⟨a',rfl⟩|⟨f',a',b',c',rfl⟩
   · rfl
   · exact absurd b' (a f' a')
 · rcases h2 with⟨a',rfl⟩|⟨f',a',b',c',rfl⟩
   · exact absurd b (a' f a)
   · have h1:=c f' a' b'
     have h2:=c' f a b
     have:f=f':=by omega
     rw [this]
def a2S (l:List a7) (thing from_ f:Int):Prop:=f=from_∨∃y,y∈l∧y.Thing=thing∧y.Until>from_∧f=y.Until
def a6S (l:List a7) (from_ f:Int):Prop:=f=from_∨∃y,y∈l∧¬y.Until<from_∧f=y.Until
theorem b8J (l:List a7) (thing from_:Int) {f:Int} (hf:from_≤f):∃g,a2S l thing from_ g∧g≤f∧∀y,y∈l→y.Thing=thing→y.Until>from_→y.Until≤f→y.Until≤g:=by
 induction l with
 |nil=>exact⟨from_, .inl rfl,hf,fun y hy=>by simp at hy⟩
 |cons x l ih=>
  obtain⟨g,h1,h2,h3⟩:=ih
  have up:∀ {g},a2S l thing from_ g→a2S (x::l) thing from_ g:=fun h=>by
   rcases h with h|⟨y,hy,a,b,c⟩
   · exact .inl h
   · exact .inr ⟨y,List.mem_cons_of_mem _ hy,a,b,c⟩
  by_cases hx:x.Thing=thing∧x.Until>from_∧x.Until≤f∧g<x.Until
  · refine⟨x.Until, .inr ⟨x,List.mem_cons_self,hx.1,hx.2.1,rfl⟩,hx.2.2.1,fun y hy a b c=> ?_⟩
    rcases List.mem_cons.1 hy with rfl|hy
    · exact Int.le_refl _
    · have:=h3 y hy a b c;omega
  · refine⟨g,up h1,h2,fun y hy a b c=> ?_⟩
    rcases List.mem_cons.1 hy with rfl|hy
    · by_cases hg:g<y.Until
      · exact absurd ⟨a,b,c,hg⟩ hx
      · omega
    · exact h3 y hy a b c
theorem a8a {l:List a7} {thing from_ f:Int} (h:a2S l thing from_ f):a6S l from_ f:=by
 rcases h with h|⟨y,hy,a,b,c⟩
 · exact .inl h
 · exact .inr ⟨y,hy,by omega,c⟩
theorem b2I {l:List a7} {from_ f:Int} (h:a6S l from_ f):from_≤f:=by
 rcases h with h|⟨y,hy,a,b⟩<;>omega
theorem b7I {l:List a7} {thing from_ f:Int} (h:a2S l thing from_ f):from_≤f:=b2I (a8a h)
theorem b7n {l:List a7} {thing from_ long f:Int} (hf:from_≤f) (hok:okF l thing long f):∃g,a2S l thing from_ g∧g≤f∧okF l thing long g:=by
 obtain⟨g,h1,h2,h3⟩:=b8J l thing from_ hf
 refine⟨g,h1,h2,⟨by have:=hok.1;omega, ?_⟩⟩
 rintro⟨o,ho,ht,hm⟩
 refine hok.2 ⟨o,ho,ht, ?_⟩
 unfold V1 at hm⊢
 simp only at hm⊢
 have hg:=b7I h1
 by_cases hu:o.Until≤f
 · have:=h3 o ho ht (by omega) hu
   omega
 · omega
theorem b2a {l:List a7} {thing from_ long:Int} {r:Int×Int} (h:a8Y (a6S l from_) (okF l thing long) r):a8Y (a2S l thing from_) (okF l thing long) r:=by
 rcases h with⟨a,rfl⟩|⟨f,a,b,c,rfl⟩
 · exact .inl ⟨fun f hf=>a f (a8a hf),rfl⟩
 · obtain⟨g,g1,g2,g3⟩:=b7n (b2I a) b
   have:=c g (a8a g1) g3
   have e:f=g:=by omega
   subst e
   exact .inr ⟨f,g1,b,fun g hg hgo=>c g (a8a hg) hgo,rfl⟩
end Go.Proofs.YtcedmbakcchkiaaGreatDoor
namespace Go.Proofs.YtcedmbakcchkiaaGreatDoor
open Go Go.Sx
open Classical
def a8f (thing from_:Int) (y:a7):List Int:=if y.Thing=thing∧y.Until>from_ then [y.Until]else []
theorem b3W (thing from_:Int) (y:a7):(a8f thing from_ y).length≤1:=by unfold a8f;split<;>simp
noncomputable def b6I (l:List a7) (thing from_ long:Int):Int×Int:=match(a0C (from_::l.flatMap (a8f thing from_))).find? (fun f=>decide (okF l thing long f))with|some f=>(f,0)|none=>(0,3)
theorem b2C {l:List a7} {thing from_ f:Int}:f∈from_::l.flatMap (a8f thing from_)↔a2S l thing from_ f:=by
 rw [List.mem_cons,List.mem_flatMap]
 unfold a2S a8f
 constructor
 · rintro(h|⟨y,hy,h⟩)
   · exact .inl h
   · split at h
     · rename_i hc
       exact .inr ⟨y,hy,hc.1,hc.2,by simpa using h⟩
     · simp at h
 · rintro(h|⟨y,hy,a,b,c⟩)
   · exact .inl h
   · exact .inr ⟨y,hy,by rw [if_pos ⟨a,b⟩];simp [c]⟩
theorem c1N (l:List a7) (thing from_ long:Int):a8Y (a2S l thing from_) (okF l thing long) (b6I l thing from_ long):=by
 unfold b6I
 have hs:=a7j (from_::l.flatMap (a8f thing from_))
 have hm:∀f,f∈a0C (from_::l.flatMap (a8f thing from_))↔a2S l thing from_ f:=fun f=>a8t.trans b2C
 generalize a0C (from_::l.flatMap (a8f thing from_))=s at hs hm
 cases hf:s.find? (fun f=>decide (okF l thing long f))with
 |none=>
  refine .inl ⟨fun f h1 h2=> ?_,rfl⟩
  have:=List.find?_eq_none.1 hf f ((hm f).2 h1)
  simp [h2]at this
 |some f=>
  obtain⟨h1,l1,l2,rfl,h2⟩:=List.find?_eq_some_iff_append.1 hf
  refine .inr ⟨f,(hm f).1 (by simp),by simpa using h1,fun g hg hok=> ?_,rfl⟩
  have hg:=(hm g).2 hg
  rw [List.pairwise_append,List.pairwise_cons]at hs
  rcases List.mem_append.1 hg with hg|hg
  · have:=h2 g hg
    simp [hok]at this
  · rcases List.mem_cons.1 hg with rfl|hg
    · exact Int.le_refl _
    · exact hs.2.1.1 g hg
noncomputable def b7h (x:a6) (thing from_ until_:Int):Int×Int:=
 if C8 x then(if 1≤thing∧thing≤99 then(if 0≤from_∧from_≤144001439 then(if 0≤until_∧until_≤144001439 then(if thing % 6=x.Me then(if from_>until_ then(0,95)else b6I x.Now.Leases thing from_ (until_-from_))else(0,92))else(0,95))else(0,95))else(0,1))else(0,90)
theorem c1H (x:a6) (thing from_ until_:Int):L2 x thing from_ until_=some (b7h x thing from_ until_):=by
 unfold L2 b7h
 rw [a9M,(a6a thing).eq,(a1q from_).eq,(a1q until_).eq]
 by_cases h:C8 x
 · simp only [h,if_true,Option.bind_some,a6k,bne_self_eq_false,Bool.false_eq_true,if_false]
   by_cases h1:1≤thing∧thing≤99
   · have hd:c9 thing=some (thing % 6):=by show some (thing.tmod 6)=_;rw [a6z (by omega)]
     by_cases h2:0≤from_∧from_≤144001439
     · by_cases h3:0≤until_∧until_≤144001439
       · simp only [h1,h2,h3,and_self,decide_true,Bool.not_true,Bool.false_eq_true,if_false,if_true,hd,Option.bind_some]
         by_cases h4:thing % 6=x.Me
         · have h4':(thing % 6 !=x.Me)=false:=by rw [bne_eq_false_iff_eq];exact h4
           simp only [h4,h4',bne_self_eq_false,Bool.false_eq_true,if_false,if_true]
           by_cases h5:from_>until_
           · simp only [h5,decide_true,if_true]
           · simp only [h5,decide_false,Bool.false_eq_true,if_false]
             have hn:=h.1.nleases
             have hl:=b5b (body:=L6 thing from_ ⟨x⟩) x.Now.Leases (by omega) (fun k a=>((k:Int),a)) (a8f thing from_) [from_] (by simp) (fun y=>by have:=b3W thing from_ y;omega) (fun pre y post a hp ha=>by
              have hw:W ((pre.length:Int)+1)=((pre.length+1:Nat):Int):=W_s (by rw [hp]at hn;simp at hn;omega)
              unfold L6 a8f
              simp only [hp,b5x,decide_true,if_true,b3A,Option.bind_some,hw]
              by_cases g1:y.Thing=thing<;>by_cases g2:y.Until>from_<;>simp [g1,g2,gd]<;>omega) (fun a=>by simp [L6])
             simp only [show((0:Nat):Int)=0 from rfl,List.singleton_append]at hl
             have hfl:=a2C (a8f thing from_) 1 (b3W thing from_) x.Now.Leases
             rw [hl]
             simp only [Option.bind_some]
             unfold C5
             rw [a7D (by simp only [List.length_cons];omega)]
             simp only [Option.bind_some]
             have hmem:∀f,f∈a0C (from_::x.Now.Leases.flatMap (a8f thing from_))→0≤f∧f≤144001439:=fun f hf=>by
              rcases b2C.1 (a8t.1 hf)with hh|⟨y,hy,a,b,c⟩
              · omega
              · have:=(h.1.leases y hy).2.2.2.2.2.1;omega
             have hlen:(a0C (from_::x.Now.Leases.flatMap (a8f thing from_))).length≤1000:=by
              unfold a0C
              rw [List.length_mergeSort]
              simp only [List.length_cons];omega
             unfold b6I
             generalize a0C (from_::x.Now.Leases.flatMap (a8f thing from_))=s at hmem hlen
             rw [a3W s hlen (fun f=>decide (okF x.Now.Leases thing (until_-from_) f)) (fun f=>(f,(0:Int))) (fun i f hf=>by
              have hi:=(List.getElem?_eq_some_iff.1 hf).1
              have hlt:((i:Int)<(s.length:Int)):=by omega
              have hb:=hmem f (List.mem_of_getElem? hf)
              have hw:W (W (f+until_)-from_)=f+(until_-from_):=by rw [a2J (z:=f+until_) (by omega),a2J (by omega)];omega
              unfold Q7
              simp only [hlt,decide_true,if_true,M4 hf,Option.bind_some,hw,(a1q _).eq,(c2m x h _).eq,W_s (show i<9223372036854775807 by omega)]
              by_cases g1:f+(until_-from_)≤144001439
              · have g1':0≤f+(until_-from_)∧f+(until_-from_)≤144001439:=by omega
                by_cases g2:a7S x.Now.Leases ⟨0,thing,0,f,f+(until_-from_)⟩
                · have:¬okF x.Now.Leases thing (until_-from_) f:=fun hk=>hk.2 g2
                  simp [g1',g2,this]
                · have:okF x.Now.Leases thing (until_-from_) f:=⟨g1,g2⟩
                  simp [g1',g2,this]
              · have g1':¬(0≤f+(until_-from_)∧f+(until_-from_)≤144001439):=by omega
                have:¬okF x.Now.Leases thing (until_-from_) f:=fun hk=>g1 hk.1
                simp only [g1',this,decide_false,Bool.false_eq_true,if_false]) (by simp [Q7])]
             cases s.find? (fun f=>decide (okF x.Now.Leases thing (until_-from_) f))<;>rfl
         · have h4':(thing % 6 !=x.Me)=true:=by rw [bne_iff_ne];exact h4
           simp only [h4,h4',if_true,if_false]
       · simp [h1,h2,h3]
     · simp [h1,h2]
   · simp [h1]
 · simp [h,a6k]
theorem b4j {x:a6} (h:C8 x) (y:a7) {body:(Bool×Int)→Option (Sum (Bool×Int) (Bool×Int))}
 (hb:body=fun(free,k)=>if(decide (k<(x.Now.Leases.length:Int)))=true then if free=true then Option.bind (idx x.Now.Leases k) fun e=>Option.bind (a0p e y) fun m=>some (.inl ((!m),(W (k+1))))else some (.inl (false,(W (k+1))))else some (.inr (free,k))):
 k6 body (true,0)=some (decide (¬a7S x.Now.Leases y),(x.Now.Leases.length:Int)):=by
 have hn:=h.1.nleases
 have hl:=b3v (body:=body) (fun k=>(decide (¬∃o,o∈x.Now.Leases.take k∧o.Thing=y.Thing∧V1 o y),(k:Int))) x.Now.Leases.length (by omega) (decide (¬a7S x.Now.Leases y),(x.Now.Leases.length:Int)) (fun k hk=>by
  obtain⟨o,ho⟩:=a4f hk
  have hlt:((k:Int)<(x.Now.Leases.length:Int)):=by omega
  have hw:W ((k:Int)+1)=((k+1:Nat):Int):=W_s (by omega)
  rw [hb]
  simp only [hlt,decide_true,if_true,M4 ho,Option.bind_some,hw,(b6W _ _).eq]
  by_cases g:∃o,o∈x.Now.Leases.take k∧o.Thing=y.Thing∧V1 o y
  · have g':∃o,o∈x.Now.Leases.take (k+1)∧o.Thing=y.Thing∧V1 o y:=by
     obtain⟨z,hz,hp⟩:=g
     exact⟨z,by rw [a1z ho];exact List.mem_append_left _ hz,hp⟩
    simp only [g,g',not_true_eq_false,decide_false,Bool.false_eq_true,if_false]
  · by_cases g2:o.Thing=y.Thing∧V1 o y
    · have g':∃o,o∈x.Now.Leases.take (k+1)∧o.Thing=y.Thing∧V1 o y:=⟨o,by rw [a1z ho];simp,g2⟩
      simp only [g,g',g2,not_true_eq_false,not_false_eq_true,decide_true,decide_false,if_true,and_self,Bool.not_true]
    · have g':¬∃o,o∈x.Now.Leases.take (k+1)∧o.Thing=y.Thing∧V1 o y:=by
       rintro⟨z,hz,hp⟩
       rw [a1z ho]at hz
       rcases List.mem_append.1 hz with hz|hz
       · exact g ⟨z,hz,hp⟩
       · rw [List.mem_singleton.1 hz]at hp;exact g2 hp
      simp only [g,g',g2,not_false_eq_true,decide_true,decide_false,if_true,Bool.not_false]) (by
  rw [hb]
  simp [a7S])
 simpa using hl
def a6C (T:Int→Prop) (ok:Int→Prop) (b:Int):Prop:=(b= -1∧∀f,T f→¬ok f)∨(0≤b∧T b∧ok b∧∀g,T g→ok g→b≤g)
theorem a8r {T T':Int→Prop} {ok:Int→Prop} {b f:Int} (h:a6C T ok b) (hf:0≤f) (hT:∀g,T' g↔T g∨g=f) (hok:ok f) (hn:¬(b≥0∧f≥b)):a6C T' ok f:=by
 refine .inr ⟨hf,(hT f).2 (.inr rfl),hok,fun g hg hgo=> ?_⟩
 rcases(hT g).1 hg with hg|hg
 · rcases h with⟨_,h2⟩|⟨h1,h2,h3,h4⟩
   · exact absurd hgo (h2 g hg)
   · have:=h4 g hg hgo;omega
 · omega
theorem a4m {T T':Int→Prop} {ok:Int→Prop} {b f:Int} (h:a6C T ok b) (hT:∀g,T' g↔T g∨g=f) (hn:ok f→b≥0∧f≥b):a6C T' ok b:=by
 rcases h with⟨h1,h2⟩|⟨h1,h2,h3,h4⟩
 · refine .inl ⟨h1,fun g hg hgo=> ?_⟩
   rcases(hT g).1 hg with hg|hg
   · exact h2 g hg hgo
   · subst hg;have:=hn hgo;omega
 · refine .inr ⟨h1,(hT b).2 (.inl h2),h3,fun g hg hgo=> ?_⟩
   rcases(hT g).1 hg with hg|hg
   · exact h4 g hg hgo
   · subst hg;exact(hn hgo).2
theorem b2R {T T':Int→Prop} {ok:Int→Prop} {b:Int} (h:a6C T ok b) (hT:∀g,T' g↔T g):a6C T' ok b:=by
 rcases h with⟨h1,h2⟩|⟨h1,h2,h3,h4⟩
 · exact .inl ⟨h1,fun g hg=>h2 g ((hT g).1 hg)⟩
 · exact .inr ⟨h1,(hT b).2 h2,h3,fun g hg=>h4 g ((hT g).1 hg)⟩
def a1g (l:List a7) (from_:Int):Nat→Int→Prop
 |0,_=>False
 |k+1,f=>a6S (l.take k) from_ f
theorem c0r (x:a6) (d:K4):a4s x d=some (b7h x d.Thing d.From d.Until):=by
 have e0:=a8g x
 unfold Err at e0
 unfold a4s b7h
 rw [e0,(a4I d.Thing).eq,(W6 d.From).eq,(W6 d.Until).eq]
 by_cases h:C8 x
 · simp only [h,if_true,Option.bind_some,bne_self_eq_false,Bool.false_eq_true,if_false]
   by_cases h1:1≤d.Thing∧d.Thing≤99
   · have ht:d.Thing.tmod 6=d.Thing % 6:=a6z (by omega)
     by_cases h2:0≤d.From∧d.From≤144001439
     · by_cases h3:0≤d.Until∧d.Until≤144001439
       · simp only [h1,h2,h3,and_self,decide_true,Bool.not_true,Bool.false_eq_true,if_false,if_true,ht]
         by_cases h4:d.Thing % 6=x.Me
         · have h4':(d.Thing % 6 !=x.Me)=false:=by rw [bne_eq_false_iff_eq];exact h4
           simp only [h4,h4',bne_self_eq_false,Bool.false_eq_true,if_false,if_true]
           by_cases h5:d.From>d.Until
           · simp only [h5,decide_true,if_true]
           · simp only [h5,decide_false,Bool.false_eq_true,if_false]
             have hn:=h.1.nleases
             have w0:W (d.Until-d.From)=d.Until-d.From:=a2J (by omega)
             obtain⟨e,he,i,b,rfl,hb⟩:=a8B (body:=a1I x d) (fun st=>∃(k:Nat),st.1=(k:Int)-1∧k≤x.Now.Leases.length+1∧a6C (a1g x.Now.Leases d.From k) (okF x.Now.Leases d.Thing (d.Until-d.From)) st.2) (fun st=>((x.Now.Leases.length:Int)-st.1).toNat) (fun st=>∃(i b:Int),st=(i,b)∧a6C (a6S x.Now.Leases d.From) (okF x.Now.Leases d.Thing (d.Until-d.From)) b) (by
              rintro⟨i,b⟩ ⟨k,hi,hk,hb⟩
              simp only at hi hb
              subst hi
              unfold a1I
              by_cases hlt:(k:Int)-1<(x.Now.Leases.length:Int)
              · right
                have hw:W ((k:Int)-1+1)=((k+1:Nat):Int)-1:=by rw [a2J (by omega)];omega
                have fin:∀b',a6C (a1g x.Now.Leases d.From (k+1)) (okF x.Now.Leases d.Thing (d.Until-d.From)) b'→∃s',some (Sum.inl (((k+1:Nat):Int)-1,b'))=some (Sum.inl s':Sum (Int×Int) (Int×Int))∧(∃(k:Nat),s'.1=(k:Int)-1∧k≤x.Now.Leases.length+1∧a6C (a1g x.Now.Leases d.From k) (okF x.Now.Leases d.Thing (d.Until-d.From)) s'.2)∧((x.Now.Leases.length:Int)-s'.1).toNat<((x.Now.Leases.length:Int)-((k:Int)-1)).toNat:=fun b' hb'=>⟨_,rfl,⟨k+1,rfl,by omega,hb'⟩,by simp only;omega⟩
                cases k with
                |zero=>
                 have hneg:¬(((0:Nat):Int)-1≥0):=by omega
                 have hff:¬d.From<d.From:=by omega
                 have hT:∀g,a1g x.Now.Leases d.From (0+1) g↔a1g x.Now.Leases d.From 0 g∨g=d.From:=fun g=>by
                  simp [a1g,a6S]
                 have hfl:=b4j h ⟨0,d.Thing,0,d.From,d.From+(d.Until-d.From)⟩ (body:=U3 x d) (by
                  unfold U3
                  rw [w0,a2J (z:=d.From+(d.Until-d.From)) (by omega)])
                 simp only [hlt,decide_true,if_true,hneg,decide_false,Bool.false_eq_true,if_false,hff,w0,hw,hfl,Option.bind_some,a2J (z:=d.From+(d.Until-d.From)) (by omega)]
                 have g1:¬d.From+(d.Until-d.From)>144001439:=by omega
                 simp only [g1,decide_false,Bool.false_eq_true,if_false]
                 have hbn:¬b≥0:=by
                  rcases hb with⟨hb,_⟩|⟨_,hb,_⟩
                  · omega
                  · exact absurd hb (by simp [a1g])
                 simp only [hbn,decide_false,Bool.false_eq_true,if_false]
                 by_cases g:a7S x.Now.Leases ⟨0,d.Thing,0,d.From,d.From+(d.Until-d.From)⟩
                 · simp only [g,not_true_eq_false,decide_false,Bool.false_eq_true,if_false]
                   exact fin b (a4m hb hT fun hk=>absurd g hk.2)
                 · simp only [g,not_false_eq_true,decide_true,if_true]
                   exact fin d.From (a8r hb (by omega) hT ⟨by omega,g⟩ (by omega))
                |succ k=>
                 obtain⟨y,hy⟩:=a4f (l:=x.Now.Leases) (i:=k) (by omega)
                 have hyv:=h.1.leases y (List.mem_of_getElem? hy)
                 have hyu:=hyv.2.2.2.2.2.1
                 have hpos:((k+1:Nat):Int)-1≥0:=by omega
                 have hix:idx x.Now.Leases (((k+1:Nat):Int)-1)=some y:=by
                  rw [show((k+1:Nat):Int)-1=(k:Int) by omega];exact M4 hy
                 have hfl:=b4j h ⟨0,d.Thing,0,y.Until,y.Until+(d.Until-d.From)⟩ (body:=U2 x d y) (by
                  unfold U2
                  rw [w0,a2J (z:=y.Until+(d.Until-d.From)) (by omega)])
                 simp only [hlt,decide_true,if_true,hpos,hix,Option.bind_some,hw,w0,a2J (z:=y.Until+(d.Until-d.From)) (by omega),hfl]
                 have hTm:∀g,a1g x.Now.Leases d.From (k+1+1) g↔a1g x.Now.Leases d.From (k+1) g∨(¬y.Until<d.From∧g=y.Until):=fun g=>by
                  simp only [a1g,a6S,a1z hy,List.mem_append,List.mem_singleton]
                  constructor
                  · rintro(hh|⟨z,hz|hz,a,b⟩)
                    · exact .inl (.inl hh)
                    · exact .inl (.inr ⟨z,hz,a,b⟩)
                    · subst hz;exact .inr ⟨a,b⟩
                  · rintro((hh|⟨z,hz,a,b⟩)|⟨a,b⟩)
                    · exact .inl hh
                    · exact .inr ⟨z, .inl hz,a,b⟩
                    · exact .inr ⟨y, .inr rfl,a,b⟩
                 by_cases c1:y.Until<d.From
                 · simp only [c1,decide_true,if_true]
                   exact fin b (b2R hb fun g=>by rw [hTm g];simp [c1])
                 · have hT:∀g,a1g x.Now.Leases d.From (k+1+1) g↔a1g x.Now.Leases d.From (k+1) g∨g=y.Until:=fun g=>by rw [hTm g];simp [c1]
                   simp only [c1,decide_false,Bool.false_eq_true,if_false]
                   by_cases c2:y.Until+(d.Until-d.From)>144001439
                   · simp only [c2,decide_true,if_true]
                     exact fin b (a4m hb hT fun hk=>by have:=hk.1;omega)
                   · simp only [c2,decide_false,Bool.false_eq_true,if_false]
                     by_cases c3:b≥0
                     · by_cases c4:y.Until≥b
                       · simp only [c3,c4,decide_true,if_true]
                         exact fin b (a4m hb hT fun _=>⟨c3,c4⟩)
                       · simp only [c3,c4,decide_true,if_true,decide_false,Bool.false_eq_true,if_false]
                         by_cases g:a7S x.Now.Leases ⟨0,d.Thing,0,y.Until,y.Until+(d.Until-d.From)⟩
                         · simp only [g,not_true_eq_false,decide_false,Bool.false_eq_true,if_false]
                           exact fin b (a4m hb hT fun hk=>absurd g hk.2)
                         · simp only [g,not_false_eq_true,decide_true,if_true]
                           exact fin y.Until (a8r hb (by omega) hT ⟨by omega,g⟩ (by omega))
                     · simp only [c3,decide_false,Bool.false_eq_true,if_false]
                       by_cases g:a7S x.Now.Leases ⟨0,d.Thing,0,y.Until,y.Until+(d.Until-d.From)⟩
                       · simp only [g,not_true_eq_false,decide_false,Bool.false_eq_true,if_false]
                         exact fin b (a4m hb hT fun hk=>absurd g hk.2)
                       · simp only [g,not_false_eq_true,decide_true,if_true]
                         exact fin y.Until (a8r hb (by omega) hT ⟨by omega,g⟩ (by omega))
              · left
                have hk':k=x.Now.Leases.length+1:=by omega
                subst hk'
                refine⟨(((x.Now.Leases.length+1:Nat):Int)-1,b),by simp only [hlt,decide_false,Bool.false_eq_true,if_false],_,_,rfl, ?_⟩
                exact b2R hb fun g=>by simp [a1g]) (-1,-1) ⟨0,by simp,by omega, .inl ⟨rfl,fun f hf=>by simp [a1g]at hf⟩⟩ (by simp only [a5g];omega)
             rw [he]
             simp only [Option.bind_some]
             have hv:=c1N x.Now.Leases d.Thing d.From (d.Until-d.From)
             by_cases hneg:b<0
             · simp only [hneg,decide_true,if_true]
               congr 1
               refine a8Y.one (b2a (.inl ⟨?_,rfl⟩)) hv
               rcases hb with⟨_,hb⟩|⟨hb,_⟩
               · exact hb
               · omega
             · simp only [hneg,decide_false,Bool.false_eq_true,if_false]
               congr 1
               refine a8Y.one (b2a (.inr ⟨b, ?_⟩)) hv
               rcases hb with⟨hb,_⟩|⟨_,hb1,hb2,hb3⟩
               · omega
               · exact⟨hb1,hb2,hb3,rfl⟩
         · have h4':(d.Thing % 6 !=x.Me)=true:=by rw [bne_iff_ne];exact h4
           simp only [h4,h4',if_true,if_false]
       · simp [h1,h2,h3]
     · simp [h1,h2]
   · simp [h1]
 · simp [h]
end Go.Proofs.YtcedmbakcchkiaaGreatDoor
namespace Go.Proofs.YtcedmbakcchkiaaGreatDoor
open Go Go.Sx
set_option maxRecDepth 100000
def SB0:b5:=⟨0, [], [], [], [], []⟩
def SB1:b5:=⟨1, [], [⟨4,7,77,0,14,false⟩], [], [], []⟩
def SB2:b5:=⟨1, [], [⟨4,7,77,0,46,true⟩], [], [], []⟩
def SL:a6:=⟨2,⟨0, [], [], [], [⟨1,8,0,100,200⟩], []⟩,SB0⟩
theorem sn1:a8G=some (⟨1,SB1,SB0⟩,true):=by decide+kernel
theorem sn2:Y8 ⟨1,SB1,SB0⟩ ⟨2,5,1,4,7,0,0,0,0,0,0⟩=some (⟨1,SB2,SB0⟩,0):=by decide+kernel
theorem sn3:a2X ⟨1,SB2,SB0⟩=some (⟨1,SB2,SB2⟩,0):=by decide+kernel
theorem sn4:a2F ⟨1,SB2,SB2⟩ 2=some ([⟨3,1,2,4,7,0,77,0,0,0,0⟩],0):=by decide+kernel
theorem sn5:a0O 2=some (⟨2,SB0,SB0⟩,0):=by decide+kernel
theorem sn6:P2 ⟨2,SB0,SB0⟩ 8 0 100 200=some (SL,0):=by decide+kernel
theorem sn7:J1 SL 8 150=some (false,0):=by decide+kernel
theorem sn8:J1 SL 8 200=some (true,0):=by decide+kernel
theorem sn9:P2 SL 8 1 150 250=some (⟨0,SB0,SB0⟩,93):=by decide+kernel
theorem sna:C5 [150,200]=some [150,200]:=by
 have:a0C [150,200]= [150,200]:=List.mergeSort_of_pairwise (by simp)
 unfold C5
 rw [this];rfl
theorem snb:I7 SL=some (some ⟨SL⟩,0):=by decide+kernel
theorem snc:k6 (L6 8 150 ⟨SL⟩) (0, [150])=some (1, [150,200]):=by decide+kernel
theorem snd:(Option.bind (k6 (Q7 8 150 250 ⟨SL⟩ [150,200]) 0) fun e=>match e with| .inl _=>some ((0:Int),(3:Int))| .inr r=>some r)=some (200,0):=by decide+kernel
theorem sne:t6 8=some true:=by decide+kernel
theorem snf:e7 150=some true:=by decide+kernel
theorem sng:e7 250=some true:=by decide+kernel
theorem snh:L2 SL 8 150 250=some (200,0):=by
 unfold L2
 rw [snb]
 have h2:((SL.Me !=SL.Me)=true)=False:=by simp
 simp only [Option.bind_some,a6k,sne,snf,sng,snc,sna,show((0:Int) !=0)=false from rfl,Bool.false_eq_true,if_false,Bool.not_true,c9,show((8:Int).tmod 6 !=SL.Me)=false from rfl,show decide ((150:Int)>250)=false from rfl]
 exact snd
theorem sni:a1c SB1=some (⟨#[114,111,117,110,100,32,49,10,98,105,100,32,52,32,55,32,55,55,32,48,32,49,52,32,48,10]⟩,0):=by decide+kernel
theorem snj:a0c [⟨3,1,2,4,7,0,77,0,0,0,0⟩] [⟨3,1,2,4,7,0,77,0,0,0,0⟩]=some true:=by decide+kernel
theorem c1j:a4A=some true:=by
 unfold a4A
 rw [sn1,Option.bind_some]
 dsimp only
 rw [sn2,Option.bind_some]
 dsimp only
 rw [sn3,Option.bind_some]
 dsimp only
 rw [sn4,Option.bind_some]
 dsimp only
 rw [if_neg (by decide),if_neg (by decide),if_neg (by decide),if_neg (by decide),if_neg (by decide),if_neg (by decide)]
 rw [show idx SB1.Bids 0=some ⟨4,7,77,0,14,false⟩ from rfl,Option.bind_some,if_pos (by decide)]
 rw [show idx SB2.Bids 0=some ⟨4,7,77,0,46,true⟩ from rfl,Option.bind_some]
 rw [snj,Option.bind_some,sn5,Option.bind_some]
 dsimp only
 rw [sn6,Option.bind_some]
 dsimp only
 rw [sn7,Option.bind_some]
 dsimp only
 rw [sn8,Option.bind_some]
 dsimp only
 rw [sn9,Option.bind_some]
 dsimp only
 rw [snh,Option.bind_some]
 dsimp only
 rw [sni,Option.bind_some]
 dsimp only
 rw [if_pos (by decide),if_pos (by decide),if_pos (by decide),if_pos (by decide),if_pos (by decide),if_pos (by decide),if_pos (by decide),if_pos (by decide),if_pos (by decide),if_pos (by decide),if_pos (by decide),if_pos (by decide)]
 rw [beq_self_eq_true]
end Go.Proofs.YtcedmbakcchkiaaGreatDoor
namespace Go.Proofs.YtcedmbakcchkiaaGreatDoor
open Go Go.Sx
open Classical
theorem b0q (x:a6) (night:Int) (d:K4) (_:a6.G x) (_:InK .i64 night) (_:K4.G d):a0Q x night d=some true:=by
 have s1:=b1S (a4t x).1 (by have:=b4B x;omega)
 unfold a0Q
 rw [b8h,b6c,b7P,b5D,c2S,c1W,c1H,c0r]
 simp only [Option.bind_some,s1,beq_self_eq_true,if_true,c1j]
end Go.Proofs.YtcedmbakcchkiaaGreatDoor
