/- What may be read at the types of the statement's parameters; plain facts. -/
import Derived.Test.YtcedmbakcchkiaaGreatDoorL2
set_option linter.unusedVariables false
set_option linter.unusedSimpArgs false
namespace Go.Proofs.YtcedmbakcchkiaaGreatDoor
open Go Go.RowKit Go.Sx
def TSlot.G (x:TSlot):Prop:=InK .i64 x.Night∧InK .i64 x.Promised∧InK .i64 x.Ballot∧InK .i64 x.Value
theorem op_110:Opens Tryz.prog 110 TSlot.c TSlot.G:=
 (Opens.struct Tryz.underlying110 (OpensF.cons (s:=1) (Opens.int Tryz.underlying3) (OpensF.cons (s:=1) (Opens.int Tryz.underlying3) (OpensF.cons (s:=1) (Opens.int Tryz.underlying3) (OpensF.last (s:=1) (Opens.int Tryz.underlying3) rfl (by kernel_rfl) rfl) rfl (by kernel_rfl)) rfl (by kernel_rfl)) rfl (by kernel_rfl)) (by kernel_rfl)).iso (fun x=>(⟨x.1,x.2.1,x.2.2.1,x.2.2.2⟩:TSlot)) (fun _=>rfl) (fun _ h=>h)
theorem op_22:Opens Tryz.prog 22 (fun l:(List TSlot)=> [.lst 4 l.length (l.flatMap TSlot.c)]) (fun l=>(l.length*32≤reachBytes∧l.length≤maxLen∧∀y:TSlot,y∈l→TSlot.G y)):=
 Opens.slice Tryz.underlying22 op_110 (by kernel_rfl) (by kernel_rfl) (fun _=>rfl) (fun _=>rfl) (by decide)
def TBid.G (x:TBid):Prop:=InK .i64 x.Night∧InK .i64 x.Ballot∧InK .i64 x.Value∧InK .i64 x.Best∧InK .i64 x.Mask∧True
theorem op_108:Opens Tryz.prog 108 TBid.c TBid.G:=
 (Opens.struct Tryz.underlying108 (OpensF.cons (s:=1) (Opens.int Tryz.underlying3) (OpensF.cons (s:=1) (Opens.int Tryz.underlying3) (OpensF.cons (s:=1) (Opens.int Tryz.underlying3) (OpensF.cons (s:=1) (Opens.int Tryz.underlying3) (OpensF.cons (s:=1) (Opens.int Tryz.underlying3) (OpensF.last (s:=1) (Opens.bool Tryz.underlying4) rfl (by kernel_rfl) rfl) rfl (by kernel_rfl)) rfl (by kernel_rfl)) rfl (by kernel_rfl)) rfl (by kernel_rfl)) rfl (by kernel_rfl)) (by kernel_rfl)).iso (fun x=>(⟨x.1,x.2.1,x.2.2.1,x.2.2.2.1,x.2.2.2.2.1,x.2.2.2.2.2⟩:TBid)) (fun _=>rfl) (fun _ h=>h)
theorem op_23:Opens Tryz.prog 23 (fun l:(List TBid)=> [.lst 6 l.length (l.flatMap TBid.c)]) (fun l=>(l.length*48≤reachBytes∧l.length≤maxLen∧∀y:TBid,y∈l→TBid.G y)):=
 Opens.slice Tryz.underlying23 op_108 (by kernel_rfl) (by kernel_rfl) (fun _=>rfl) (fun _=>rfl) (by decide)
def THeard.G (x:THeard):Prop:=InK .i64 x.Night∧InK .i64 x.Ballot∧InK .i64 x.Value∧InK .i64 x.Mask
theorem op_149:Opens Tryz.prog 149 THeard.c THeard.G:=
 (Opens.struct Tryz.underlying149 (OpensF.cons (s:=1) (Opens.int Tryz.underlying3) (OpensF.cons (s:=1) (Opens.int Tryz.underlying3) (OpensF.cons (s:=1) (Opens.int Tryz.underlying3) (OpensF.last (s:=1) (Opens.int Tryz.underlying3) rfl (by kernel_rfl) rfl) rfl (by kernel_rfl)) rfl (by kernel_rfl)) rfl (by kernel_rfl)) (by kernel_rfl)).iso (fun x=>(⟨x.1,x.2.1,x.2.2.1,x.2.2.2⟩:THeard)) (fun _=>rfl) (fun _ h=>h)
theorem op_24:Opens Tryz.prog 24 (fun l:(List THeard)=> [.lst 4 l.length (l.flatMap THeard.c)]) (fun l=>(l.length*32≤reachBytes∧l.length≤maxLen∧∀y:THeard,y∈l→THeard.G y)):=
 Opens.slice Tryz.underlying24 op_149 (by kernel_rfl) (by kernel_rfl) (fun _=>rfl) (fun _=>rfl) (by decide)
def TLease.G (x:TLease):Prop:=InK .i64 x.No∧InK .i64 x.Thing∧InK .i64 x.To∧InK .i64 x.From∧InK .i64 x.Until
theorem op_112:Opens Tryz.prog 112 TLease.c TLease.G:=
 (Opens.struct Tryz.underlying112 (OpensF.cons (s:=1) (Opens.int Tryz.underlying3) (OpensF.cons (s:=1) (Opens.int Tryz.underlying3) (OpensF.cons (s:=1) (Opens.int Tryz.underlying3) (OpensF.cons (s:=1) (Opens.int Tryz.underlying3) (OpensF.last (s:=1) (Opens.int Tryz.underlying3) rfl (by kernel_rfl) rfl) rfl (by kernel_rfl)) rfl (by kernel_rfl)) rfl (by kernel_rfl)) rfl (by kernel_rfl)) (by kernel_rfl)).iso (fun x=>(⟨x.1,x.2.1,x.2.2.1,x.2.2.2.1,x.2.2.2.2⟩:TLease)) (fun _=>rfl) (fun _ h=>h)
theorem op_25:Opens Tryz.prog 25 (fun l:(List TLease)=> [.lst 5 l.length (l.flatMap TLease.c)]) (fun l=>(l.length*40≤reachBytes∧l.length≤maxLen∧∀y:TLease,y∈l→TLease.G y)):=
 Opens.slice Tryz.underlying25 op_112 (by kernel_rfl) (by kernel_rfl) (fun _=>rfl) (fun _=>rfl) (by decide)
def TLoan.G (x:TLoan):Prop:=InK .i64 x.Owner∧InK .i64 x.No∧InK .i64 x.Thing∧InK .i64 x.From∧InK .i64 x.Until∧True
theorem op_114:Opens Tryz.prog 114 TLoan.c TLoan.G:=
 (Opens.struct Tryz.underlying114 (OpensF.cons (s:=1) (Opens.int Tryz.underlying3) (OpensF.cons (s:=1) (Opens.int Tryz.underlying3) (OpensF.cons (s:=1) (Opens.int Tryz.underlying3) (OpensF.cons (s:=1) (Opens.int Tryz.underlying3) (OpensF.cons (s:=1) (Opens.int Tryz.underlying3) (OpensF.last (s:=1) (Opens.bool Tryz.underlying4) rfl (by kernel_rfl) rfl) rfl (by kernel_rfl)) rfl (by kernel_rfl)) rfl (by kernel_rfl)) rfl (by kernel_rfl)) rfl (by kernel_rfl)) (by kernel_rfl)).iso (fun x=>(⟨x.1,x.2.1,x.2.2.1,x.2.2.2.1,x.2.2.2.2.1,x.2.2.2.2.2⟩:TLoan)) (fun _=>rfl) (fun _ h=>h)
theorem op_26:Opens Tryz.prog 26 (fun l:(List TLoan)=> [.lst 6 l.length (l.flatMap TLoan.c)]) (fun l=>(l.length*48≤reachBytes∧l.length≤maxLen∧∀y:TLoan,y∈l→TLoan.G y)):=
 Opens.slice Tryz.underlying26 op_114 (by kernel_rfl) (by kernel_rfl) (fun _=>rfl) (fun _=>rfl) (by decide)
def TState.G (x:TState):Prop:=InK .i64 x.Round∧(x.Slots.length*32≤reachBytes∧x.Slots.length≤maxLen∧∀y:TSlot,y∈x.Slots→TSlot.G y)∧(x.Bids.length*48≤reachBytes∧x.Bids.length≤maxLen∧∀y:TBid,y∈x.Bids→TBid.G y)∧(x.Heard.length*32≤reachBytes∧x.Heard.length≤maxLen∧∀y:THeard,y∈x.Heard→THeard.G y)∧(x.Leases.length*40≤reachBytes∧x.Leases.length≤maxLen∧∀y:TLease,y∈x.Leases→TLease.G y)∧(x.Loans.length*48≤reachBytes∧x.Loans.length≤maxLen∧∀y:TLoan,y∈x.Loans→TLoan.G y)
theorem op_28:Opens Tryz.prog 28 TState.c TState.G:=
 (Opens.struct Tryz.underlying28 (OpensF.cons (s:=1) (Opens.int Tryz.underlying3) (OpensF.cons (s:=1) op_22 (OpensF.cons (s:=1) op_23 (OpensF.cons (s:=1) op_24 (OpensF.cons (s:=1) op_25 (OpensF.last (s:=1) op_26 rfl (by kernel_rfl) rfl) rfl (by kernel_rfl)) rfl (by kernel_rfl)) rfl (by kernel_rfl)) rfl (by kernel_rfl)) rfl (by kernel_rfl)) (by kernel_rfl)).iso (fun x=>(⟨x.1,x.2.1,x.2.2.1,x.2.2.2.1,x.2.2.2.2.1,x.2.2.2.2.2⟩:TState)) (fun _=>rfl) (fun _ h=>h)
def TStation.G (x:TStation):Prop:=InK .i64 x.Me∧TState.G x.Now∧TState.G x.Safe
theorem op_30:Opens Tryz.prog 30 TStation.c TStation.G:=
 (Opens.struct Tryz.underlying30 (OpensF.cons (s:=1) (Opens.int Tryz.underlying3) (OpensF.cons (s:=6) op_28 (OpensF.last (s:=6) op_28 rfl (by kernel_rfl) rfl) rfl (by kernel_rfl)) rfl (by kernel_rfl)) (by kernel_rfl)).iso (fun x=>(⟨x.1,x.2.1,x.2.2⟩:TStation)) (fun _=>rfl) (fun _ h=>h)
end Go.Proofs.YtcedmbakcchkiaaGreatDoor
namespace Go.Proofs.YtcedmbakcchkiaaGreatDoor
open Go Go.Sx
theorem W_id {z:Int} (h: -9223372036854775808≤z∧z≤9223372036854775807):W z=z:=wrap_id h
theorem W_s {k:Nat} (h:k<9223372036854775807):W ((k:Int)+1)=((k+1:Nat):Int):=wrap_s h
def scan {R:Type} (q:Nat→Option R):Nat→Nat→Sum Nat R
 |k,0=> .inl k
 |k,m+1=>match q k with|none=>scan q (k+1) m|some r=> .inr r
theorem loop_scan {R:Type} {body:Int→Option (Sum Int (Sum Int R))} (n:Nat) (hn:n≤9223372036854775807) (q:Nat→Option R) (k:Nat) (hk:k≤n)
 (h:∀i,k≤i→i<n→body (i:Int)=some (match q i with|none=> .inl ((i+1:Nat):Int)|some r=> .inr (.inr r)))
 (he:body (n:Int)=some (.inr (.inl (n:Int)))):
 loopF body (k:Int)=some (match scan q k (n-k)with| .inl j=> .inl (j:Int)| .inr r=> .inr r):=by
 have key:∀(m k N:Nat),k+m=n→m<N→(∀i,k≤i→i<n→body (i:Int)=some (match q i with|none=> .inl ((i+1:Nat):Int)|some r=> .inr (.inr r)))→
  loopO body N (k:Int)=some (match scan q k m with| .inl j=> .inl (j:Int)| .inr r=> .inr r):=by
  intro m
  induction m with
  |zero=>
   intro k N hkm hN _
   cases N with
   |zero=>omega
   |succ N=>
    have:k=n:=by omega
    subst this
    simp only [loopO,he,scan]
  |succ m ih=>
   intro k N hkm hN hb
   cases N with
   |zero=>omega
   |succ N=>
    simp only [loopO,hb k (Nat.le_refl _) (by omega),scan]
    cases hq:q k with
    |none=>exact ih (k+1) N (by omega) (by omega) (fun i h1 h2=>hb i (by omega) h2)
    |some r=>rfl
 exact key (n-k) k FUEL (by omega) (by unfold FUEL;omega) h
theorem scan_none {R:Type} {q:Nat→Option R}:∀(m k:Nat),(∀i,k≤i→i<k+m→q i=none)→scan q k m= .inl (k+m)
 |0,k,_=>rfl
 |m+1,k,h=>by
  simp only [scan,h k (Nat.le_refl _) (by omega)]
  rw [scan_none m (k+1) (fun i h1 h2=>h i (by omega) (by omega))]
  congr 1;omega
theorem scan_some {R:Type} {q:Nat→Option R}:∀(m k i:Nat),k≤i→i<k+m→q i≠none→∃j r,k≤j∧j<k+m∧q j=some r∧scan q k m= .inr r
 |0,k,i,h1,h2,_=>by omega
 |m+1,k,i,h1,h2,h3=>by
  cases hq:q k with
  |some r=>exact⟨k,r,Nat.le_refl _,by omega,hq,by simp only [scan,hq]⟩
  |none=>
   have:k≠i:=fun e=>h3 (e▸hq)
   obtain⟨j,r,a,b,c,d⟩:=scan_some m (k+1) i (by omega) (by omega) h3
   exact⟨j,r,by omega,by omega,c,by simp only [scan,hq,d]⟩
theorem loop_all {body:Int→Option (Sum Int (Sum Int Bool))} (n:Nat) (hn:n≤9223372036854775807) (q:Nat→Prop) [DecidablePred q] (k:Nat) (hk:k≤n)
 (h:∀i,k≤i→i<n→body (i:Int)=some (if q i then .inl ((i+1:Nat):Int)else .inr (.inr false)))
 (he:body (n:Int)=some (.inr (.inl (n:Int)))) (ans:Bool) (hb:ans=true↔∀i,k≤i→i<n→q i):
 (loopF body (k:Int)).bind (fun e=>match e with| .inl _=>some true| .inr r=>some r)=some ans:=by
 rw [loop_scan n hn (fun i=>if q i then none else some false) k hk (fun i h1 h2=>by rw [h i h1 h2];by_cases hq:q i<;>simp [hq]) he]
 by_cases hall:∀i,k≤i→i<n→q i
 · rw [scan_none _ _ (fun i h1 h2=>by simp [hall i h1 (by omega)])]
   simp only [Option.bind_some,hb.2 hall]
 · have:∃i,k≤i∧i<n∧¬q i:=by
    refine Classical.byContradiction fun hn2=>hall fun i h1 h2=>Classical.byContradiction fun h3=>hn2 ⟨i,h1,h2,h3⟩
   obtain⟨i,h1,h2,h3⟩:=this
   obtain⟨j,r,a,b,c,d⟩:=scan_some (q:=fun i=>if q i then none else some false) (n-k) k i h1 (by omega) (by simp [h3])
   have hr:r=false:=by
    by_cases hqj:q j
    · simp [hqj]at c
    · simpa [hqj]using c.symm
   rw [d,hr]
   have:ans=false:=by cases ans with|true=>exact absurd (hb.1 rfl) hall|false=>rfl
   simp only [Option.bind_some,this]
theorem loop_all2 {body:Int→Option (Sum Int (Sum Int Bool))} (n:Nat) (hn:n≤9223372036854775807) (q:Nat→Prop) (k:Nat) (hk:k≤n)
 (h:∀i,k≤i→i<n→(q i∧body (i:Int)=some (.inl ((i+1:Nat):Int)))∨(¬q i∧body (i:Int)=some (.inr (.inr false))))
 (he:body (n:Int)=some (.inr (.inl (n:Int)))) (ans:Bool) (hb:ans=true↔∀i,k≤i→i<n→q i):
 (loopF body (k:Int)).bind (fun e=>match e with| .inl _=>some true| .inr r=>some r)=some ans:=by
 letI:DecidablePred q:=fun _=>Classical.propDecidable _
 exact loop_all n hn q k hk (fun i h1 h2=>by rcases h i h1 h2 with⟨a,b⟩|⟨a,b⟩<;>simp only [b,a,if_true,if_false]) he ans hb
theorem contains_any {α:Type} (l:List α) (hl:l.length≤9223372036854775807) (P:α→Option Bool) (p:α→Bool) (hP:∀x,x∈l→P x=some (p x)):
 (Option.bind (Option.bind (loopF (fun(v:Int)=>if(decide (v<(l.length:Int)))=true then Option.bind (idx l v) fun e=>Option.bind (P e) fun x=>if x=true then some (.inr (.inr v))else some (.inl (W (v+1)))else some (.inr (.inl v))) 0)
  fun(e:Sum Int Int)=>match e with| .inl _=>some (-1)| .inr r=>some r) fun x=>some (decide (x≥0)))=some (l.any p):=by
 have hs:=loop_scan (body:=fun(v:Int)=>if(decide (v<(l.length:Int)))=true then Option.bind (idx l v) fun e=>Option.bind (P e) fun x=>if x=true then some (.inr (.inr v))else some (.inl (W (v+1)))else some (.inr (.inl v)))
  l.length hl (fun i=>match l[i]? with|some x=>if p x then some (i:Int)else none|none=>none) 0 (Nat.zero_le _) (fun i _ h2=>by
   have hx:idx l (i:Int)=some l[i]:=by simp [idx,h2]
   have hlt:((i:Int)<(l.length:Int)):=by omega
   simp only [hlt,decide_true,if_true,hx,Option.bind_some,hP _ (List.getElem_mem h2),List.getElem?_eq_getElem h2]
   by_cases hp:p l[i]=true
   · simp [hp]
   · simp [hp];exact W_s (by omega)) (by simp)
 rw [show((0:Int))=((0:Nat):Int) from rfl,hs]
 by_cases hany:l.any p=true
 · rw [hany]
   obtain⟨x,hx,hpx⟩:=List.any_eq_true.1 hany
   obtain⟨i,hi,rfl⟩:=List.getElem_of_mem hx
   obtain⟨j,r,a,b,c,d⟩:=scan_some (q:=fun i=>match l[i]? with|some x=>if p x then some (i:Int)else none|none=>none) (l.length-0) 0 i (Nat.zero_le _) (by omega) (by simp [List.getElem?_eq_getElem hi,hpx])
   rw [d]
   have hj:j<l.length:=by omega
   simp only [List.getElem?_eq_getElem hj]at c
   split at c
   · simp only [Option.some.injEq]at c
     subst c
     simp
   · cases c
 · rw [scan_none _ _ (fun i _ h2=>by
    have hi:i<l.length:=by omega
    simp only [List.getElem?_eq_getElem hi]
    rw [if_neg]
    intro hp
    exact hany (List.any_eq_true.2 ⟨l[i],List.getElem_mem hi,hp⟩))]
   simp [Bool.not_eq_true _▸hany]
end Go.Proofs.YtcedmbakcchkiaaGreatDoor
namespace Go.Proofs.YtcedmbakcchkiaaGreatDoor
open Go Go.Sx
open Classical
def Ans (m:Option Bool) (P:Prop):Prop:=∃b,m=some b∧(b=true↔P)
theorem Ans.eq {m:Option Bool} {P:Prop} (h:Ans m P):m=some (decide P):=by
 obtain⟨b,rfl,hb⟩:=h
 congr 1
 by_cases hp:P
 · rw [hb.2 hp];simp [hp]
 · have:b=false:=by cases b with|false=>rfl|true=>exact absurd (hb.1 rfl) hp
   rw [this];simp [hp]
theorem Ans.of {P:Prop} [Decidable P]:Ans (some (decide P)) P:=⟨_,rfl,by simp⟩
theorem Ans.ofb {b:Bool} {P:Prop} (h:b=true↔P):Ans (some b) P:=⟨b,rfl,h⟩
theorem Ans.yes {P:Prop} (h:P):Ans (some true) P:=⟨_,rfl,by simp [h]⟩
theorem Ans.iff {m:Option Bool} {P Q:Prop} (h:Ans m P) (e:P↔Q):Ans m Q:=by
 obtain⟨b,hm,hb⟩:=h
 exact⟨b,hm,hb.trans e⟩
theorem Ans.id {m:Option Bool} {P:Prop} (h:Ans m P):Ans (Option.bind m fun x=>some x) P:=by
 obtain⟨b,rfl,hb⟩:=h
 exact⟨b,rfl,hb⟩
theorem Ans.not {m:Option Bool} {P:Prop} (h:Ans m P):Ans (Option.bind m fun x=>some (!x)) (¬P):=by
 obtain⟨b,rfl,hb⟩:=h
 exact⟨!b,rfl,by rw [←hb];simp⟩
theorem Ans.and {m n:Option Bool} {P Q:Prop} (h:Ans m P) (k:P→Ans n Q):Ans (Option.bind m fun x=>if x=true then n else some false) (P∧Q):=by
 obtain⟨b,rfl,hb⟩:=h
 by_cases hp:P
 · obtain⟨c,rfl,hc⟩:=k hp
   exact⟨c,by simp [hb.2 hp],by simp [hp,hc]⟩
 · have:b=false:=by cases b with|false=>rfl|true=>exact absurd (hb.1 rfl) hp
   exact⟨false,by simp [this],by simp [hp]⟩
theorem Ans.nand {m n:Option Bool} {P Q:Prop} (h:Ans m P) (k:P→Ans n Q):Ans (Option.bind m fun x=>if(!x)=true then some false else n) (P∧Q):=by
 obtain⟨b,rfl,hb⟩:=h
 by_cases hp:P
 · obtain⟨c,rfl,hc⟩:=k hp
   exact⟨c,by simp [hb.2 hp],by simp [hp,hc]⟩
 · have:b=false:=by cases b with|false=>rfl|true=>exact absurd (hb.1 rfl) hp
   exact⟨false,by simp [this],by simp [hp]⟩
theorem Ans.ite {n:Option Bool} {b:Bool} {P Q:Prop} (h:b=true↔P) (k:P→Ans n Q):Ans (if b=true then n else some false) (P∧Q):=Ans.and (m:=some b) (Ans.ofb h) k
theorem Ans.ite' {n:Option Bool} {b:Bool} {P Q:Prop} (h:b=true↔¬P) (k:P→Ans n Q):Ans (if b=true then some false else n) (P∧Q):=by
 by_cases hp:P
 · obtain⟨c,rfl,hc⟩:=k hp
   have:b=false:=by cases b with|false=>rfl|true=>exact absurd hp (h.1 rfl)
   exact⟨c,by simp [this],by simp [hp,hc]⟩
 · exact⟨false,by simp [h.2 hp],by simp [hp]⟩
def jn (i:Int) (b:Bool):Option (Sum Int (Sum Int Bool)):=if b=true then some (.inl (W (i+1)))else some (.inr (.inr false))
theorem jn_t (i:Int):(some (.inl (W (i+1))):Option (Sum Int (Sum Int Bool)))=jn i true:=rfl
theorem jn_f (i:Int):(some (.inr (.inr false)):Option (Sum Int (Sum Int Bool)))=jn i false:=rfl
theorem jn_if (i:Int) (a b c:Bool):(if a=true then jn i b else jn i c)=jn i ((a&&b)||(!a&&c)):=by cases a<;>simp
def Rnd (i:Int) (m:Option (Sum Int (Sum Int Bool))) (P:Prop):Prop:=∃b,m=jn i b∧(b=true↔P)
theorem Rnd.go {i:Int} {P:Prop} (h:P):Rnd i (some (.inl (W (i+1)))) P:=⟨true,rfl,by simp [h]⟩
theorem Rnd.end {i:Int} {P:Prop} (h:¬P):Rnd i (some (.inr (.inr false))) P:=⟨false,rfl,by simp [h]⟩
theorem Rnd.iff {i:Int} {m:Option (Sum Int (Sum Int Bool))} {P Q:Prop} (h:Rnd i m P) (e:P↔Q):Rnd i m Q:=by
 obtain⟨b,hm,hb⟩:=h
 exact⟨b,hm,hb.trans e⟩
theorem Rnd.nand {i:Int} {m:Option Bool} {n:Option (Sum Int (Sum Int Bool))} {P Q:Prop} (h:Ans m P) (k:P→Rnd i n Q):Rnd i (Option.bind m fun x=>if(!x)=true then some (.inr (.inr false))else n) (P∧Q):=by
 obtain⟨b,rfl,hb⟩:=h
 by_cases hp:P
 · obtain⟨c,rfl,hc⟩:=k hp
   exact⟨c,by simp [hb.2 hp],by simp [hp,hc]⟩
 · have:b=false:=by cases b with|false=>rfl|true=>exact absurd (hb.1 rfl) hp
   exact⟨false,by simp [this];rfl,by simp [hp]⟩
theorem Rnd.and {i:Int} {m:Option Bool} {n:Option (Sum Int (Sum Int Bool))} {P Q:Prop} (h:Ans m P) (k:¬P→Rnd i n Q):Rnd i (Option.bind m fun x=>if x=true then some (.inr (.inr false))else n) (¬P∧Q):=by
 obtain⟨b,rfl,hb⟩:=h
 by_cases hp:P
 · exact⟨false,by simp [hb.2 hp];rfl,by simp [hp]⟩
 · obtain⟨c,rfl,hc⟩:=k hp
   have:b=false:=by cases b with|false=>rfl|true=>exact absurd (hb.1 rfl) hp
   exact⟨c,by simp [this],by simp [hp,hc]⟩
theorem Rnd.ite {i:Int} {b:Bool} {n:Option (Sum Int (Sum Int Bool))} {P Q:Prop} (h:b=true↔¬P) (k:P→Rnd i n Q):Rnd i (if b=true then some (.inr (.inr false))else n) (P∧Q):=by
 by_cases hp:P
 · obtain⟨c,rfl,hc⟩:=k hp
   have:b=false:=by cases b with|false=>rfl|true=>exact absurd hp (h.1 rfl)
   exact⟨c,by simp [this],by simp [hp,hc]⟩
 · exact⟨false,by simp [h.2 hp];rfl,by simp [hp]⟩
theorem Rnd.get {i:Int} {α:Type} {l:List α} {j:Nat} (hj:j<l.length) {n:α→Option (Sum Int (Sum Int Bool))} {P:Prop} (h:Rnd i (n l[j]) P):Rnd i (Option.bind (idx l (j:Int)) n) P:=by
 have:Sx.idx l (j:Int)=some l[j]:=by simp [Sx.idx,hj]
 rw [this];exact h
theorem loop_ans {body:Int→Option (Sum Int (Sum Int Bool))} (n:Nat) (hn:n≤9223372036854775807) (q:Nat→Prop) (k:Nat) (hk:k≤n) (h:∀i:Nat,k≤i→i<n→Rnd (i:Int) (body (i:Int)) (q i))
 (he:body (n:Int)=some (.inr (.inl (n:Int)))):
 Ans ((loopF body (k:Int)).bind fun e=>match e with| .inl _=>some true| .inr r=>some r) (∀i,k≤i→i<n→q i):=by
 refine⟨decide (∀i,k≤i→i<n→q i), ?_,by simp⟩
 refine loop_all2 n hn q k hk (fun i h1 h2=> ?_) he _ (by simp)
 obtain⟨b,hb,hq⟩:=h i h1 h2
 have hw:W ((i:Int)+1)=((i+1:Nat):Int):=W_s (by omega)
 cases b with
 |true=>exact .inl ⟨hq.1 rfl,by rw [hb];simp [jn,hw]⟩
 |false=>exact .inr ⟨fun h=>by simpa using hq.2 h,by rw [hb];rfl⟩
def Lp (m:Option (Sum Int Bool)) (P:Prop):Prop:=(P∧∃j,m=some (.inl j))∨(¬P∧m=some (.inr false))
theorem Lp.iff {m:Option (Sum Int Bool)} {P Q:Prop} (h:Lp m P) (e:P↔Q):Lp m Q:=by
 rcases h with⟨h,h'⟩|⟨h,h'⟩
 · exact .inl ⟨e.1 h,h'⟩
 · exact .inr ⟨fun q=>h (e.2 q),h'⟩
theorem Ans.loop {m:Option (Sum Int Bool)} {n:Option Bool} {P Q:Prop} (h:Lp m P) (k:P→Ans n Q):Ans (m.bind fun e=>match e with| .inl _=>n| .inr r=>some r) (P∧Q):=by
 rcases h with⟨h,j,rfl⟩|⟨h,rfl⟩
 · obtain⟨b,hb,hq⟩:=k h
   exact⟨b,hb,by simp [h,hq]⟩
 · exact⟨false,rfl,by simp [h]⟩
theorem Ans.lp {m:Option (Sum Int Bool)} {P:Prop} (h:Lp m P):Ans (m.bind fun e=>match e with| .inl _=>some true| .inr r=>some r) P:=(Ans.loop (Q:=True) h fun _=> .yes trivial).iff (by simp)
theorem loop_lp {body:Int→Option (Sum Int (Sum Int Bool))} (n:Nat) (hn:n≤9223372036854775807) (q:Nat→Prop) (h:∀i:Nat,i<n→Rnd (i:Int) (body (i:Int)) (q i))
 (he:body (n:Int)=some (.inr (.inl (n:Int)))):Lp (loopF body 0) (∀i,i<n→q i):=by
 by_cases hall:∀i,i<n→q i
 · have hs:=loop_scan (body:=body) n hn (fun _=>(none:Option Bool)) 0 (Nat.zero_le _) (fun i _ h2=>by
    obtain⟨b,hb,hq⟩:=h i h2
    rw [hb,hq.2 (hall i h2)];simp only [jn,if_true];rw [W_s (by omega)]) he
   rw [scan_none _ _ (fun _ _ _=>rfl)]at hs
   exact .inl ⟨hall,_,hs⟩
 · refine .inr ⟨hall, ?_⟩
   have h2:=loop_ans n hn q 0 (Nat.zero_le _) (fun i _ h2=>h i h2) he
   have h3:=h2.eq
   rw [decide_eq_false (fun h=>hall fun i hi=>h i (Nat.zero_le _) hi)]at h3
   rw [show((0:Int))=((0:Nat):Int) from rfl]
   cases hl:loopF body ((0:Nat):Int)with
   |none=>rw [hl]at h3;cases h3
   |some e=>
    rw [hl]at h3
    cases e with
    |inl x=>simp at h3
    |inr r=>simp at h3;rw [h3]
theorem Rnd.loop {j:Int} {m:Option (Sum Int Bool)} {P:Prop} (h:Lp m P):Rnd j (m.bind fun e=>match e with| .inl _=>some (.inl (W (j+1)))| .inr r=>some (.inr (.inr r))) P:=by
 rcases h with⟨h,_,rfl⟩|⟨h,rfl⟩
 · exact .go h
 · exact .end h
theorem contains_a {α:Type} (l:List α) (hl:l.length≤9223372036854775807) (P:α→Option Bool) (Q:α→Prop) (hP:∀x,x∈l→Ans (P x) (Q x)):
 Ans (Option.bind (Option.bind (loopF (fun(v:Int)=>if(decide (v<(l.length:Int)))=true then Option.bind (idx l v) fun e=>Option.bind (P e) fun x=>if x=true then some (.inr (.inr v))else some (.inl (W (v+1)))else some (.inr (.inl v))) 0)
  fun(e:Sum Int Int)=>match e with| .inl _=>some (-1)| .inr r=>some r) fun x=>some (decide (x≥0))) (∃x,x∈l∧Q x):=
 ⟨_,contains_any l hl P (fun x=>decide (Q x)) (fun x hx=>(hP x hx).eq),by simp⟩
theorem each_a {α:Type} {l:List α} {most:Int} {C:Option Bool} {ok:α→Prop} (hC:l.length≤9223372036854775807→Ans C (∃x,x∈l∧¬ok x)) (hm:most≤9223372036854775807):
 Ans (if(decide ((l.length:Int)≤most))=true then Option.bind C fun x=>some (!x)else some false) ((l.length:Int)≤most∧∀x,x∈l→ok x):=
 Ans.ite (by simp) fun h=>(hC (by omega)).not.iff (by simp)
def risesBy {α:Type} (f:α→α→Prop) (l:List α):Prop:=∀i a b,l[i]?=some a→l[i+1]?=some b→f a b
theorem rises_a {α:Type} (l:List α) (hl:l.length≤9223372036854775807) (cmp:α→α→Option Int) (c:α→α→Int) (f:α→α→Prop) (hc:∀a b,cmp a b=some (c a b)) (hf:∀a b,c a b<0↔f a b):
 Ans (Option.bind (loopF (fun(i:Int)=>if(decide (i<(l.length:Int)))=true then Option.bind (idx l (W (i-1))) fun a=>Option.bind (idx l i) fun b=>Option.bind (cmp a b) fun x=>
  if(decide (x≥0))=true then some (.inr (.inr false))else some (.inl (W (i+1)))else some (.inr (.inl i))) 1) fun(e:Sum Int Bool)=>match e with| .inl _=>some true| .inr r=>some r) (risesBy f l):=by
 by_cases h0:l.length=0
 · refine⟨true, ?_,by simp;intro i a b h1 _;rw [List.getElem?_eq_none (by omega)]at h1;cases h1⟩
   have:=loop_scan (R:=Bool) (body:=fun(i:Int)=>if(decide (i<(l.length:Int)))=true then Option.bind (idx l (W (i-1))) fun a=>Option.bind (idx l i) fun b=>Option.bind (cmp a b) fun x=>
    if(decide (x≥0))=true then some (.inr (.inr false))else some (.inl (W (i+1)))else some (.inr (.inl i))) 1 (by omega) (fun _=>none) 1 (Nat.le_refl _) (fun i h1 h2=>by omega) (by simp [h0])
   exact(congrArg (fun o=>Option.bind o _) this).trans rfl
 · refine(loop_ans (body:=fun(i:Int)=>if(decide (i<(l.length:Int)))=true then Option.bind (idx l (W (i-1))) fun a=>Option.bind (idx l i) fun b=>Option.bind (cmp a b) fun x=>
    if(decide (x≥0))=true then some (.inr (.inr false))else some (.inl (W (i+1)))else some (.inr (.inl i))) l.length hl (fun i=>∀a b,l[i-1]?=some a→l[i]?=some b→f a b) 1 (by omega) (fun i h1 h2=> ?_) (by simp)).iff ?_
   · have e1:W ((i:Int)-1)=((i-1:Nat):Int):=by rw [W_id (by omega)];omega
     have e2:idx l ((i-1:Nat):Int)=some (l[i-1]'(by omega)):=by simp [idx,show i-1<l.length by omega]
     have e3:idx l ((i:Nat):Int)=some (l[i]'h2):=by simp [idx,h2]
     have hlt:((i:Int)<(l.length:Int)):=by omega
     simp only [hlt,decide_true,if_true,e1,e2,e3,Option.bind_some,hc]
     rw [List.getElem?_eq_getElem (show i-1<l.length by omega),List.getElem?_eq_getElem h2]
     refine(Rnd.ite (P:=c (l[i-1]'(by omega)) (l[i]'h2)<0) (Q:=True) (by simp) fun _=> .go trivial).iff ?_
     rw [and_true,hf]
     exact⟨fun h a b ha hb=>by cases ha;cases hb;exact h,fun h=>h _ _ rfl rfl⟩
   · constructor
     · intro h i a b ha hb'
       have:i+1<l.length:=by
        rcases Nat.lt_or_ge (i+1) l.length with h|h
        · exact h
        · rw [List.getElem?_eq_none h]at hb';cases hb'
       exact h (i+1) (by omega) this a b (by simpa using ha) hb'
     · intro h i h1 h2 a b ha hb'
       exact h (i-1) a b ha (by rw [Nat.sub_add_cancel h1];exact hb')
theorem all_idx {α:Type} (l:List α) (ok:α→Prop) (f:α→α→Prop):(∀i,0≤i→i<l.length→(∀x,l[i]?=some x→ok x)∧(0<i→∀a,l[i-1]?=some a→∀b,l[i]?=some b→f a b))↔(∀x,x∈l→ok x)∧risesBy f l:=by
 constructor
 · intro h
   refine⟨fun x hx=> ?_,fun i a b ha hb=> ?_⟩
   · obtain⟨i,hi,rfl⟩:=List.getElem_of_mem hx
     exact(h i (Nat.zero_le _) hi).1 _ (List.getElem?_eq_getElem hi)
   · have:i+1<l.length:=by
      rcases Nat.lt_or_ge (i+1) l.length with h|h
      · exact h
      · rw [List.getElem?_eq_none h]at hb;cases hb
     exact(h (i+1) (Nat.zero_le _) this).2 (by omega) a (by simpa using ha) b hb
 · intro⟨h1,h2⟩ i _ hi
   refine⟨fun x hx=>h1 x (List.mem_of_getElem? hx),fun h0 a ha b hb=>h2 (i-1) a b ha (by rw [Nat.sub_add_cancel h0];exact hb)⟩
theorem within_a (n lo hi:Int):Ans (m_muster_within n lo hi) (lo≤n∧n≤hi):=Ans.ite (by simp) fun _=>Ans.ofb (by simp)
theorem In_a (n lo hi:Int):Ans (m_R09_In n lo hi) (lo≤n∧n≤hi):=Ans.ite (by simp) fun _=>Ans.ofb (by simp)
end Go.Proofs.YtcedmbakcchkiaaGreatDoor
namespace Go.Proofs.YtcedmbakcchkiaaGreatDoor
open Go Go.Sx
open Classical
theorem isDepot_a (n:Int):Ans (m_muster_isDepot n) (0≤n∧n≤5):=(within_a _ _ _).id
theorem isNight_a (n:Int):Ans (m_muster_isNight n) (0≤n∧n≤100000):=(within_a _ _ _).id
theorem isValue_a (n:Int):Ans (m_muster_isValue n) (1≤n∧n≤1000000):=(within_a _ _ _).id
theorem isBallot_a (n:Int):Ans (m_muster_isBallot n) (6≤n∧n≤59999):=(within_a _ _ _).id
theorem isThing_a (n:Int):Ans (m_muster_isThing n) (1≤n∧n≤99):=(within_a _ _ _).id
theorem isMoment_a (n:Int):Ans (m_muster_isMoment n) (0≤n∧n≤144001439):=(within_a _ _ _).id
theorem isSet_a (n:Int):Ans (m_muster_mask_isSet n) (0≤n∧n≤63):=(within_a _ _ _).id
theorem risDepot_a (n:Int):Ans (m_R09_isDepot n) (0≤n∧n≤5):=(In_a _ _ _).id
theorem risNight_a (n:Int):Ans (m_R09_isNight n) (0≤n∧n≤100000):=(In_a _ _ _).id
theorem risValue_a (n:Int):Ans (m_R09_isValue n) (1≤n∧n≤1000000):=(In_a _ _ _).id
theorem risBallot_a (n:Int):Ans (m_R09_isBallot n) (6≤n∧n≤59999):=(In_a _ _ _).id
theorem risThing_a (n:Int):Ans (m_R09_isThing n) (1≤n∧n≤99):=(In_a _ _ _).id
theorem risMoment_a (n:Int):Ans (m_R09_isMoment n) (0≤n∧n≤144001439):=(In_a _ _ _).id
theorem risMask_a (n:Int):Ans (m_R09_isMask n) (0≤n∧n≤63):=(In_a _ _ _).id
def qr (n:Int):Bool:=(m_R09_quorum n).getD false
set_option maxRecDepth 10000 in
theorem quorum_f:∀n:Fin 64,m_muster_mask_quorum (n.val:Int)=some (qr (n.val:Int))∧m_R09_quorum (n.val:Int)=some (qr (n.val:Int)):=by decide+kernel
theorem quorum_eq {n:Int} (h:0≤n∧n≤63):m_muster_mask_quorum n=some (qr n)∧m_R09_quorum n=some (qr n):=by
 have:=quorum_f ⟨n.toNat,by omega⟩
 simpa [Int.toNat_of_nonneg h.1]using this
theorem tmod6 {n:Int} (h:0≤n):n.tmod 6=n % 6:=Int.tmod_eq_emod_of_nonneg h
def SlotOK (s:TSlot):Prop:=(0≤s.Night∧s.Night≤100000)∧(6≤s.Promised∧s.Promised≤59999)∧((s.Ballot=0∧s.Value=0)∨((6≤s.Ballot∧s.Ballot≤s.Promised)∧(1≤s.Value∧s.Value≤1000000)))
def BidOK (me r:Int) (b:TBid):Prop:=(0≤b.Night∧b.Night≤100000)∧(6≤b.Ballot∧b.Ballot≤6*r+me)∧b.Ballot % 6=me∧(1≤b.Value∧b.Value≤1000000)∧(0≤b.Best∧b.Best≤b.Ballot-1)∧(0≤b.Mask∧b.Mask≤63)∧b.Asked=qr b.Mask
def HeardOK (h:THeard):Prop:=(6≤h.Ballot∧h.Ballot≤59999)∧(0≤h.Night∧h.Night≤100000)∧(1≤h.Value∧h.Value≤1000000)∧h.Mask≠0∧(0≤h.Mask∧h.Mask≤63)
def LeaseOK (me:Int) (l:TLease):Prop:=(1≤l.Thing∧l.Thing≤99)∧l.Thing % 6=me∧(0≤l.To∧l.To≤5)∧l.To≠me∧(0≤l.From∧l.From≤144001439)∧(0≤l.Until∧l.Until≤144001439)∧l.From≤l.Until
def LoanOK (me:Int) (l:TLoan):Prop:=(0≤l.Owner∧l.Owner≤5)∧l.Owner≠me∧(1≤l.No∧l.No≤40)∧(1≤l.Thing∧l.Thing≤99)∧l.Thing % 6=l.Owner∧(0≤l.From∧l.From≤144001439)∧(0≤l.Until∧l.Until≤144001439)∧l.From≤l.Until
def meetP (a b:TLease):Prop:=max a.From b.From<min a.Until b.Until
def slotLt (a b:TSlot):Prop:=a.Night<b.Night
def bidLt (a b:TBid):Prop:=a.Night<b.Night
def heardLt (a b:THeard):Prop:=a.Ballot<b.Ballot∨(a.Ballot=b.Ballot∧a.Night<b.Night)
def loanLt (a b:TLoan):Prop:=a.Owner<b.Owner∨(a.Owner=b.Owner∧a.No<b.No)
def noTwo {α:Type} (f:α→α→Prop) (l:List α):Prop:=∀(i:Nat) x,l[i]?=some x→∀y,y∈l.take i→¬f y x
structure VState (me:Int) (s:TState):Prop where
 dep:0≤me∧me≤5
 round:0≤s.Round∧s.Round≤9999
 nslots:(s.Slots.length:Int)≤12
 slots:∀x,x∈s.Slots→SlotOK x
 nbids:(s.Bids.length:Int)≤12
 bids:∀x,x∈s.Bids→BidOK me s.Round x
 nheard:(s.Heard.length:Int)≤60
 heard:∀x,x∈s.Heard→HeardOK x
 nleases:(s.Leases.length:Int)≤40
 leases:∀x,x∈s.Leases→LeaseOK me x
 nloans:(s.Loans.length:Int)≤60
 loans:∀x,x∈s.Loans→LoanOK me x
 rslots:risesBy slotLt s.Slots
 rbids:risesBy bidLt s.Bids
 rheard:risesBy heardLt s.Heard
 rloans:risesBy loanLt s.Loans
 ballots:noTwo (fun a b=>a.Ballot=b.Ballot) s.Bids
 nos:∀(i:Nat) x,s.Leases[i]?=some x→x.No=(i:Int)+1
 meets:noTwo (fun a b=>a.Thing=b.Thing∧meetP a b) s.Leases
theorem isSlot_a (s:TSlot):Ans (m_muster_isSlot s) (SlotOK s):=by
 have e1:=(isNight_a s.Night).eq
 have e2:=(isBallot_a s.Promised).eq
 have e3:=(isValue_a s.Value).eq
 have e4:=(within_a s.Ballot 6 s.Promised).eq
 unfold m_muster_isSlot
 simp only [e1,e2,e3,e4,Option.bind_some]
 refine⟨decide (SlotOK s), ?_,by simp⟩
 unfold SlotOK
 by_cases h1:s.Ballot=0<;>by_cases h2:s.Value=0<;>by_cases h3:(0≤s.Night∧s.Night≤100000)<;>by_cases h4:(6≤s.Promised∧s.Promised≤59999)<;>by_cases h5:(6≤s.Ballot∧s.Ballot≤s.Promised)<;>simp [h1,h2,h3,h4,h5]<;>omega
theorem isTime_a (f u:Int):Ans (m_muster_isTime f u) ((0≤f∧f≤144001439)∧(0≤u∧u≤144001439)∧f≤u):=
 Ans.and (isMoment_a f) fun _=>Ans.and (isMoment_a u) fun _=> .of
theorem bid_a {me:Int} {s:TState} (hm:0≤me∧me≤5) (hr:0≤s.Round∧s.Round≤9999) (b:TBid):Ans (m_muster_isState_1 b s me) (BidOK me s.Round b):=by
 have w:W (W (6*s.Round)+me)=6*s.Round+me:=by rw [W_id (z:=6*s.Round) (by omega),W_id (by omega)]
 unfold m_muster_isState_1
 rw [w]
 refine Ans.and (isNight_a _) fun h1=>Ans.and (within_a _ _ _) fun h2=> ?_
 rw [W_id (z:=b.Ballot-1) (by omega)]
 show Ans (if(b.Ballot.tmod 6==me)=true then _ else some false) _
 refine Ans.ite (by rw [tmod6 (by omega)];simp) fun h3=>Ans.and (isValue_a _) fun h4=>Ans.and (within_a _ _ _) fun h5=>Ans.and (isSet_a _) fun h6=> ?_
 rw [(quorum_eq h6).1]
 exact Ans.ofb (by simp)
theorem heard_a (h:THeard):Ans (m_muster_isState_2 h) (HeardOK h):=
 Ans.and (isBallot_a _) fun _=>Ans.and (isNight_a _) fun _=>Ans.and (isValue_a _) fun _=>Ans.ite (by simp) fun _=>(isSet_a _).id
theorem lease_a (me:Int) (l:TLease):Ans (m_muster_isState_3 l me) (LeaseOK me l):=by
 unfold m_muster_isState_3
 refine Ans.and (isThing_a _) fun h1=> ?_
 show Ans (if(l.Thing.tmod 6==me)=true then _ else some false) _
 exact Ans.ite (by rw [tmod6 (by omega)];simp) fun h3=>Ans.and (isDepot_a _) fun _=>Ans.ite (by simp) fun _=>(isTime_a _ _).id
theorem loan_a (me:Int) (l:TLoan):Ans (m_muster_isState_4 l me) (LoanOK me l):=by
 unfold m_muster_isState_4
 refine Ans.and (isDepot_a _) fun _=>Ans.ite (by simp) fun _=>Ans.and (within_a _ _ _) fun _=>Ans.and (isThing_a _) fun h1=> ?_
 show Ans (if(l.Thing.tmod 6==l.Owner)=true then _ else some false) _
 exact Ans.ite (by rw [tmod6 (by omega)];simp) fun h3=>(isTime_a _ _).id
theorem slots_a (l:List TSlot):Ans (m_muster_each_api_Slot__muster_isSlot l 12) ((l.length:Int)≤12∧∀x,x∈l→SlotOK x):=
 each_a (fun hl=>contains_a l hl m_muster_each_api_Slot_1__muster_isSlot _ fun x _=>(isSlot_a x).not) (by omega)
theorem bids_a {me:Int} {s:TState} (hm:0≤me∧me≤5) (hr:0≤s.Round∧s.Round≤9999) (l:List TBid):Ans (m_muster_each_api_Bid__muster_isState_1 l 12 s me) ((l.length:Int)≤12∧∀x,x∈l→BidOK me s.Round x):=
 each_a (fun hl=>contains_a l hl (fun x=>m_muster_each_api_Bid_1__muster_isState_1 x s me) _ fun x _=>(bid_a hm hr x).not) (by omega)
theorem heards_a (l:List THeard):Ans (m_muster_each_api_Heard__muster_isState_2 l 60) ((l.length:Int)≤60∧∀x,x∈l→HeardOK x):=
 each_a (fun hl=>contains_a l hl m_muster_each_api_Heard_1__muster_isState_2 _ fun x _=>(heard_a x).not) (by omega)
theorem leases_a (me:Int) (l:List TLease):Ans (m_muster_each_api_Lease__muster_isState_3 l 40 me) ((l.length:Int)≤40∧∀x,x∈l→LeaseOK me x):=
 each_a (fun hl=>contains_a l hl (fun x=>m_muster_each_api_Lease_1__muster_isState_3 x me) _ fun x _=>(lease_a me x).not) (by omega)
theorem loans_a (me:Int) (l:List TLoan):Ans (m_muster_each_api_Loan__muster_isState_4 l 60 me) ((l.length:Int)≤60∧∀x,x∈l→LoanOK me x):=
 each_a (fun hl=>contains_a l hl (fun x=>m_muster_each_api_Loan_1__muster_isState_4 x me) _ fun x _=>(loan_a me x).not) (by omega)
def cmpI (x y:Int):Int:=if x<y then-1 else if x>y then 1 else 0
theorem cmp_eq (x y:Int):m_cmp_Compare_int x y=some (cmpI x y):=by
 unfold cmpI
 simp only [m_cmp_Compare_int,m_cmp_isNaN_int,Option.bind_some,bne_self_eq_false,if_false]
 by_cases h1:x<y<;>by_cases h2:x>y<;>simp [h1,h2]
theorem cmpI_lt {x y:Int}:cmpI x y<0↔x<y:=by
 unfold cmpI;split
 · simp;assumption
 · split<;>simp<;>omega
theorem cmpI_eq {x y:Int}:cmpI x y=0↔x=y:=by
 unfold cmpI;split
 · simp;omega
 · split<;>simp<;>omega
def cmp2 (a b c d:Int):Int:=if cmpI a b=0 then cmpI c d else cmpI a b
theorem cmp2_lt {a b c d:Int}:cmp2 a b c d<0↔a<b∨(a=b∧c<d):=by
 unfold cmp2
 split
 · rename_i h;rw [cmpI_eq]at h;rw [cmpI_lt];omega
 · rename_i h;rw [cmpI_eq]at h;rw [cmpI_lt];omega
theorem or_eq (a b:Int):m_cmp_Or_int [a,b]=some (if a=0 then b else a):=by
 have hs:=loop_scan (R:=Int) (body:=m_cmp_Or_int_L1 [a,b]) 2 (by omega) (fun i=>if i=0 then(if a=0 then none else some a)else(if b=0 then none else some b)) 0 (Nat.zero_le _) (fun i _ h2=>by
  have:i=0∨i=1:=by omega
  unfold m_cmp_Or_int_L1
  rcases this with rfl|rfl
  · by_cases h:a=0<;>simp [idx,h];exact W_s (by omega)
  · by_cases h:b=0<;>simp [idx,h];exact W_s (by omega)) (by simp [m_cmp_Or_int_L1])
 unfold m_cmp_Or_int
 rw [show((0:Int))=((0:Nat):Int) from rfl,hs]
 by_cases h:a=0<;>by_cases h':b=0<;>simp [scan,h,h']
theorem compareSlots_eq (a b:TSlot):m_muster_compareSlots a b=some (cmpI a.Night b.Night):=by simp only [m_muster_compareSlots,cmp_eq,Option.bind_some]
theorem compareBids_eq (a b:TBid):m_muster_compareBids a b=some (cmpI a.Night b.Night):=by simp only [m_muster_compareBids,cmp_eq,Option.bind_some]
theorem compareHeard_eq (a b:THeard):m_muster_compareHeard a b=some (cmp2 a.Ballot b.Ballot a.Night b.Night):=by simp only [m_muster_compareHeard,cmp_eq,Option.bind_some,or_eq,cmp2]
theorem compareLoans_eq (a b:TLoan):m_muster_compareLoans a b=some (cmp2 a.Owner b.Owner a.No b.No):=by simp only [m_muster_compareLoans,cmp_eq,Option.bind_some,or_eq,cmp2]
theorem rslots_a (l:List TSlot) (hl:l.length≤9223372036854775807):Ans (m_muster_rises_api_Slot__muster_compareSlots l) (risesBy slotLt l):=rises_a l hl _ _ _ compareSlots_eq fun _ _=>cmpI_lt
theorem rbids_a (l:List TBid) (hl:l.length≤9223372036854775807):Ans (m_muster_rises_api_Bid__muster_compareBids l) (risesBy bidLt l):=rises_a l hl _ _ _ compareBids_eq fun _ _=>cmpI_lt
theorem rheard_a (l:List THeard) (hl:l.length≤9223372036854775807):Ans (m_muster_rises_api_Heard__muster_compareHeard l) (risesBy heardLt l):=rises_a l hl _ _ _ compareHeard_eq fun _ _=>cmp2_lt
theorem rloans_a (l:List TLoan) (hl:l.length≤9223372036854775807):Ans (m_muster_rises_api_Loan__muster_compareLoans l) (risesBy loanLt l):=rises_a l hl _ _ _ compareLoans_eq fun _ _=>cmp2_lt
theorem max_if (a b:Int):(if b>a then b else a)=max a b:=by split<;>omega
theorem min_if (a b:Int):(if b<a then b else a)=min a b:=by split<;>omega
theorem meet_a (a b:TLease):Ans (m_muster_meet a b) (meetP a b):=by
 unfold m_muster_meet meetP
 rw [max_if,min_if];exact .of
theorem sub0 {α:Type} (l:List α) (k:Nat):sub l 0 k=l.take k:=by simp [sub]
theorem ballots_a (s:TState) (hl:s.Bids.length≤9223372036854775807):Lp (loopF (m_muster_isState_L1 s) 0) (noTwo (fun a b=>a.Ballot=b.Ballot) s.Bids):=by
 refine(loop_lp s.Bids.length hl (fun i=>∀x,s.Bids[i]?=some x→∀y,y∈s.Bids.take i→¬y.Ballot=x.Ballot) (fun i h2=> ?_) (by simp [m_muster_isState_L1])).iff ?_
 · have hlt:((i:Int)<(s.Bids.length:Int)):=by omega
   have hg:0≤(i:Int)∧(i:Int)≤(s.Bids.length:Int):=by omega
   unfold m_muster_isState_L1
   simp only [hlt,decide_true,if_true]
   refine Rnd.get h2 ?_
   simp only [gd,hg,and_self,if_true,Option.bind_some,sub0,Int.toNat_natCast]
   refine(Rnd.and (contains_a _ (by simp;omega) (fun x=>m_muster_isState_5 x s.Bids[i]) (fun y=>y.Ballot=s.Bids[i].Ballot) fun x _=>Ans.ofb (by simp)) fun _=> .go trivial).iff ?_
   rw [List.getElem?_eq_getElem h2]
   simp
 · exact⟨fun h i x hx=>h i ((List.getElem?_eq_some_iff.1 hx).1) x hx,fun h i _=>h i⟩
theorem meets_a (s:TState) (hl:s.Leases.length≤9223372036854775806):Lp (loopF (m_muster_isState_L2 s) 0) ((∀(i:Nat) x,s.Leases[i]?=some x→x.No=(i:Int)+1)∧noTwo (fun a b=>a.Thing=b.Thing∧meetP a b) s.Leases):=by
 refine(loop_lp s.Leases.length (by omega) (fun i=>∀x,s.Leases[i]?=some x→x.No=(i:Int)+1∧∀y,y∈s.Leases.take i→¬(y.Thing=x.Thing∧meetP y x)) (fun i h2=> ?_) (by simp [m_muster_isState_L2])).iff ?_
 · have hlt:((i:Int)<(s.Leases.length:Int)):=by omega
   have hg:0≤(i:Int)∧(i:Int)≤(s.Leases.length:Int):=by omega
   unfold m_muster_isState_L2
   simp only [hlt,decide_true,if_true]
   refine Rnd.get h2 ?_
   refine(Rnd.ite (P:=s.Leases[i].No=(i:Int)+1) (Q:=∀y,y∈s.Leases.take i→¬(y.Thing=s.Leases[i].Thing∧meetP y s.Leases[i])) (by rw [W_id (by omega)];simp) fun _=> ?_).iff (Q:=∀x,s.Leases[i]?=some x→x.No=(i:Int)+1∧∀y,y∈s.Leases.take i→¬(y.Thing=x.Thing∧meetP y x)) ?_
   · simp only [gd,hg,and_self,if_true,Option.bind_some,sub0,Int.toNat_natCast]
     refine(Rnd.and (contains_a _ (by simp;omega) (fun x=>m_muster_isState_6 x s.Leases[i]) (fun y=>y.Thing=s.Leases[i].Thing∧meetP y s.Leases[i]) fun x _=>Ans.ite (by simp) fun _=>(meet_a _ _).id) fun _=> .go trivial).iff ?_
     simp
   · rw [List.getElem?_eq_getElem h2]
     simp
 · constructor
   · intro h
     exact⟨fun i x hx=>(h i ((List.getElem?_eq_some_iff.1 hx).1) x hx).1,fun i x hx=>(h i ((List.getElem?_eq_some_iff.1 hx).1) x hx).2⟩
   · exact fun h i _ x hx=>⟨h.1 i x hx,h.2 i x hx⟩
theorem vstate_iff {me:Int} {s:TState}:VState me s↔(0≤me∧me≤5)∧(0≤s.Round∧s.Round≤9999)∧((s.Slots.length:Int)≤12∧∀x,x∈s.Slots→SlotOK x)∧((s.Bids.length:Int)≤12∧∀x,x∈s.Bids→BidOK me s.Round x)∧((s.Heard.length:Int)≤60∧∀x,x∈s.Heard→HeardOK x)∧((s.Leases.length:Int)≤40∧∀x,x∈s.Leases→LeaseOK me x)∧((s.Loans.length:Int)≤60∧∀x,x∈s.Loans→LoanOK me x)∧risesBy slotLt s.Slots∧risesBy bidLt s.Bids∧risesBy heardLt s.Heard∧risesBy loanLt s.Loans∧noTwo (fun a b=>a.Ballot=b.Ballot) s.Bids∧((∀(i:Nat) x,s.Leases[i]?=some x→x.No=(i:Int)+1)∧noTwo (fun a b=>a.Thing=b.Thing∧meetP a b) s.Leases):=by
 constructor
 · rintro⟨a,b,c1,c2,d1,d2,e1,e2,f1,f2,g1,g2,h1,h2,h3,h4,h5,h6,h7⟩
   exact⟨a,b,⟨c1,c2⟩,⟨d1,d2⟩,⟨e1,e2⟩,⟨f1,f2⟩,⟨g1,g2⟩,h1,h2,h3,h4,h5,h6,h7⟩
 · rintro⟨a,b,⟨c1,c2⟩,⟨d1,d2⟩,⟨e1,e2⟩,⟨f1,f2⟩,⟨g1,g2⟩,h1,h2,h3,h4,h5,h6,h7⟩
   exact⟨a,b,c1,c2,d1,d2,e1,e2,f1,f2,g1,g2,h1,h2,h3,h4,h5,h6,h7⟩
theorem isState_a (me:Int) (s:TState):Ans (m_muster_isState me s) (VState me s):=by
 refine Ans.iff ?_ vstate_iff.symm
 unfold m_muster_isState
 exact Ans.nand (isDepot_a _) fun hm=>Ans.nand (within_a _ _ _) fun hr=>Ans.nand (slots_a _) fun h1=>Ans.nand (bids_a hm hr _) fun h2=>Ans.nand (heards_a _) fun h3=>Ans.nand (leases_a _ _) fun h4=>Ans.nand (loans_a _ _) fun h5=>
  Ans.nand (rslots_a _ (by omega)) fun _=>Ans.nand (rbids_a _ (by omega)) fun _=>Ans.nand (rheard_a _ (by omega)) fun _=>Ans.nand (rloans_a _ (by omega)) fun _=>Ans.loop (ballots_a s (by omega)) fun _=>Ans.lp (meets_a s (by omega))
end Go.Proofs.YtcedmbakcchkiaaGreatDoor
namespace Go.Proofs.YtcedmbakcchkiaaGreatDoor
open Go Go.Sx
open Classical
theorem rMod_all (n:Int):m_R09_Mod n 6=some (n % 6):=by
 unfold m_R09_Mod
 simp only [gd,ne_eq,show¬(6:Int)=0 by omega,not_false_eq_true,if_true,Option.some.injEq]
 have h3:=Int.tmod_eq_emod (a:=n) (b:=6)
 have h1: -6<n.tmod 6∧n.tmod 6<6∧(n.tmod 6=n % 6∨n.tmod 6=n % 6-6):=by
  rw [h3];split<;>simp<;>omega
 rw [W_id (by omega),tmod6 (by omega)]
 omega
theorem rquorum_ex (m:Int):∃b,m_R09_quorum m=some b:=by
 obtain⟨e,he,n,d,rfl⟩:=loop_rule (body:=m_R09_quorum_L1 m) (fun st=>∃(n:Nat) (d:Nat),st=((n:Int),(d:Int))∧n≤d∧d≤6) (fun st=>(6-st.2).toNat) (fun st=>∃n d:Int,st=(n,d)) (by
  rintro st ⟨n,d,rfl,h1,h2⟩
  unfold m_R09_quorum_L1 m_R09_bit
  by_cases h:(d:Int)<6
  · right
    have hd:(0:Int)≤d:=by omega
    simp only [h,decide_true,if_true,gd,hd,Option.bind_some]
    split
    · exact⟨_,rfl,⟨n+1,d+1,by rw [W_s (by omega),W_s (by omega)],by omega,by omega⟩,by simp only;rw [W_s (by omega)];omega⟩
    · exact⟨_,rfl,⟨n,d+1,by rw [W_s (by omega)],by omega,by omega⟩,by simp only;rw [W_s (by omega)];omega⟩
  · left
    exact⟨((n:Int),(d:Int)),by simp only [h,decide_false,Bool.false_eq_true,if_false],_,_,rfl⟩) (0,0) ⟨0,0,rfl,by omega,by omega⟩ (by simp [FUEL])
 unfold m_R09_quorum
 rw [he]
 exact⟨_,rfl⟩
theorem rquorum_eq (m:Int):m_R09_quorum m=some (qr m):=by
 obtain⟨b,hb⟩:=rquorum_ex m
 rw [hb,qr,hb];rfl
theorem pred_eq {i:Nat} (h:0<i) (h2:i<9223372036854775807):W ((i:Int)-1)=((i-1:Nat):Int):=by rw [W_id (by omega)];omega
theorem idx_at {α:Type} {l:List α} {i:Nat} {x:α} (h:l[i]?=some x):idx l (i:Int)=some x:=by simp [idx,h]
theorem at_ex {α:Type} {l:List α} {i:Nat} (h:i<l.length):∃x,l[i]?=some x:=⟨_,List.getElem?_eq_getElem h⟩
theorem rnd_at {α:Type} {l:List α} {i:Nat} {m:Option (Sum Int (Sum Int Bool))} {ok:α→Prop} {f:α→α→Prop} (h:i<l.length) (k:∀x,l[i]?=some x→Rnd i m (ok x∧(0<i→∀y,l[i-1]?=some y→f y x))):
 Rnd (i:Int) m ((∀x,l[i]?=some x→ok x)∧(0<i→∀a,l[i-1]?=some a→∀b,l[i]?=some b→f a b)):=by
 obtain⟨x,hx⟩:=at_ex h
 refine(k x hx).iff ?_
 rw [hx]
 simp
theorem rslot_r (l:List TSlot) (i:Nat) (h:i<l.length) (hl:l.length≤12):Rnd (i:Int) (m_R09_areSlots_L1 l i) ((∀x,l[i]?=some x→SlotOK x)∧(0<i→∀a,l[i-1]?=some a→∀b,l[i]?=some b→slotLt a b)):=by
 refine rnd_at h fun x hx=> ?_
 have hlt:((i:Int)<(l.length:Int)):=by omega
 have e1:=(risNight_a x.Night).eq
 have e2:=(risBallot_a x.Promised).eq
 have e3:=(risValue_a x.Value).eq
 have e4:=(In_a x.Ballot 6 x.Promised).eq
 unfold m_R09_areSlots_L1
 simp only [hlt,decide_true,if_true,idx_at hx,Option.bind_some,e1,e2,e3,e4]
 by_cases h0:0<i
 · obtain⟨y,hy⟩:=at_ex (l:=l) (i:=i-1) (by omega)
   have h00:(i:Int)>0:=by omega
   simp only [h00,decide_true,if_true,pred_eq h0 (by omega),idx_at hy,hy,Option.bind_some,jn_t,jn_f (i:Int),jn_if,h0,true_imp_iff,Option.some.injEq,forall_eq']
   refine⟨_,rfl, ?_⟩
   simp only [SlotOK,slotLt,Bool.or_eq_true,Bool.and_eq_true,Bool.not_eq_true',decide_eq_true_eq,decide_eq_false_iff_not,beq_iff_eq,Bool.not_not,beq_eq_false_iff_ne,ne_eq,Bool.and_false,Bool.and_true,Bool.false_or,Bool.or_false,Bool.false_eq_true]
   omega
 · have h00:¬((i:Int)>0):=by omega
   simp only [h00,decide_false,Bool.false_eq_true,if_false,jn_t,jn_f (i:Int),jn_if,h0,false_imp_iff,and_true]
   refine⟨_,rfl, ?_⟩
   simp only [SlotOK,Bool.or_eq_true,Bool.and_eq_true,Bool.not_eq_true',decide_eq_true_eq,decide_eq_false_iff_not,beq_iff_eq,Bool.not_not,beq_eq_false_iff_ne,ne_eq,Bool.and_false,Bool.and_true,Bool.false_or,Bool.or_false,Bool.false_eq_true]
   omega
theorem rheard_r (l:List THeard) (i:Nat) (h:i<l.length) (hl:l.length≤60):Rnd (i:Int) (m_R09_areHeard_L1 l i) ((∀x,l[i]?=some x→HeardOK x)∧(0<i→∀a,l[i-1]?=some a→∀b,l[i]?=some b→heardLt a b)):=by
 refine rnd_at h fun x hx=> ?_
 have hlt:((i:Int)<(l.length:Int)):=by omega
 have e1:=(risNight_a x.Night).eq
 have e2:=(risBallot_a x.Ballot).eq
 have e3:=(risValue_a x.Value).eq
 have e4:=(risMask_a x.Mask).eq
 unfold m_R09_areHeard_L1
 simp only [hlt,decide_true,if_true,idx_at hx,Option.bind_some,e1,e2,e3,e4]
 by_cases h0:0<i
 · obtain⟨y,hy⟩:=at_ex (l:=l) (i:=i-1) (by omega)
   have h00:(i:Int)>0:=by omega
   simp only [h00,decide_true,if_true,pred_eq h0 (by omega),idx_at hy,hy,Option.bind_some,jn_t,jn_f (i:Int),jn_if,h0,true_imp_iff,Option.some.injEq,forall_eq']
   refine⟨_,rfl, ?_⟩
   simp only [HeardOK,heardLt,Bool.or_eq_true,Bool.and_eq_true,Bool.not_eq_true',decide_eq_true_eq,decide_eq_false_iff_not,beq_iff_eq,Bool.not_not,beq_eq_false_iff_ne,ne_eq,Bool.and_false,Bool.and_true,Bool.false_or,Bool.or_false,Bool.false_eq_true]
   omega
 · have h00:¬((i:Int)>0):=by omega
   simp only [h00,decide_false,Bool.false_eq_true,if_false,jn_t,jn_f (i:Int),jn_if,h0,false_imp_iff,and_true]
   refine⟨_,rfl, ?_⟩
   simp only [HeardOK,Bool.or_eq_true,Bool.and_eq_true,Bool.not_eq_true',decide_eq_true_eq,decide_eq_false_iff_not,beq_iff_eq,Bool.not_not,beq_eq_false_iff_ne,ne_eq,Bool.and_false,Bool.and_true,Bool.false_or,Bool.or_false,Bool.false_eq_true]
   omega
theorem rloan_r (l:List TLoan) (me:Int) (i:Nat) (h:i<l.length) (hl:l.length≤60):Rnd (i:Int) (m_R09_areLoans_L1 l me i) ((∀x,l[i]?=some x→LoanOK me x)∧(0<i→∀a,l[i-1]?=some a→∀b,l[i]?=some b→loanLt a b)):=by
 refine rnd_at h fun x hx=> ?_
 have hlt:((i:Int)<(l.length:Int)):=by omega
 have e1:=(risDepot_a x.Owner).eq
 have e2:=(In_a x.No 1 40).eq
 have e3:=(risThing_a x.Thing).eq
 have e4:=(risMoment_a x.From).eq
 have e5:=(risMoment_a x.Until).eq
 have et:1≤x.Thing∧x.Thing≤99→x.Thing.tmod 6=x.Thing % 6:=fun h=>tmod6 (by omega)
 unfold m_R09_areLoans_L1
 simp only [hlt,decide_true,if_true,idx_at hx,Option.bind_some,e1,e2,e3,e4,e5]
 generalize x.Thing.tmod 6=tm at et⊢
 by_cases h0:0<i
 · obtain⟨y,hy⟩:=at_ex (l:=l) (i:=i-1) (by omega)
   have h00:(i:Int)>0:=by omega
   simp only [h00,decide_true,if_true,pred_eq h0 (by omega),idx_at hy,hy,Option.bind_some,jn_t,jn_f (i:Int),jn_if,h0,true_imp_iff,Option.some.injEq,forall_eq']
   refine⟨_,rfl, ?_⟩
   simp only [LoanOK,loanLt,Bool.or_eq_true,Bool.and_eq_true,Bool.not_eq_true',decide_eq_true_eq,decide_eq_false_iff_not,beq_iff_eq,Bool.not_not,beq_eq_false_iff_ne,ne_eq,Bool.and_false,Bool.and_true,Bool.false_or,Bool.or_false,Bool.false_eq_true,bne_iff_ne,bne_eq_false_iff_eq]
   omega
 · have h00:¬((i:Int)>0):=by omega
   simp only [h00,decide_false,Bool.false_eq_true,if_false,jn_t,jn_f (i:Int),jn_if,h0,false_imp_iff,and_true]
   refine⟨_,rfl, ?_⟩
   simp only [LoanOK,Bool.or_eq_true,Bool.and_eq_true,Bool.not_eq_true',decide_eq_true_eq,decide_eq_false_iff_not,beq_iff_eq,Bool.not_not,beq_eq_false_iff_ne,ne_eq,Bool.and_false,Bool.and_true,Bool.false_or,Bool.or_false,Bool.false_eq_true,bne_iff_ne,bne_eq_false_iff_eq]
   omega
theorem rbid_lp (l:List TBid) (i:Nat) (h:i<l.length) (hl:l.length≤12) (x:TBid):Lp (loopF (m_R09_areBids_L5 l i x) 0) (∀y,y∈l.take i→¬y.Ballot=x.Ballot):=by
 refine(loop_lp i (by omega) (fun k=>∀y,l[k]?=some y→¬y.Ballot=x.Ballot) (fun k hk=> ?_) (by simp [m_R09_areBids_L5])).iff ?_
 · obtain⟨y,hy⟩:=at_ex (l:=l) (i:=k) (by omega)
   have hlt:((k:Int)<(i:Int)):=by omega
   unfold m_R09_areBids_L5
   simp only [hlt,decide_true,if_true,idx_at hy,Option.bind_some,hy,Option.some.injEq,forall_eq']
   exact(Rnd.ite (P:=¬y.Ballot=x.Ballot) (by simp) fun _=> .go trivial).iff (by simp)
 · constructor
   · intro h' y hy
     obtain⟨k,hk,rfl⟩:=List.mem_take_iff_getElem.1 hy
     exact h' k (by omega) _ (List.getElem?_eq_getElem _)
   · intro h' k hk y hy
     exact h' y (List.mem_take_iff_getElem.2 ⟨k,by omega,(List.getElem?_eq_some_iff.1 hy).2⟩)
theorem rmeet_a (a b:TLease):Ans (m_R09_meet a b) (a.Thing=b.Thing∧meetP a b):=by
 unfold m_R09_meet meetP
 rw [max_if,min_if]
 exact Ans.ite (by simp) fun _=> .of
theorem rlease_lp (l:List TLease) (i:Nat) (h:i<l.length) (hl:l.length≤40) (x:TLease):Lp (loopF (m_R09_areLeases_L4 l i x) 0) (∀y,y∈l.take i→¬(y.Thing=x.Thing∧meetP y x)):=by
 refine(loop_lp i (by omega) (fun k=>∀y,l[k]?=some y→¬(y.Thing=x.Thing∧meetP y x)) (fun k hk=> ?_) (by simp [m_R09_areLeases_L4])).iff ?_
 · obtain⟨y,hy⟩:=at_ex (l:=l) (i:=k) (by omega)
   have hlt:((k:Int)<(i:Int)):=by omega
   unfold m_R09_areLeases_L4
   simp only [hlt,decide_true,if_true,idx_at hy,Option.bind_some,hy,Option.some.injEq,forall_eq']
   exact(Rnd.and (rmeet_a y x) fun _=> .go trivial).iff (by simp)
 · constructor
   · intro h' y hy
     obtain⟨k,hk,rfl⟩:=List.mem_take_iff_getElem.1 hy
     exact h' k (by omega) _ (List.getElem?_eq_getElem _)
   · intro h' k hk y hy
     exact h' y (List.mem_take_iff_getElem.2 ⟨k,by omega,(List.getElem?_eq_some_iff.1 hy).2⟩)
theorem rbid_r (l:List TBid) (me r:Int) (hm:0≤me∧me≤5) (hr:0≤r∧r≤9999) (i:Nat) (h:i<l.length) (hl:l.length≤12):Rnd (i:Int) (m_R09_areBids_L4 l me r i) ((∀x,l[i]?=some x→BidOK me r x∧∀y,y∈l.take i→¬y.Ballot=x.Ballot)∧(0<i→∀a,l[i-1]?=some a→∀b,l[i]?=some b→bidLt a b)):=by
 refine rnd_at (ok:=fun x=>BidOK me r x∧∀y,y∈l.take i→¬y.Ballot=x.Ballot) h fun x hx=> ?_
 have hlt:((i:Int)<(l.length:Int)):=by omega
 have w1:W (W (6*r)+me)=6*r+me:=by rw [W_id (z:=6*r) (by omega),W_id (by omega)]
 have w2:W (6+me)=6+me:=W_id (by omega)
 have hlp:=rbid_lp l i h hl x
 unfold m_R09_areBids_L4
 simp only [hlt,decide_true,if_true]
 simp only [idx_at hx,Option.bind_some,w1,w2,rMod_all,rquorum_eq]
 have tail:Rnd (i:Int) (Option.bind (m_R09_isValue x.Value) fun x154=>if(!x154)=true then some (.inr (.inr false))else Option.bind (m_R09_In x.Ballot (6+me) (6*r+me)) fun x157=>if(!x157)=true then some (.inr (.inr false))else
  if(x.Ballot % 6 !=me)=true then some (.inr (.inr false))else Option.bind (m_R09_In x.Best 0 (W (x.Ballot-1))) fun x163=>if(!x163)=true then some (.inr (.inr false))else Option.bind (m_R09_isMask x.Mask) fun x166=>if(!x166)=true then some (.inr (.inr false))else
  if(!(x.Asked==qr x.Mask))=true then some (.inr (.inr false))else Option.bind (loopF (m_R09_areBids_L5 l i x) 0) fun e=>match e with| .inl _=>some (.inl (W ((i:Int)+1)))| .inr r=>some (.inr (.inr r)))
  ((1≤x.Value∧x.Value≤1000000)∧(6+me≤x.Ballot∧x.Ballot≤6*r+me)∧x.Ballot % 6=me∧(0≤x.Best∧x.Best≤x.Ballot-1)∧(0≤x.Mask∧x.Mask≤63)∧x.Asked=qr x.Mask∧∀y,y∈l.take i→¬y.Ballot=x.Ballot):=by
  refine Rnd.nand (risValue_a _) fun h1=>Rnd.nand (In_a _ _ _) fun h2=>Rnd.ite (by simp) fun h3=> ?_
  rw [W_id (z:=x.Ballot-1) (by omega)]
  exact Rnd.nand (In_a _ _ _) fun h4=>Rnd.nand (risMask_a _) fun h5=>Rnd.ite (by simp) fun h6=>Rnd.loop hlp
 by_cases h0:0<i
 · obtain⟨y,hy⟩:=at_ex (l:=l) (i:=i-1) (by omega)
   have h00:(i:Int)>0:=by omega
   simp only [h00,decide_true,if_true,pred_eq h0 (by omega),idx_at hy,hy,Option.bind_some,h0,true_imp_iff,Option.some.injEq,forall_eq']
   refine(Rnd.nand (risNight_a _) fun h1=>Rnd.ite (P:=y.Night<x.Night) (by simp) fun h2=>tail).iff ?_
   unfold BidOK bidLt
   constructor
   · rintro⟨a,b,c,d,e,f,g,h,k⟩;exact⟨⟨⟨a,by omega,e,c,f,g,h⟩,k⟩,b⟩
   · rintro⟨⟨⟨a,b,c,d,e,f,g⟩,k⟩,m⟩;exact⟨a,m,d,by omega,c,e,f,g,k⟩
 · have h00:¬((i:Int)>0):=by omega
   simp only [h00,decide_false,Bool.false_eq_true,if_false,h0,false_imp_iff,and_true]
   refine(Rnd.nand (risNight_a _) fun h1=>tail).iff ?_
   unfold BidOK
   constructor
   · rintro⟨a,c,d,e,f,g,h,k⟩;exact⟨⟨a,by omega,e,c,f,g,h⟩,k⟩
   · rintro⟨⟨a,b,c,d,e,f,g⟩,k⟩;exact⟨a,d,by omega,c,e,f,g,k⟩
theorem rlease_r (l:List TLease) (me:Int) (i:Nat) (h:i<l.length) (hl:l.length≤40):Rnd (i:Int) (m_R09_areLeases_L3 l me i) (∀x,l[i]?=some x→LeaseOK me x∧x.No=(i:Int)+1∧∀y,y∈l.take i→¬(y.Thing=x.Thing∧meetP y x)):=by
 obtain⟨x,hx⟩:=at_ex h
 have hlt:((i:Int)<(l.length:Int)):=by omega
 have hlp:=rlease_lp l i h hl x
 unfold m_R09_areLeases_L3
 simp only [hlt,decide_true,if_true,idx_at hx,Option.bind_some,hx,Option.some.injEq,forall_eq']
 refine(Rnd.ite (P:=x.No=(i:Int)+1) (by rw [W_id (by omega)];simp) fun _=>Rnd.nand (risThing_a _) fun h1=>Rnd.ite (P:=x.Thing % 6=me) (by rw [tmod6 (by omega)];simp) fun _=>Rnd.nand (risDepot_a _) fun _=>Rnd.ite (P:=¬x.To=me) (by simp) fun _=>
  Rnd.nand (risMoment_a _) fun _=>Rnd.nand (risMoment_a _) fun _=>Rnd.ite (P:=x.From≤x.Until) (by simp) fun _=>Rnd.loop hlp).iff ?_
 unfold LeaseOK
 constructor
 · rintro⟨a,b,c,d,e,f,g,h,k⟩;exact⟨⟨b,c,d,e,f,g,h⟩,a,k⟩
 · rintro⟨⟨b,c,d,e,f,g,h⟩,a,k⟩;exact⟨a,b,c,d,e,f,g,h,k⟩
theorem are_a {m:Option (Sum Int Bool)} {n most:Int} {P:Prop} (h:n≤most→Lp m P):Ans (if(decide (n>most))=true then some false else m.bind fun e=>match e with| .inl _=>some true| .inr r=>some r) (n≤most∧P):=
 Ans.ite' (by simp) fun h'=>Ans.lp (h h')
theorem zero_le_of {i:Nat} {P:Prop}:(0≤i→P)↔P:=⟨fun h=>h (Nat.zero_le _),fun h _=>h⟩
theorem rareSlots_a (l:List TSlot):Ans (m_R09_areSlots l) ((l.length:Int)≤12∧(∀x,x∈l→SlotOK x)∧risesBy slotLt l):=
 are_a fun h=>(loop_lp l.length (by omega) _ (fun i hi=>rslot_r l i hi (by omega)) (by simp [m_R09_areSlots_L1])).iff ((forall_congr' fun _=>zero_le_of.symm).trans (all_idx l SlotOK slotLt))
theorem rareHeard_a (l:List THeard):Ans (m_R09_areHeard l) ((l.length:Int)≤60∧(∀x,x∈l→HeardOK x)∧risesBy heardLt l):=
 are_a fun h=>(loop_lp l.length (by omega) _ (fun i hi=>rheard_r l i hi (by omega)) (by simp [m_R09_areHeard_L1])).iff ((forall_congr' fun _=>zero_le_of.symm).trans (all_idx l HeardOK heardLt))
theorem rareLoans_a (l:List TLoan) (me:Int):Ans (m_R09_areLoans l me) ((l.length:Int)≤60∧(∀x,x∈l→LoanOK me x)∧risesBy loanLt l):=
 are_a fun h=>(loop_lp l.length (by omega) _ (fun i hi=>rloan_r l me i hi (by omega)) (by simp [m_R09_areLoans_L1])).iff ((forall_congr' fun _=>zero_le_of.symm).trans (all_idx l (LoanOK me) loanLt))
theorem rareBids_a (l:List TBid) (me r:Int) (hm:0≤me∧me≤5) (hr:0≤r∧r≤9999):Ans (m_R09_areBids l me r) ((l.length:Int)≤12∧(∀x,x∈l→BidOK me r x)∧risesBy bidLt l∧noTwo (fun a b=>a.Ballot=b.Ballot) l):=
 are_a fun h=>(loop_lp l.length (by omega) _ (fun i hi=>rbid_r l me r hm hr i hi (by omega)) (by simp [m_R09_areBids_L4])).iff (by
  have key:=all_idx l (BidOK me r) bidLt
  constructor
  · intro h
    obtain⟨h1,h2⟩:=key.1 fun i _ hi=>⟨fun x hx=>((h i hi).1 x hx).1,(h i hi).2⟩
    exact⟨h1,h2,fun i x hx=>((h i (List.getElem?_eq_some_iff.1 hx).1).1 x hx).2⟩
  · rintro⟨h1,h2,h3⟩ i hi
    have:=key.2 ⟨h1,h2⟩ i (Nat.zero_le _) hi
    exact⟨fun x hx=>⟨this.1 x hx,h3 i x hx⟩,this.2⟩)
theorem rareLeases_a (l:List TLease) (me:Int):Ans (m_R09_areLeases l me) ((l.length:Int)≤40∧(∀x,x∈l→LeaseOK me x)∧(∀(i:Nat) x,l[i]?=some x→x.No=(i:Int)+1)∧noTwo (fun a b=>a.Thing=b.Thing∧meetP a b) l):=
 are_a fun h=>(loop_lp l.length (by omega) _ (fun i hi=>rlease_r l me i hi (by omega)) (by simp [m_R09_areLeases_L3])).iff (by
  constructor
  · intro h
    refine⟨fun x hx=> ?_,fun i x hx=>((h i (List.getElem?_eq_some_iff.1 hx).1) x hx).2.1,fun i x hx=>((h i (List.getElem?_eq_some_iff.1 hx).1) x hx).2.2⟩
    obtain⟨i,hi,rfl⟩:=List.getElem_of_mem hx
    exact((h i hi) _ (List.getElem?_eq_getElem hi)).1
  · rintro⟨h1,h2,h3⟩ i hi x hx
    exact⟨h1 x (List.mem_of_getElem? hx),h2 i x hx,h3 i x hx⟩)
def Err (m:Option Int) (P:Prop) (e:Int):Prop:=m=some (if P then 0 else e)
theorem Err.nand {m:Option Bool} {n:Option Int} {P Q:Prop} {e:Int} (h:Ans m P) (k:P→Err n Q e):Err (Option.bind m fun x=>if(!x)=true then some e else n) (P∧Q) e:=by
 obtain⟨b,rfl,hb⟩:=h
 unfold Err
 by_cases hp:P
 · have:=k hp
   unfold Err at this
   simp [hb.2 hp,hp,this]
 · have:b=false:=by cases b with|false=>rfl|true=>exact absurd (hb.1 rfl) hp
   simp [this,hp]
theorem Err.one {m:Option Bool} {P:Prop} {e:Int} (h:Ans m P):Err (Option.bind m fun x=>if(!x)=true then some e else some 0) P e:=by
 have:=Err.nand (Q:=True) (n:=some 0) (e:=e) h (fun _=>by simp [Err])
 simpa using this
theorem Err.iff {m:Option Int} {P Q:Prop} {e:Int} (h:Err m P e) (k:P↔Q):Err m Q e:=by
 unfold Err at*;rw [h];simp [k]
theorem rCheckState_e (me:Int) (s:TState):Err (m_R09_CheckState me s) (VState me s) 90:=by
 refine Err.iff (Err.nand (risDepot_a _) fun hm=>Err.nand (In_a _ _ _) fun hr=>Err.nand (rareSlots_a _) fun _=>Err.nand (rareBids_a _ _ _ hm hr) fun _=>Err.nand (rareHeard_a _) fun _=>Err.nand (rareLeases_a _ _) fun _=>Err.one (rareLoans_a _ _)) ?_
 rw [vstate_iff]
 constructor
 · rintro⟨a,b,⟨c1,c2,c3⟩,⟨d1,d2,d3,d4⟩,⟨e1,e2,e3⟩,⟨f1,f2,f3,f4⟩,⟨g1,g2,g3⟩⟩
   exact⟨a,b,⟨c1,c2⟩,⟨d1,d2⟩,⟨e1,e2⟩,⟨f1,f2⟩,⟨g1,g2⟩,c3,d3,e3,g3,d4,f3,f4⟩
 · rintro⟨a,b,⟨c1,c2⟩,⟨d1,d2⟩,⟨e1,e2⟩,⟨f1,f2⟩,⟨g1,g2⟩,c3,d3,e3,g3,d4,f3,f4⟩
   exact⟨a,b,⟨c1,c2,c3⟩,⟨d1,d2,d3,d4⟩,⟨e1,e2,e3⟩,⟨f1,f2,f3,f4⟩,⟨g1,g2,g3⟩⟩
def VStation (x:TStation):Prop:=VState x.Me x.Now∧VState x.Me x.Safe
theorem Check_e (x:TStation):Err (m_muster_Check x) (VStation x) 90:=Err.nand (isState_a _ _) fun _=>Err.one (isState_a _ _)
theorem rCheck_e (x:TStation):Err (m_R09_Check x) (VStation x) 90:=by
 have e1:=rCheckState_e x.Me x.Now
 have e2:=rCheckState_e x.Me x.Safe
 unfold Err at*
 unfold m_R09_Check
 rw [e1,e2]
 unfold VStation
 by_cases h1:VState x.Me x.Now<;>by_cases h2:VState x.Me x.Safe<;>simp [h1,h2]
end Go.Proofs.YtcedmbakcchkiaaGreatDoor
namespace Go.Proofs.YtcedmbakcchkiaaGreatDoor
open Go Go.Sx
open Classical
theorem same_lp {α:Type} {l:List α} (hl:l.length≤9223372036854775806) {q:α→α→Bool} (hq:∀x,q x x=true) {body:Int→Option (Sum Int (Sum Int Bool))}
 (hb:body=fun i=>if(decide (i<(l.length:Int)))=true then Option.bind (idx l i) fun a=>Option.bind (idx l i) fun b=>if(!(q a b))=true then some (.inr (.inr false))else some (.inl (W (i+1)))else some (.inr (.inl i))):Lp (loopF body 0) True:=by
 refine(loop_lp l.length (by omega) (fun _=>True) (fun i hi=> ?_) (by rw [hb];simp)).iff (by simp)
 rw [hb]
 have hlt:((i:Int)<(l.length:Int)):=by omega
 simp only [hlt,decide_true,if_true]
 refine Rnd.get hi (Rnd.get hi ?_)
 rw [hq]
 exact .go trivial
structure Short (s:TState):Prop where
 a:s.Slots.length≤9223372036854775806
 b:s.Bids.length≤9223372036854775806
 c:s.Heard.length≤9223372036854775806
 d:s.Leases.length≤9223372036854775806
 e:s.Loans.length≤9223372036854775806
theorem SameState_a (s:TState) (h:Short s):Ans (m_R09_SameState s s) True:=by
 unfold m_R09_SameState
 have n0:∀ {x:Int},(x !=x)=true↔¬True:=by simp
 refine(Ans.ite' n0 fun _=>Ans.ite' n0 fun _=>Ans.ite' n0 fun _=>Ans.ite' n0 fun _=>Ans.ite' n0 fun _=>Ans.ite' n0 fun _=>
  Ans.loop (same_lp h.a (q:=fun a b=>(a.Night==b.Night)&&((a.Promised==b.Promised)&&((a.Ballot==b.Ballot)&&(a.Value==b.Value)))) (by simp) rfl) fun _=>
  Ans.loop (same_lp h.b (q:=fun a b=>(a.Night==b.Night)&&((a.Ballot==b.Ballot)&&((a.Value==b.Value)&&((a.Best==b.Best)&&((a.Mask==b.Mask)&&(a.Asked==b.Asked)))))) (by simp) rfl) fun _=>
  Ans.loop (same_lp h.c (q:=fun a b=>(a.Night==b.Night)&&((a.Ballot==b.Ballot)&&((a.Value==b.Value)&&(a.Mask==b.Mask)))) (by simp) rfl) fun _=>
  Ans.loop (same_lp h.d (q:=fun a b=>(a.No==b.No)&&((a.Thing==b.Thing)&&((a.To==b.To)&&((a.From==b.From)&&(a.Until==b.Until))))) (by simp) rfl) fun _=>
  Ans.lp (same_lp h.e (q:=fun a b=>(a.Owner==b.Owner)&&((a.No==b.No)&&((a.Thing==b.Thing)&&((a.From==b.From)&&((a.Until==b.Until)&&(a.Back==b.Back)))))) (by simp) rfl)).iff (by simp)
theorem Ans.true {m:Option Bool} (h:Ans m True):m=some true:=by rw [h.eq];simp
theorem Same_self (x:TStation) (h1:Short x.Now) (h2:Short x.Safe):m_R09_Same x x=some true:=by
 unfold m_R09_Same
 rw [(SameState_a _ h1).true,(SameState_a _ h2).true]
 simp
theorem SameCalls_self (l:List TCall) (h:l.length≤9223372036854775806):m_R09_SameCalls l l=some true:=by
 unfold m_R09_SameCalls
 refine Ans.true ((Ans.ite' (P:=True) (by simp) fun _=>Ans.lp (same_lp h (q:=fun a b=>(a.Kind==b.Kind)&&((a.From==b.From)&&((a.To==b.To)&&((a.Night==b.Night)&&((a.Ballot==b.Ballot)&&((a.Best==b.Best)&&((a.Value==b.Value)&&((a.No==b.No)&&((a.Thing==b.Thing)&&((a.Start==b.Start)&&(a.Until==b.Until))))))))))) (by simp) rfl)).iff (by simp))
def S0:TState:=⟨0, [], [], [], [], []⟩
theorem short0:Short S0:=⟨by decide,by decide,by decide,by decide,by decide⟩
end Go.Proofs.YtcedmbakcchkiaaGreatDoor
namespace Go.Proofs.YtcedmbakcchkiaaGreatDoor
open Go Go.Sx
open Classical
def runL {α σ R:Type} (f:σ→α→Sum σ R):List α→σ→Sum σ R
 | [],s=> .inl s
 |x::l,s=>match f s x with| .inl s'=>runL f l s'| .inr r=> .inr r
theorem loop_list {α σ S E R:Type} {body:S→Option (Sum S E)} (l:List α) (hl:l.length≤9223372036854775807) (enc:Nat→σ→S) (f:σ→α→Sum σ R) (out:R→E) (fin:σ→E) (P:List α→σ→Prop)
 (h:∀pre x post s,l=pre++x::post→P pre s→body (enc pre.length s)=some (match f s x with| .inl s'=> .inl (enc (pre.length+1) s')| .inr r=> .inr (out r))∧∀s',f s x= .inl s'→P (pre++ [x]) s')
 (he:∀s,P l s→body (enc l.length s)=some (.inr (fin s))) (s0:σ) (h0:P [] s0):
 loopF body (enc 0 s0)=some (match runL f l s0 with| .inl s=>fin s| .inr r=>out r):=by
 have key:∀(post pre:List α) (s:σ) (n:Nat),l=pre++post→P pre s→post.length<n→loopO body n (enc pre.length s)=some (match runL f post s with| .inl s=>fin s| .inr r=>out r):=by
  intro post
  induction post with
  |nil=>
   intro pre s n hp hs hn
   cases n with
   |zero=>omega
   |succ n=>
    simp only [List.append_nil]at hp
    subst hp
    simp only [loopO,he s hs,runL]
  |cons x post ih=>
   intro pre s n hp hs hn
   cases n with
   |zero=>omega
   |succ n=>
    obtain⟨h1,h2⟩:=h pre x post s hp hs
    simp only [loopO,h1,runL]
    cases hf:f s x with
    |inl s'=>
     have:=ih (pre++ [x]) s' n (by simp [hp]) (h2 s' hf) (by simp at hn;omega)
     simpa using this
    |inr r=>rfl
 exact key l [] s0 FUEL rfl h0 (by unfold FUEL;omega)
theorem runL_app {α β R:Type} (em:α→List β) (l:List α) (s:List β):runL (R:=R) (fun s x=> .inl (s++em x)) l s= .inl (s++l.flatMap em):=by
 induction l generalizing s with
 |nil=>simp [runL]
 |cons x l ih=>simp [runL,ih]
theorem app_loop {α β S:Type} {body:S→Option (Sum S S)} (l:List α) (hl:l.length≤1000) (enc:Nat→List β→S) (em:α→List β) (acc:List β) (ha:acc.length≤10000) (hem:∀x,(em x).length≤2)
 (h:∀pre x post s,l=pre++x::post→s.length≤20000→body (enc pre.length s)=some (.inl (enc (pre.length+1) (s++em x)))) (he:∀s,body (enc l.length s)=some (.inr (enc l.length s))):
 loopF body (enc 0 acc)=some (enc l.length (acc++l.flatMap em)):=by
 have:=loop_list (R:=S) (body:=body) l (by omega) enc (fun s x=> .inl (s++em x)) id (fun s=>enc l.length s) (fun pre s=>s.length≤acc.length+2*pre.length∧pre.length≤l.length) (fun pre x post s hp hs=>⟨h pre x post s hp (by omega),fun s' hs'=>by
  have hx:=hem x
  have hpl:pre.length+1≤l.length:=by rw [hp];simp
  simp only [Sum.inl.injEq]at hs'
  subst hs'
  simp only [List.length_append,List.length_singleton]
  omega⟩) (fun s _=>he s) acc ⟨by simp,by simp⟩
 rw [this,runL_app]
theorem loopI_list {α β S E:Type} {body:S→Option (List β×Sum S E)} (l:List α) (hl:l.length≤9223372036854775807) (enc:Nat→S) (em:α→List β) (fin:E)
 (h:∀pre x post,l=pre++x::post→body (enc pre.length)=some (em x, .inl (enc (pre.length+1))))
 (he:body (enc l.length)=some ([], .inr fin)):loopIF body (enc 0)=some (l.flatMap em,fin):=by
 have key:∀(post pre:List α) (n:Nat),l=pre++post→post.length<n→loopIO body n (enc pre.length)=some (post.flatMap em,fin):=by
  intro post
  induction post with
  |nil=>
   intro pre n hp hn
   cases n with
   |zero=>omega
   |succ n=>
    simp only [List.append_nil]at hp
    subst hp
    simp only [loopIO,he,List.flatMap_nil]
  |cons x post ih=>
   intro pre n hp hn
   cases n with
   |zero=>omega
   |succ n=>
    have:=ih (pre++ [x]) n (by simp [hp]) (by simp at hn;omega)
    simp only [List.length_append,List.length_cons,List.length_nil,Nat.zero_add]at this
    simp only [loopIO,h pre x post hp,this,List.flatMap_cons]
 exact key l [] FUEL rfl (by unfold FUEL;omega)
theorem idx_pre {α:Type} {pre post:List α} {x:α}:idx (pre++x::post) (pre.length:Int)=some x:=by
 unfold idx;simp
theorem lt_pre {α:Type} {pre post:List α} {x:α}:((pre.length:Int)<((pre++x::post).length:Int)):=by simp;omega
theorem gd_t {α:Type} {p:Prop} [Decidable p] {k:Option α} (h:p):gd p k=k:=by unfold gd;rw [if_pos h]
theorem VState.short {me:Int} {s:TState} (h:VState me s):Short s:=by
 have:=h.nslots;have:=h.nbids;have:=h.nheard;have:=h.nleases;have:=h.nloans
 constructor<;>omega
theorem copied_eq {me:Int} {s:TState} (h:VState me s):m_muster_copied s=some s:=by
 have:=h.nslots;have:=h.nbids;have:=h.nheard;have:=h.nleases;have:=h.nloans
 unfold m_muster_copied m_slices_Clone_api_Slot_api_Slot m_slices_Clone_api_Bid_api_Bid m_slices_Clone_api_Heard_api_Heard m_slices_Clone_api_Lease_api_Lease m_slices_Clone_api_Loan_api_Loan
 rw [gd_t (by omega),gd_t (by omega),gd_t (by omega),gd_t (by omega),gd_t (by omega)]
 rfl
theorem rcopied_eq {me:Int} {s:TState} (h:VState me s):m_R09_copied s=some s:=by
 have:=h.nslots;have:=h.nbids;have:=h.nheard;have:=h.nleases;have:=h.nloans
 unfold m_R09_copied
 rw [gd_t (by simp;omega),gd_t (by simp;omega),gd_t (by simp;omega),gd_t (by simp;omega),gd_t (by simp;omega)]
 rfl
theorem open_eq (x:TStation):m_muster_open x=some (if VStation x then(some ⟨x⟩,0)else(none,90)):=by
 have e:=Check_e x
 unfold Err at e
 unfold m_muster_open
 rw [e]
 by_cases h:VStation x
 · rw [if_pos h,if_pos h,copied_eq h.1,copied_eq h.2];rfl
 · rw [if_neg h,if_neg h];rfl
theorem open1_eq (x:TStation):m_IN_muster_open_1 x=some (if VStation x then .inr (x.Me,x.Now.Round,x.Now.Slots,x.Now.Bids,x.Now.Heard,x.Now.Leases,x.Now.Loans,x.Safe.Round,x.Safe.Slots,x.Safe.Bids,x.Safe.Heard,x.Safe.Leases,x.Safe.Loans)else .inl 90):=by
 have e:=Check_e x
 unfold Err at e
 unfold m_IN_muster_open_1
 rw [e]
 by_cases h:VStation x
 · rw [if_pos h,if_pos h,copied_eq h.1,copied_eq h.2];rfl
 · rw [if_neg h,if_neg h];rfl
def Z0:TStation:=⟨0,S0,S0⟩
noncomputable def writeS (x:TStation):TStation×Int:=if VStation x then(⟨x.Me,x.Now,x.Now⟩,0)else(Z0,90)
noncomputable def failS (x:TStation):TStation×Int:=if VStation x then(⟨x.Me,x.Safe,x.Safe⟩,0)else(Z0,90)
theorem Write_eq (x:TStation):m_muster_Write x=some (writeS x):=by
 unfold m_muster_Write writeS
 rw [open1_eq]
 by_cases h:VStation x
 · rw [if_pos h,if_pos h]
   simp only [Option.bind_some]
   rw [copied_eq h.1];rfl
 · rw [if_neg h,if_neg h];rfl
theorem Fail_eq (x:TStation):m_muster_Fail x=some (failS x):=by
 unfold m_muster_Fail failS
 rw [open1_eq]
 by_cases h:VStation x
 · rw [if_pos h,if_pos h]
   simp only [Option.bind_some]
   rw [copied_eq h.2];rfl
 · rw [if_neg h,if_neg h];rfl
theorem rWrite_eq (x:TStation):m_R09_Write x=some (writeS x):=by
 have e:=rCheck_e x
 unfold Err at e
 unfold m_R09_Write writeS
 rw [e]
 by_cases h:VStation x
 · rw [if_pos h,if_pos h,rcopied_eq h.1];rfl
 · rw [if_neg h,if_neg h];rfl
theorem rFail_eq (x:TStation):m_R09_Fail x=some (failS x):=by
 have e:=rCheck_e x
 unfold Err at e
 unfold m_R09_Fail failS
 rw [e]
 by_cases h:VStation x
 · rw [if_pos h,if_pos h,rcopied_eq h.2];rfl
 · rw [if_neg h,if_neg h];rfl
theorem writeS_short (x:TStation):Short (writeS x).1.Now∧Short (writeS x).1.Safe:=by
 unfold writeS
 split
 · rename_i h;exact⟨h.1.short,h.1.short⟩
 · exact⟨short0,short0⟩
theorem failS_short (x:TStation):Short (failS x).1.Now∧Short (failS x).1.Safe:=by
 unfold failS
 split
 · rename_i h;exact⟨h.2.short,h.2.short⟩
 · exact⟨short0,short0⟩
def bidC (me to_:Int) (b:TBid):List TCall:=if b.Asked=true then [⟨3,me,to_,b.Night,b.Ballot,0,b.Value,0,0,0,0⟩]else [⟨1,me,to_,b.Night,b.Ballot,0,0,0,0,0,0⟩]
def slotC (me to_:Int) (s:TSlot):List TCall:=(if s.Promised % 6=to_∧s.Promised>s.Ballot then [⟨2,me,to_,s.Night,s.Promised,s.Ballot,s.Value,0,0,0,0⟩]else [])++(if s.Ballot≠0 then [⟨4,me,to_,s.Night,s.Ballot,0,s.Value,0,0,0,0⟩]else [])
def leaseC (me to_:Int) (l:TLease):List TCall:=if l.To=to_ then [⟨5,me,to_,0,0,0,0,l.No,l.Thing,l.From,l.Until⟩]else []
def loanC (me to_:Int) (l:TLoan):List TCall:=if l.Owner=to_∧l.Back=true then [⟨6,me,to_,0,0,0,0,l.No,l.Thing,0,l.Until⟩]else []
def outS (me to_:Int) (s:TState):List TCall:=s.Bids.flatMap (bidC me to_)++(s.Slots.flatMap (slotC me to_)++(s.Leases.flatMap (leaseC me to_)++s.Loans.flatMap (loanC me to_)))
theorem flat_len {α β:Type} (f:α→List β) (n:Nat) (h:∀x,(f x).length≤n):∀l:List α,(l.flatMap f).length≤n*l.length
 | []=>by simp
 |x::l=>by
  have:=flat_len f n h l
  have:=h x
  simp only [List.flatMap_cons,List.length_append,List.length_cons,Nat.mul_add];omega
theorem bidC_len (me t:Int) (x:TBid):(bidC me t x).length≤2:=by unfold bidC;split<;>simp
theorem slotC_len (me t:Int) (x:TSlot):(slotC me t x).length≤2:=by unfold slotC;split<;>split<;>simp
theorem leaseC_len (me t:Int) (x:TLease):(leaseC me t x).length≤2:=by unfold leaseC;split<;>simp
theorem loanC_len (me t:Int) (x:TLoan):(loanC me t x).length≤2:=by unfold loanC;split<;>simp
theorem outS_len {me:Int} {s:TState} (h:VState me s) (to_:Int):(outS me to_ s).length≤1000:=by
 have:=h.nslots;have:=h.nbids;have:=h.nheard;have:=h.nleases;have:=h.nloans
 have:=flat_len _ 2 (bidC_len me to_) s.Bids
 have:=flat_len _ 2 (slotC_len me to_) s.Slots
 have:=flat_len _ 2 (leaseC_len me to_) s.Leases
 have:=flat_len _ 2 (loanC_len me to_) s.Loans
 unfold outS
 simp only [List.length_append]
 omega
theorem out_eq (x:TStation) (h:VStation x) (to_:Int):it_muster_post_out_1 ⟨x⟩ to_=some (outS x.Me to_ x.Safe,()):=by
 obtain⟨_,h⟩:=h
 have hs:=h.short
 have l1:loopIF (it_muster_post_out_1_L1 ⟨x⟩ to_) ((0:Nat):Int)=some (x.Safe.Bids.flatMap (bidC x.Me to_),(x.Safe.Bids.length:Int)):=by
  refine loopI_list (enc:=fun k=>(k:Int)) x.Safe.Bids (by have:=hs.b;omega) (bidC x.Me to_) (x.Safe.Bids.length:Int) (fun pre y post hp=> ?_) (by simp [it_muster_post_out_1_L1])
  have hw:W ((pre.length:Int)+1)=((pre.length+1:Nat):Int):=W_s (by have:=hs.b;rw [hp]at this;simp at this;omega)
  unfold it_muster_post_out_1_L1 bidC
  simp only [hp,lt_pre,decide_true,if_true,idx_pre,Option.bind_some,hw,emit]
  split<;>rfl
 have l2:loopIF (it_muster_post_out_1_L2 ⟨x⟩ to_) ((0:Nat):Int)=some (x.Safe.Slots.flatMap (slotC x.Me to_),(x.Safe.Slots.length:Int)):=by
  have key:∀y,y∈x.Safe.Slots→y.Promised.tmod 6=y.Promised % 6:=fun y hy=>tmod6 (by have:=(h.slots y hy).2.1;omega)
  refine loopI_list (enc:=fun k=>(k:Int)) x.Safe.Slots (by have:=hs.a;omega) (slotC x.Me to_) (x.Safe.Slots.length:Int) (fun pre y post hp=> ?_) (by simp [it_muster_post_out_1_L2])
  have hw:W ((pre.length:Int)+1)=((pre.length+1:Nat):Int):=W_s (by have:=hs.a;rw [hp]at this;simp at this;omega)
  have ht:=key y (by rw [hp];simp)
  unfold it_muster_post_out_1_L2 slotC m_muster_depotOf
  simp only [hp,lt_pre,decide_true,if_true,idx_pre,Option.bind_some,hw,emit,ht]
  by_cases g1:y.Promised % 6=to_<;>by_cases g2:y.Promised>y.Ballot<;>simp [g1,g2]<;>by_cases g3:y.Ballot=0<;>simp [g3]
 have l3:loopIF (it_muster_post_out_1_L3 ⟨x⟩ to_) ((0:Nat):Int)=some (x.Safe.Leases.flatMap (leaseC x.Me to_),(x.Safe.Leases.length:Int)):=by
  refine loopI_list (enc:=fun k=>(k:Int)) x.Safe.Leases (by have:=hs.d;omega) (leaseC x.Me to_) (x.Safe.Leases.length:Int) (fun pre y post hp=> ?_) (by simp [it_muster_post_out_1_L3])
  have hw:W ((pre.length:Int)+1)=((pre.length+1:Nat):Int):=W_s (by have:=hs.d;rw [hp]at this;simp at this;omega)
  unfold it_muster_post_out_1_L3 leaseC
  simp only [hp,lt_pre,decide_true,if_true,idx_pre,Option.bind_some,hw,emit]
  by_cases g1:y.To=to_<;>simp [g1]
 have l4:loopIF (it_muster_post_out_1_L4 ⟨x⟩ to_) ((0:Nat):Int)=some (x.Safe.Loans.flatMap (loanC x.Me to_),(x.Safe.Loans.length:Int)):=by
  refine loopI_list (enc:=fun k=>(k:Int)) x.Safe.Loans (by have:=hs.e;omega) (loanC x.Me to_) (x.Safe.Loans.length:Int) (fun pre y post hp=> ?_) (by simp [it_muster_post_out_1_L4])
  have hw:W ((pre.length:Int)+1)=((pre.length+1:Nat):Int):=W_s (by have:=hs.e;rw [hp]at this;simp at this;omega)
  unfold it_muster_post_out_1_L4 loanC
  simp only [hp,lt_pre,decide_true,if_true,idx_pre,Option.bind_some,hw,emit]
  by_cases g1:y.Owner=to_<;>by_cases g2:y.Back=true<;>simp [g1,g2]
 unfold it_muster_post_out_1
 rw [show((0:Nat):Int)=0 from rfl]at l1 l2 l3 l4
 simp only [l1,l2,l3,l4,bindI]
 unfold outS
 simp
theorem collect_eq (l:List TCall) (hl:l.length≤1000):rangeF m_slices_AppendSeq_api_Call_api_Call__nil__muster_post_out_1_L1 l []=some (.inl l):=by
 have key:∀(l a:List TCall),a.length+l.length≤1000→rangeF m_slices_AppendSeq_api_Call_api_Call__nil__muster_post_out_1_L1 l a=some (.inl (a++l)):=by
  intro l
  induction l with
  |nil=>intro a _;simp [rangeF]
  |cons y l ih=>
   intro a h
   simp only [List.length_cons]at h
   have:m_slices_AppendSeq_api_Call_api_Call__nil__muster_post_out_1_L1 a y=some (.inl (a++ [y])):=by
    unfold m_slices_AppendSeq_api_Call_api_Call__nil__muster_post_out_1_L1
    rw [gd_t (by simp;omega)]
   simp only [rangeF,this]
   rw [ih _ (by simp;omega)]
   simp
 simpa using key l [] (by simpa using hl)
noncomputable def callsS (x:TStation) (to_:Int):List TCall×Int:=if VStation x then(if 0≤to_∧to_≤5 then(outS x.Me to_ x.Safe,0)else([],1))else([],90)
theorem Calls_eq (x:TStation) (to_:Int):m_muster_Calls x to_=some (callsS x to_):=by
 unfold m_muster_Calls callsS
 rw [open_eq,(isDepot_a to_).eq]
 by_cases h:VStation x
 · simp only [h,if_true,Option.bind_some,optM,bne_self_eq_false,Bool.false_eq_true,if_false]
   by_cases h2:0≤to_∧to_≤5
   · have e:m_muster_post_out ⟨x⟩ to_=some (⟨x⟩,to_):=rfl
     have e2:m_slices_Collect_api_Call__muster_post_out_1 ⟨x⟩ to_=some (outS x.Me to_ x.Safe):=by
      unfold m_slices_Collect_api_Call__muster_post_out_1 m_slices_AppendSeq_api_Call_api_Call__nil__muster_post_out_1
      rw [out_eq x h]
      simp only [Option.bind_some]
      rw [collect_eq _ (outS_len h.2 to_)]
      rfl
     simp only [h2,and_self,decide_true,Bool.not_true,Bool.false_eq_true,if_false,if_true,e,Option.bind_some,e2]
   · simp only [h2,decide_false,Bool.not_false,if_true,if_false]
 · simp [h,optM]
theorem rCalls_eq (x:TStation) (to_:Int):m_R09_Calls x to_=some (callsS x to_):=by
 have e:=rCheck_e x
 unfold Err at e
 unfold m_R09_Calls callsS
 rw [e,(risDepot_a to_).eq]
 by_cases hv:VStation x
 · simp only [hv,if_true,Option.bind_some,bne_self_eq_false,Bool.false_eq_true,if_false]
   by_cases h2:0≤to_∧to_≤5
   · obtain⟨_,h⟩:=hv
     have hs:=h.short
     have n1:=h.nslots;have n2:=h.nbids;have n3:=h.nleases;have n4:=h.nloans
     have b1:=flat_len _ 2 (bidC_len x.Me to_) x.Safe.Bids
     have b2:=flat_len _ 2 (slotC_len x.Me to_) x.Safe.Slots
     have b3:=flat_len _ 2 (leaseC_len x.Me to_) x.Safe.Leases
     have l1:=app_loop (body:=m_R09_Calls_L1 x to_) x.Safe.Bids (by omega) (fun k a=>([],(k:Int),a)) (bidC x.Me to_) [] (by simp) (bidC_len x.Me to_) (fun pre y post a hp ha=>by
      have hw:W ((pre.length:Int)+1)=((pre.length+1:Nat):Int):=W_s (by rw [hp]at n2;simp at n2;omega)
      unfold m_R09_Calls_L1 bidC
      simp only [hp,lt_pre,decide_true,if_true,idx_pre,Option.bind_some,hw]
      split<;>rw [gd_t (by simp;omega)]) (fun a=>by simp [m_R09_Calls_L1])
     have l2:=app_loop (body:=m_R09_Calls_L2 x to_) x.Safe.Slots (by omega) (fun k a=>((k:Int),a)) (slotC x.Me to_) (x.Safe.Bids.flatMap (bidC x.Me to_)) (by omega) (slotC_len x.Me to_) (fun pre y post a hp ha=>by
      have hw:W ((pre.length:Int)+1)=((pre.length+1:Nat):Int):=W_s (by rw [hp]at n1;simp at n1;omega)
      unfold m_R09_Calls_L2 slotC
      simp only [hp,lt_pre,decide_true,if_true,idx_pre,Option.bind_some,hw,rMod_all]
      by_cases g1:y.Promised % 6=to_<;>by_cases g2:y.Promised>y.Ballot<;>simp [g1,g2,gd]<;>by_cases g3:y.Ballot=0<;>simp [g3]<;>omega) (fun a=>by simp [m_R09_Calls_L2])
     have l3:=app_loop (body:=m_R09_Calls_L3 x to_) x.Safe.Leases (by omega) (fun k a=>((k:Int),a)) (leaseC x.Me to_) (x.Safe.Bids.flatMap (bidC x.Me to_)++x.Safe.Slots.flatMap (slotC x.Me to_)) (by simp only [List.length_append];omega) (leaseC_len x.Me to_) (fun pre y post a hp ha=>by
      have hw:W ((pre.length:Int)+1)=((pre.length+1:Nat):Int):=W_s (by rw [hp]at n3;simp at n3;omega)
      unfold m_R09_Calls_L3 leaseC
      simp only [hp,lt_pre,decide_true,if_true,idx_pre,Option.bind_some,hw]
      by_cases g1:y.To=to_<;>simp [g1,gd]<;>omega) (fun a=>by simp [m_R09_Calls_L3])
     have l4:=app_loop (body:=m_R09_Calls_L4 x to_) x.Safe.Loans (by omega) (fun k a=>((k:Int),a)) (loanC x.Me to_) (x.Safe.Bids.flatMap (bidC x.Me to_)++x.Safe.Slots.flatMap (slotC x.Me to_)++x.Safe.Leases.flatMap (leaseC x.Me to_)) (by simp only [List.length_append];omega) (loanC_len x.Me to_) (fun pre y post a hp ha=>by
      have hw:W ((pre.length:Int)+1)=((pre.length+1:Nat):Int):=W_s (by rw [hp]at n4;simp at n4;omega)
      unfold m_R09_Calls_L4 loanC
      simp only [hp,lt_pre,decide_true,if_true,idx_pre,Option.bind_some,hw]
      by_cases g1:y.Owner=to_<;>by_cases g2:y.Back=true<;>simp [g1,g2,gd]<;>omega) (fun a=>by simp [m_R09_Calls_L4])
     simp only [show((0:Nat):Int)=0 from rfl,List.nil_append]at l1 l2 l3 l4
     simp only [h2,and_self,decide_true,Bool.not_true,Bool.false_eq_true,if_false,if_true,l1,l2,l3,l4,Option.bind_some]
     unfold outS
     simp
   · simp only [h2,decide_false,Bool.not_false,if_true,if_false]
 · simp [hv]
theorem callsS_len (x:TStation) (to_:Int):(callsS x to_).1.length≤1000:=by
 unfold callsS
 split
 · rename_i h
   split
   · exact outS_len h.2 to_
   · simp
 · simp
end Go.Proofs.YtcedmbakcchkiaaGreatDoor
namespace Go.Proofs.YtcedmbakcchkiaaGreatDoor
open Go Go.Sx
set_option maxRecDepth 100000
def SB0:TState:=⟨0, [], [], [], [], []⟩
def SB1:TState:=⟨1, [], [⟨4,7,77,0,14,false⟩], [], [], []⟩
def SB2:TState:=⟨1, [], [⟨4,7,77,0,46,true⟩], [], [], []⟩
def SL:TStation:=⟨2,⟨0, [], [], [], [⟨1,8,0,100,200⟩], []⟩,SB0⟩
theorem sn1:m_L09_bid=some (⟨1,SB1,SB0⟩,true):=by decide+kernel
theorem sn2:m_muster_Hear ⟨1,SB1,SB0⟩ ⟨2,5,1,4,7,0,0,0,0,0,0⟩=some (⟨1,SB2,SB0⟩,0):=by decide+kernel
theorem sn3:m_muster_Write ⟨1,SB2,SB0⟩=some (⟨1,SB2,SB2⟩,0):=by decide+kernel
theorem sn4:m_muster_Calls ⟨1,SB2,SB2⟩ 2=some ([⟨3,1,2,4,7,0,77,0,0,0,0⟩],0):=by decide+kernel
theorem sn5:m_muster_New 2=some (⟨2,SB0,SB0⟩,0):=by decide+kernel
theorem sn6:m_muster_Lend ⟨2,SB0,SB0⟩ 8 0 100 200=some (SL,0):=by decide+kernel
theorem sn7:m_muster_Has SL 8 150=some (false,0):=by decide+kernel
theorem sn8:m_muster_Has SL 8 200=some (true,0):=by decide+kernel
theorem sn9:m_muster_Lend SL 8 1 150 250=some (⟨0,SB0,SB0⟩,93):=by decide+kernel
theorem sna:m_slices_Sort_int_int [150,200]=some [150,200]:=by
 have:sortI [150,200]= [150,200]:=List.mergeSort_of_pairwise (by simp)
 unfold m_slices_Sort_int_int
 rw [this];rfl
theorem snb:m_muster_open SL=some (some ⟨SL⟩,0):=by decide+kernel
theorem snc:loopF (m_muster_Free_L1 8 150 ⟨SL⟩) (0, [150])=some (1, [150,200]):=by decide+kernel
theorem snd:(Option.bind (loopF (m_muster_Free_L2 8 150 250 ⟨SL⟩ [150,200]) 0) fun e=>match e with| .inl _=>some ((0:Int),(3:Int))| .inr r=>some r)=some (200,0):=by decide+kernel
theorem sne:m_muster_isThing 8=some true:=by decide+kernel
theorem snf:m_muster_isMoment 150=some true:=by decide+kernel
theorem sng:m_muster_isMoment 250=some true:=by decide+kernel
theorem snh:m_muster_Free SL 8 150 250=some (200,0):=by
 unfold m_muster_Free
 rw [snb]
 have h2:((SL.Me !=SL.Me)=true)=False:=by simp
 simp only [Option.bind_some,optM,sne,snf,sng,snc,sna,show((0:Int) !=0)=false from rfl,Bool.false_eq_true,if_false,Bool.not_true,m_muster_depotOf,show((8:Int).tmod 6 !=SL.Me)=false from rfl,show decide ((150:Int)>250)=false from rfl]
 exact snd
theorem sni:m_muster_Print SB1=some (⟨#[114,111,117,110,100,32,49,10,98,105,100,32,52,32,55,32,55,55,32,48,32,49,52,32,48,10]⟩,0):=by decide+kernel
theorem snj:m_R09_SameCalls [⟨3,1,2,4,7,0,77,0,0,0,0⟩] [⟨3,1,2,4,7,0,77,0,0,0,0⟩]=some true:=by decide+kernel
theorem pl_sane:m_L09_sane=some true:=by
 unfold m_L09_sane
 rw [sn1,Option.bind_some]
 dsimp only
 rw [sn2,Option.bind_some]
 dsimp only
 rw [sn3,Option.bind_some]
 dsimp only
 rw [sn4,Option.bind_some]
 dsimp only
 rw [if_neg (by decide),if_neg (by decide),if_neg (by decide),if_neg (by decide),if_neg (by decide),if_neg (by decide)]
 rw [show idx SB1.Bids 0=some ⟨4,7,77,0,14,false⟩ from rfl,Option.bind_some,if_pos (by decide)]
 rw [show idx SB2.Bids 0=some ⟨4,7,77,0,46,true⟩ from rfl,Option.bind_some]
 rw [snj,Option.bind_some,sn5,Option.bind_some]
 dsimp only
 rw [sn6,Option.bind_some]
 dsimp only
 rw [sn7,Option.bind_some]
 dsimp only
 rw [sn8,Option.bind_some]
 dsimp only
 rw [sn9,Option.bind_some]
 dsimp only
 rw [snh,Option.bind_some]
 dsimp only
 rw [sni,Option.bind_some]
 dsimp only
 rw [if_pos (by decide),if_pos (by decide),if_pos (by decide),if_pos (by decide),if_pos (by decide),if_pos (by decide),if_pos (by decide),if_pos (by decide),if_pos (by decide),if_pos (by decide),if_pos (by decide),if_pos (by decide)]
 rw [beq_self_eq_true]
end Go.Proofs.YtcedmbakcchkiaaGreatDoor
namespace Go.Proofs.YtcedmbakcchkiaaGreatDoor
open Go Go.Sx
open Classical
theorem pl_MusterCalls (x:TStation) (to_:Int) (_:TStation.G x) (_:InK .i64 to_):m_L09_MusterCalls x to_=some true:=by
 have s1:=Same_self (writeS x).1 (writeS_short x).1 (writeS_short x).2
 have s2:=Same_self (failS x).1 (failS_short x).1 (failS_short x).2
 have s3:=SameCalls_self (callsS x to_).1 (by have:=callsS_len x to_;omega)
 unfold m_L09_MusterCalls
 rw [Write_eq,rWrite_eq,Fail_eq,rFail_eq,Calls_eq,rCalls_eq]
 simp only [Option.bind_some,s1,s2,s3,beq_self_eq_true,if_true,pl_sane]
end Go.Proofs.YtcedmbakcchkiaaGreatDoor
