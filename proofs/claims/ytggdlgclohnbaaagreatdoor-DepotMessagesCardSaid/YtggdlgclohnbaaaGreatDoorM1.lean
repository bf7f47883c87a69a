/- What may be read at the types of the statement's parameters; plain facts. -/
import Derived.Test.YtggdlgclohnbaaaGreatDoorL2
set_option linter.unusedVariables false
set_option linter.unusedSimpArgs false
namespace Go.Proofs.YtggdlgclohnbaaaGreatDoor
open Go Go.RowKit Go.Sx
theorem c8k:D4 Tryz.prog 46 (fun(x:(Int×Int×Int×Int×Int))=> [DI x.1,DI x.2.1,DI x.2.2.1,DI x.2.2.2.1,DI x.2.2.2.2]) (fun x:(Int×Int×Int×Int×Int)=>(InK .i64 x.1∧InK .i64 x.2.1∧InK .i64 x.2.2.1∧InK .i64 x.2.2.2.1∧InK .i64 x.2.2.2.2)):=
 (D4.arr Tryz.underlying46 (a2N.cons (s:=1) (D4.int Tryz.underlying3) (a2N.cons (s:=1) (D4.int Tryz.underlying3) (a2N.cons (s:=1) (D4.int Tryz.underlying3) (a2N.cons (s:=1) (D4.int Tryz.underlying3) (a2N.last (s:=1) (D4.int Tryz.underlying3) rfl (by kernel_rfl) rfl) rfl (by kernel_rfl)) rfl (by kernel_rfl)) rfl (by kernel_rfl)) rfl (by kernel_rfl)) (by kernel_rfl)).iso (fun x=>x) (fun _=>rfl) (fun _ h=>h)
theorem c5V:D4 Tryz.prog 25 (fun l:(List Int)=> [.lst 1 l.length (l.flatMap cI)]) (fun l=>(l.length*8≤reachBytes∧l.length≤maxLen∧∀y:Int,y∈l→InK .i64 y)):=
 D4.slice Tryz.underlying25 (D4.int Tryz.underlying3) (by kernel_rfl) (by kernel_rfl) (fun _=>rfl) (fun _=>rfl) (by decide)
def Z8.G (x:Z8):Prop:=InK .i64 x.Kind∧InK .i64 x.Depot∧InK .i64 x.To∧(InK .i64 x.Record.1∧InK .i64 x.Record.2.1∧InK .i64 x.Record.2.2.1∧InK .i64 x.Record.2.2.2.1∧InK .i64 x.Record.2.2.2.2)∧(x.Picks.length*8≤reachBytes∧x.Picks.length≤maxLen∧∀y:Int,y∈x.Picks→InK .i64 y)
theorem c6o:D4 Tryz.prog 168 Z8.c Z8.G:=
 (D4.struct Tryz.underlying168 (a0g.cons (s:=1) (D4.int Tryz.underlying3) (a0g.cons (s:=1) (D4.int Tryz.underlying3) (a0g.cons (s:=1) (D4.int Tryz.underlying3) (a0g.cons (s:=5) c8k (a0g.last (s:=1) c5V rfl (by kernel_rfl) rfl) rfl (by kernel_rfl)) rfl (by kernel_rfl)) rfl (by kernel_rfl)) rfl (by kernel_rfl)) (by kernel_rfl)).iso (fun x=>(⟨x.1,x.2.1,x.2.2.1,x.2.2.2.1,x.2.2.2.2⟩:Z8)) (fun _=>rfl) (fun _ h=>h)
theorem c7j:D4 Tryz.prog 84 (fun l:(List Z8)=> [.lst 9 l.length (l.flatMap Z8.c)]) (fun l=>(l.length*88≤reachBytes∧l.length≤maxLen∧∀y:Z8,y∈l→Z8.G y)):=
 D4.slice Tryz.underlying84 c6o (by kernel_rfl) (by kernel_rfl) (fun _=>rfl) (fun _=>rfl) (by decide)
end Go.Proofs.YtggdlgclohnbaaaGreatDoor
namespace Go.Proofs.YtggdlgclohnbaaaGreatDoor
open Go Go.Sx
theorem a6B {z:Int} (h: -9223372036854775808≤z∧z≤9223372036854775807):W z=z:=b5x h
theorem W_s {k:Nat} (h:k<9223372036854775807):W ((k:Int)+1)=((k+1:Nat):Int):=a4z h
def S5 {α σ R:Type} (f:σ→α→Sum σ R):List α→σ→Sum σ R
 | [],s=> .inl s
 |x::l,s=>match f s x with| .inl s'=>S5 f l s'| .inr r=> .inr r
theorem a1n {α σ S E R:Type} {body:S→Option (Sum S E)} (l:List α) (hl:l.length≤9223372036854775807) (enc:Nat→σ→S) (f:σ→α→Sum σ R) (out:R→E) (fin:σ→E) (P:List α→σ→Prop)
 (h:∀pre x post s,l=pre++x::post→P pre s→body (enc pre.length s)=some (match f s x with| .inl s'=> .inl (enc (pre.length+1) s')| .inr r=> .inr (out r))∧∀s',f s x= .inl s'→P (pre++ [x]) s')
 (he:∀s,P l s→body (enc l.length s)=some (.inr (fin s))) (s0:σ) (h0:P [] s0):
 q8 body (enc 0 s0)=some (match S5 f l s0 with| .inl s=>fin s| .inr r=>out r):=by
 have key:∀(post pre:List α) (s:σ) (n:Nat),l=pre++post→P pre s→post.length<n→Q6 body n (enc pre.length s)=some (match S5 f post s with| .inl s=>fin s| .inr r=>out r):=by
  intro post
  induction post with
  |nil=>
   intro pre s n hp hs hn;cases n with
   |zero=>omega
   |succ n=>
    simp only [List.append_nil]at hp;subst hp;simp only [Q6,he s hs,S5]
  |cons x post ih=>
   intro pre s n hp hs hn;cases n with
   |zero=>omega
   |succ n=>
    obtain⟨h1,h2⟩:=h pre x post s hp hs;simp only [Q6,h1,S5];cases hf:f s x with
    |inl s'=>
     have:=ih (pre++ [x]) s' n (by simp [hp]) (h2 s' hf) (by simp at hn;omega);simpa using this
    |inr r=>rfl
 exact key l [] s0 a2h rfl h0 (by unfold a2h;omega)
theorem a4v {α:Type} {pre post:List α} {x:α}:idx (pre++x::post) (pre.length:Int)=some x:=by
 unfold idx;simp
theorem a9j {α:Type} {pre post:List α} {x:α}:((pre.length:Int)<((pre++x::post).length:Int)):=by simp;omega
theorem b1r {α β S E:Type} {body:S→Option (List β×Sum S E)} (l:List α) (hl:l.length≤9223372036854775807) (enc:Nat→S) (em:α→List β) (fin:E)
 (h:∀pre x post,l=pre++x::post→body (enc pre.length)=some (em x, .inl (enc (pre.length+1))))
 (he:body (enc l.length)=some ([], .inr fin)):b1n body (enc 0)=some (l.flatMap em,fin):=by
 have key:∀(post pre:List α) (n:Nat),l=pre++post→post.length<n→a3t body n (enc pre.length)=some (post.flatMap em,fin):=by
  intro post
  induction post with
  |nil=>
   intro pre n hp hn;cases n with
   |zero=>omega
   |succ n=>
    simp only [List.append_nil]at hp;subst hp;simp only [a3t,he,List.flatMap_nil]
  |cons x post ih=>
   intro pre n hp hn;cases n with
   |zero=>omega
   |succ n=>
    have:=ih (pre++ [x]) n (by simp [hp]) (by simp at hn;omega);simp only [List.length_append,List.length_cons,List.length_nil,Nat.zero_add]at this;simp only [a3t,h pre x post hp,this,List.flatMap_cons]
 exact key l [] a2h rfl (by unfold a2h;omega)
def b2J {R:Type} (q:Nat→Option R):Nat→Nat→Sum Nat R
 |k,0=> .inl k
 |k,m+1=>match q k with|none=>b2J q (k+1) m|some r=> .inr r
theorem a3M {R:Type} {body:Int→Option (Sum Int (Sum Int R))} (n:Nat) (hn:n≤9223372036854775807) (q:Nat→Option R) (k:Nat) (hk:k≤n)
 (h:∀i,k≤i→i<n→body (i:Int)=some (match q i with|none=> .inl ((i+1:Nat):Int)|some r=> .inr (.inr r)))
 (he:body (n:Int)=some (.inr (.inl (n:Int)))):
 q8 body (k:Int)=some (match b2J q k (n-k)with| .inl j=> .inl (j:Int)| .inr r=> .inr r):=by
 have key:∀(m k N:Nat),k+m=n→m<N→(∀i,k≤i→i<n→body (i:Int)=some (match q i with|none=> .inl ((i+1:Nat):Int)|some r=> .inr (.inr r)))→
  Q6 body N (k:Int)=some (match b2J q k m with| .inl j=> .inl (j:Int)| .inr r=> .inr r):=by
  intro m
  induction m with
  |zero=>
   intro k N hkm hN _;cases N with
   |zero=>omega
   |succ N=>
    have:k=n:=by omega
    subst this;simp only [Q6,he,b2J]
  |succ m ih=>
   intro k N hkm hN hb;cases N with
   |zero=>omega
   |succ N=>
    simp only [Q6,hb k (Nat.le_refl _) (by omega),b2J];cases hq:q k with
    |none=>exact ih (k+1) N (by omega) (by omega) (fun i h1 h2=>hb i (by omega) h2)
    |some r=>rfl
 exact key (n-k) k a2h (by omega) (by unfold a2h;omega) h
theorem a2o {R:Type} {q:Nat→Option R}:∀(m k:Nat),(∀i,k≤i→i<k+m→q i=none)→b2J q k m= .inl (k+m)
 |0,k,_=>rfl
 |m+1,k,h=>by
  simp only [b2J,h k (Nat.le_refl _) (by omega)];rw [a2o m (k+1) (fun i h1 h2=>h i (by omega) (by omega))];congr 1;omega
theorem a3V {R:Type} {q:Nat→Option R}:∀(m k i:Nat),k≤i→i<k+m→q i≠none→∃j r,k≤j∧j<k+m∧q j=some r∧b2J q k m= .inr r
 |0,k,i,h1,h2,_=>by omega
 |m+1,k,i,h1,h2,h3=>by
  cases hq:q k with
  |some r=>exact⟨k,r,Nat.le_refl _,by omega,hq,by simp only [b2J,hq]⟩
  |none=>
   have:k≠i:=fun e=>h3 (e▸hq)
   obtain⟨j,r,a,b,c,d⟩:=a3V m (k+1) i (by omega) (by omega) h3;exact⟨j,r,by omega,by omega,c,by simp only [b2J,hq,d]⟩
theorem c4s {body:Int→Option (Sum Int (Sum Int Bool))} (n:Nat) (hn:n≤9223372036854775807) (q:Nat→Prop) [DecidablePred q] (k:Nat) (hk:k≤n)
 (h:∀i,k≤i→i<n→body (i:Int)=some (if q i then .inl ((i+1:Nat):Int)else .inr (.inr false)))
 (he:body (n:Int)=some (.inr (.inl (n:Int)))) (ans:Bool) (hb:ans=true↔∀i,k≤i→i<n→q i):
 (q8 body (k:Int)).bind (fun e=>match e with| .inl _=>some true| .inr r=>some r)=some ans:=by
 rw [a3M n hn (fun i=>if q i then none else some false) k hk (fun i h1 h2=>by rw [h i h1 h2];by_cases hq:q i<;>simp [hq]) he]
 by_cases hall:∀i,k≤i→i<n→q i
 · rw [a2o _ _ (fun i h1 h2=>by simp [hall i h1 (by omega)])];simp only [Option.bind_some,hb.2 hall]
 · have:∃i,k≤i∧i<n∧¬q i:=by
    refine Classical.byContradiction fun hn2=>hall fun i h1 h2=>Classical.byContradiction fun h3=>hn2 ⟨i,h1,h2,h3⟩
   obtain⟨i,h1,h2,h3⟩:=this;obtain⟨j,r,a,b,c,d⟩:=a3V (q:=fun i=>if q i then none else some false) (n-k) k i h1 (by omega) (by simp [h3])
   have hr:r=false:=by
    by_cases hqj:q j
    · simp [hqj]at c
    · simpa [hqj]using c.symm
   rw [d,hr];have:ans=false:=by cases ans with|true=>exact absurd (hb.1 rfl) hall|false=>rfl
   simp only [Option.bind_some,this]
theorem b4j {body:Int→Option (Sum Int (Sum Int Bool))} (n:Nat) (hn:n≤9223372036854775807) (q:Nat→Prop) (k:Nat) (hk:k≤n)
 (h:∀i,k≤i→i<n→(q i∧body (i:Int)=some (.inl ((i+1:Nat):Int)))∨(¬q i∧body (i:Int)=some (.inr (.inr false))))
 (he:body (n:Int)=some (.inr (.inl (n:Int)))) (ans:Bool) (hb:ans=true↔∀i,k≤i→i<n→q i):
 (q8 body (k:Int)).bind (fun e=>match e with| .inl _=>some true| .inr r=>some r)=some ans:=by
 letI:DecidablePred q:=fun _=>Classical.propDecidable _
 exact c4s n hn q k hk (fun i h1 h2=>by rcases h i h1 h2 with⟨a,b⟩|⟨a,b⟩<;>simp only [b,a,if_true,if_false]) he ans hb
theorem a7z {α:Type} (l:List α) (hl:l.length≤9223372036854775807) (P:α→Option Bool) (p:α→Bool) (hP:∀x,x∈l→P x=some (p x)):
 (Option.bind (Option.bind (q8 (fun(v:Int)=>if(decide (v<(l.length:Int)))=true then Option.bind (idx l v) fun e=>Option.bind (P e) fun x=>if x=true then some (.inr (.inr v))else some (.inl (W (v+1)))else some (.inr (.inl v))) 0)
  fun(e:Sum Int Int)=>match e with| .inl _=>some (-1)| .inr r=>some r) fun x=>some (decide (x≥0)))=some (l.any p):=by
 have hs:=a3M (body:=fun(v:Int)=>if(decide (v<(l.length:Int)))=true then Option.bind (idx l v) fun e=>Option.bind (P e) fun x=>if x=true then some (.inr (.inr v))else some (.inl (W (v+1)))else some (.inr (.inl v)))
  l.length hl (fun i=>match l[i]? with|some x=>if p x then some (i:Int)else none|none=>none) 0 (Nat.zero_le _) (fun i _ h2=>by
   have hx:idx l (i:Int)=some l[i]:=by simp [idx,h2]
   have hlt:((i:Int)<(l.length:Int)):=by omega
   simp only [hlt,decide_true,if_true,hx,Option.bind_some,hP _ (List.getElem_mem h2),List.getElem?_eq_getElem h2];by_cases hp:p l[i]=true
   · simp [hp]
   · simp [hp];exact W_s (by omega)) (by simp)
 rw [show((0:Int))=((0:Nat):Int) from rfl,hs];by_cases hany:l.any p=true
 · rw [hany];obtain⟨x,hx,hpx⟩:=List.any_eq_true.1 hany;obtain⟨i,hi,rfl⟩:=List.getElem_of_mem hx;obtain⟨j,r,a,b,c,d⟩:=a3V (q:=fun i=>match l[i]? with|some x=>if p x then some (i:Int)else none|none=>none) (l.length-0) 0 i (Nat.zero_le _) (by omega) (by simp [List.getElem?_eq_getElem hi,hpx])
   rw [d];have hj:j<l.length:=by omega
   simp only [List.getElem?_eq_getElem hj]at c;split at c
   · simp only [Option.some.injEq]at c;subst c;simp
   · cases c
 · rw [a2o _ _ (fun i _ h2=>by
    have hi:i<l.length:=by omega
    simp only [List.getElem?_eq_getElem hi];rw [if_neg];intro hp;exact hany (List.any_eq_true.2 ⟨l[i],List.getElem_mem hi,hp⟩))]
   simp [Bool.not_eq_true _▸hany]
theorem q9 {α:Type} {p:Prop} [Decidable p] {k:Option α} (h:p):gd p k=k:=if_pos h
end Go.Proofs.YtggdlgclohnbaaaGreatDoor
namespace Go.Proofs.YtggdlgclohnbaaaGreatDoor
open Go Go.Sx
def c0N (u:Nat):List UInt8:=if u<10 then []else Lib.decDigits (u / 10)
theorem b4D (u:Nat):Lib.decDigits u=c0N u++ [UInt8.ofNat (48+u % 10)]:=by
 unfold c0N;rw [Lib.decDigits];by_cases h:u<10
 · simp [h,Nat.mod_eq_of_lt h]
 · simp [h]
theorem a2m (n lo hi:Int):z7 n lo hi=some (decide (lo≤n∧n≤hi)):=by
 unfold z7;by_cases h:lo≤n<;>simp [h]
theorem c6d (n lo hi:Int):a1M n lo hi=some (decide (lo≤n∧n≤hi)):=by
 unfold a1M;by_cases h:lo≤n<;>simp [h]
def a2L (x:o5):Prop:=(0≤x.Depot∧x.Depot≤5)∧0≤x.No∧x.No≤9999
instance (x : o5) : Decidable (a2L x) := inferInstanceAs (Decidable (_ ∧ _))
theorem c0S (x:o5):U7 x=some (decide (a2L x)):=by
 unfold U7 C4;simp only [a2m,Option.bind_some];unfold a2L;by_cases h:0≤x.Depot∧x.Depot≤5
 · simp only [h,decide_true,if_true,true_and,and_self]
 · simp only [h,decide_false,Bool.false_eq_true,if_false,false_and]
theorem c1r (x:o5):a0E x=some (decide (a2L x)):=by
 unfold a0E;simp only [c6d,Option.bind_some];unfold a2L;by_cases h:0≤x.Depot∧x.Depot≤5
 · simp only [h,decide_true,if_true,true_and,and_self]
 · simp only [h,decide_false,Bool.false_eq_true,if_false,false_and]
def a2O (s:ByteArray):Prop:=s.size≤160∧∀c∈s.data.toList,32≤c.toNat∧c.toNat≤126
instance (s : ByteArray) : Decidable (a2O s) := inferInstanceAs (Decidable (_ ∧ _))
theorem S0 (s:ByteArray):s.size=s.data.toList.length:=by rw [Array.length_toList];rfl
theorem c0I (s:ByteArray) (hs:s.size≤9223372036854775807):a0P s=some (decide (a2O s)):=by
 unfold a0P;rw [q9 hs];simp only [Option.bind_some];have hlen:(E8 s).length=s.size:=by unfold E8;rw [List.length_map,←S0]
 have key:=a3M (body:=N3 (E8 s)) (E8 s).length (by omega) (fun i=>match s.data.toList[i]? with|some c=>if 32≤c.toNat∧c.toNat≤126 then none else some false|none=>none) 0 (Nat.zero_le _) (fun i _ hi=>by
  unfold N3;have hi':i<s.data.toList.length:=by rw [←S0];omega
  rw [if_pos (by simpa using hi),V3 hi,Option.bind_some,List.getElem?_eq_getElem hi']
  have e:(E8 s)[i]=((s.data.toList[i]).toNat:Int):=by simp [E8]
  rw [e,W_s (by omega)];simp only;by_cases h1:(s.data.toList[i]).toNat<32
  · rw [if_pos (by simp only [decide_eq_true_eq];omega),if_neg (by omega)]
  · by_cases h2:(s.data.toList[i]).toNat>126
    · rw [if_neg (by simp only [decide_eq_true_eq];omega),if_pos (by simp only [decide_eq_true_eq];omega),if_neg (by omega)]
    · rw [if_neg (by simp only [decide_eq_true_eq];omega),if_neg (by simp only [decide_eq_true_eq];omega),if_pos (by omega)]) (by unfold N3;rw [if_neg (by simp)])
 rw [show((0:Int))=((0:Nat):Int) from rfl,key];by_cases hall:∀c∈s.data.toList,32≤c.toNat∧c.toNat≤126
 · rw [a2o _ _ fun i _ hi=>by
    have hi':i<s.data.toList.length:=by rw [←S0];omega
    rw [List.getElem?_eq_getElem hi'];exact if_pos (hall _ (List.getElem_mem hi'))]
   simp only [Option.bind_some];congr 1;rw [decide_eq_decide];exact⟨fun h=>⟨by omega,hall⟩,fun h=>by have:=h.1;omega⟩
 · obtain⟨c,hc,hbad⟩:∃c∈s.data.toList,¬(32≤c.toNat∧c.toNat≤126):=by
    refine Classical.byContradiction fun h=>hall fun c hc=>Classical.byContradiction fun h2=>h ⟨c,hc,h2⟩
   obtain⟨i,hi,rfl⟩:=List.getElem_of_mem hc
   obtain⟨j,r,_,hj,hq,e⟩:=a3V (q:=fun i=>match s.data.toList[i]? with|some c=>if 32≤c.toNat∧c.toNat≤126 then none else some false|none=>none) ((E8 s).length-0) 0 i (Nat.zero_le _) (by rw [hlen,S0];omega) (by
    rw [List.getElem?_eq_getElem hi];simp only;rw [if_neg hbad];simp)
   have hr:r=false:=by
    split at hq
    · split at hq<;>simp at hq;exact hq
    · cases hq
   rw [e,hr];have:¬a2O s:=fun h=>hall h.2
   simp [this]
theorem b7T (s:ByteArray) (hs:s.size≤9223372036854775807):a2b s=some (decide (a2O s)):=by
 unfold a2b;by_cases h160:s.size≤160
 · rw [if_neg (by simp only [decide_eq_true_eq];omega)]
   have key:=b4j (body:=Q8 s) s.size (by omega) (fun i=>∀c,s.data.toList[i]?=some c→32≤c.toNat∧c.toNat≤126) 0 (Nat.zero_le _) (fun i _ hi=>by
    unfold Q8;have hi':i<s.data.toList.length:=by rw [←S0];omega
    rw [if_pos (by simpa using hi),V3 hi',Option.bind_some,Option.bind_some,W_s (by omega)]
    have hq:(∀c,s.data.toList[i]?=some c→32≤c.toNat∧c.toNat≤126)↔32≤(s.data.toList[i]).toNat∧(s.data.toList[i]).toNat≤126:=by
     rw [List.getElem?_eq_getElem hi'];simp
    rw [hq];by_cases h1:(s.data.toList[i]).toNat<32
    · right;rw [if_pos (by simp only [decide_eq_true_eq];omega)];exact⟨by omega,rfl⟩
    · by_cases h2:(s.data.toList[i]).toNat>126
      · right;rw [if_neg (by simp only [decide_eq_true_eq];omega),if_pos (by simp only [decide_eq_true_eq];omega)];exact⟨by omega,rfl⟩
      · left;rw [if_neg (by simp only [decide_eq_true_eq];omega),if_neg (by simp only [decide_eq_true_eq];omega)];exact⟨by omega,rfl⟩) (by unfold Q8;rw [if_neg (by simp)]) (decide (a2O s)) (by
    rw [decide_eq_true_iff];constructor
    · rintro⟨_,h⟩ i _ _ c hc;exact h c (List.mem_of_getElem? hc)
    · intro h;refine⟨h160,fun c hc=> ?_⟩;obtain⟨i,hi,rfl⟩:=List.getElem_of_mem hc;exact h i (Nat.zero_le _) (by rw [S0];exact hi) _ (List.getElem?_eq_getElem hi))
   exact key
 · rw [if_pos (by simp only [decide_eq_true_eq];omega)];have:¬a2O s:=fun h=>h160 h.1
   simp [this]
def s9 (r:b9):Prop:=a2L r.At∧(0≤r.Kind∧r.Kind≤60)∧(0≤r.Day∧r.Day≤100000)∧(0≤r.Known∧r.Known≤100000)∧a2O r.Text∧
 (if r.Kind=0 then r.Day=0∧r.Text=⟨#[]⟩∧a2L r.Of∧r.Of.Depot=r.At.Depot∧r.Of.No<r.At.No else r.Of=⟨0,0⟩)
instance (r : b9) : Decidable (s9 r) := by unfold s9; infer_instance
theorem a4m (a b:ByteArray):(a.toList==b.toList)=decide (a=b):=by
 rw [Bool.eq_iff_iff,beq_iff_eq,decide_eq_true_iff];constructor
 · intro h;have h2:a.data.toList=b.data.toList:=by rw [ByteArray.toList_eq,ByteArray.toList_eq]at h;exact h
   exact ByteArray.ext (Array.ext' h2)
 · intro h;rw [h]
theorem N8 (r:b9) (hs:r.Text.size≤9223372036854775807):o7 r=some (decide (s9 r)):=by
 unfold o7 Z4;simp only [a2m,c0S,c0I _ hs,Option.bind_some,a4m];unfold s9;by_cases h1:a2L r.At
 · by_cases h2:0≤r.Kind∧r.Kind≤60
   · by_cases h3:0≤r.Day∧r.Day≤100000
     · by_cases h4:0≤r.Known∧r.Known≤100000
       · by_cases h5:a2O r.Text
         · simp only [h1,h2,h3,h4,h5,decide_true,Bool.not_true,Bool.false_eq_true,if_false,true_and,and_self];by_cases hk:r.Kind=0
           · simp only [hk,beq_self_eq_true,if_true];by_cases h6:r.Day=0
             · by_cases h7:r.Text=⟨#[]⟩
               · by_cases h8:a2L r.Of
                 · by_cases h9:r.Of.Depot=r.At.Depot<;>simp [h6,h7,h8,h9]
                 · simp [h6,h7,h8]
               · simp [h6,h7]
             · simp [h6]
           · have:(r.Kind==0)=false:=by simpa using hk
             simp only [this,hk,Bool.false_eq_true,if_false];congr 1;rw [Bool.eq_iff_iff];simp only [Bool.and_eq_true,beq_iff_eq,decide_eq_true_eq];constructor
             · rintro⟨a,b⟩;cases hof:r.Of;simp_all
             · intro h;rw [h];simp
         · simp [h1,h2,h3,h4,h5]
       · simp only [h1,h2,h3,h4,decide_true,decide_false,Bool.not_true,Bool.not_false,Bool.false_eq_true,if_false,if_true,true_and,false_and,and_false,and_self]
     · simp only [h1,h2,h3,decide_true,decide_false,Bool.not_true,Bool.not_false,Bool.false_eq_true,if_false,if_true,true_and,false_and,and_false,and_self]
   · simp only [h1,h2,decide_true,decide_false,Bool.not_true,Bool.not_false,Bool.false_eq_true,if_false,if_true,true_and,false_and,and_false,and_self]
 · simp [h1]
theorem a5S (r:b9) (hs:r.Text.size≤9223372036854775807):N0 r=some (if s9 r then 0 else 80):=by
 unfold N0;simp only [c6d,c1r,b7T _ hs,Option.bind_some,a4m];unfold s9;by_cases h1:a2L r.At
 · by_cases h2:0≤r.Kind∧r.Kind≤60
   · by_cases h3:0≤r.Day∧r.Day≤100000
     · by_cases h4:0≤r.Known∧r.Known≤100000
       · by_cases h5:a2O r.Text
         · simp only [h1,h2,h3,h4,h5,decide_true,Bool.not_true,Bool.false_eq_true,if_false,true_and,and_self];by_cases hk:r.Kind=0
           · simp only [hk,beq_self_eq_true,if_true];by_cases h6:r.Day=0
             · by_cases h7:r.Text=⟨#[]⟩
               · by_cases h8:a2L r.Of
                 · by_cases h9:r.Of.Depot=r.At.Depot
                   · by_cases h10:r.Of.No<r.At.No
                     · have:¬(r.Of.No≥r.At.No):=by omega
                       simp [h6,h7,h8,h9,h10,this]
                     · have:r.Of.No≥r.At.No:=by omega
                       simp [h6,h7,h8,h9,h10,this]
                   · simp [h6,h7,h8,h9]
                 · simp [h6,h7,h8]
               · simp [h6,h7]
             · simp [h6]
           · have:(r.Kind==0)=false:=by simpa using hk
             simp only [this,hk,Bool.false_eq_true,if_false];by_cases ho:r.Of=⟨0,0⟩
             · simp [ho]
             · have:((r.Of.Depot==0)&&(r.Of.No==0))=false:=by
                cases hb:((r.Of.Depot==0)&&(r.Of.No==0))with
                |false=>rfl
                |true=>
                 simp only [Bool.and_eq_true,beq_iff_eq]at hb;exact absurd (by cases hof:r.Of;rw [hof]at hb;simp_all) ho
               simp [this,ho]
         · simp [h1,h2,h3,h4,h5]
       · simp only [h1,h2,h3,h4,decide_true,decide_false,Bool.not_true,Bool.not_false,Bool.false_eq_true,if_false,if_true,true_and,false_and,and_false,and_self]
     · simp only [h1,h2,h3,decide_true,decide_false,Bool.not_true,Bool.not_false,Bool.false_eq_true,if_false,if_true,true_and,false_and,and_false,and_self]
   · simp only [h1,h2,decide_true,decide_false,Bool.not_true,Bool.not_false,Bool.false_eq_true,if_false,if_true,true_and,false_and,and_false,and_self]
 · simp [h1]
def C8 (c:e8):Prop:=(0≤c.No∧c.No≤59)∧(1≤c.Parts∧c.Parts≤10)∧(0≤c.Part∧c.Part≤c.Parts-1)∧(1≤c.Size∧c.Size≤24)∧(c.Text.size:Int)=c.Size
instance (c : e8) : Decidable (C8 c) := by unfold C8; infer_instance
theorem b7H (c:e8):Z5 c=some (decide (C8 c)):=by
 unfold Z5;simp only [a2m,Option.bind_some];unfold C8;by_cases h1:0≤c.No∧c.No≤59
 · by_cases h2:1≤c.Parts∧c.Parts≤10
   · rw [a6B (z:=c.Parts-1) (by omega)];by_cases h3:0≤c.Part∧c.Part≤c.Parts-1
     · by_cases h4:1≤c.Size∧c.Size≤24
       · simp only [h1,h2,h3,h4,decide_true,if_true,true_and,and_self];congr 1
       · simp only [h1,h2,h3,h4,decide_true,decide_false,if_true,Bool.false_eq_true,if_false,true_and,and_self,false_and]
     · simp only [h1,h2,h3,decide_true,decide_false,if_true,Bool.false_eq_true,if_false,true_and,and_self,false_and]
   · simp only [h1,h2,decide_true,decide_false,if_true,Bool.false_eq_true,if_false,true_and,and_self,false_and]
 · simp only [h1,decide_false,Bool.false_eq_true,if_false,false_and]
end Go.Proofs.YtggdlgclohnbaaaGreatDoor
namespace Go.Proofs.YtggdlgclohnbaaaGreatDoor
open Go Go.Sx
theorem a0e (n:Int) (h0:0≤n) (h1:n≤1000000):(P8 n).size≤21:=by
 have:=Lib.itoa_length_le n (by omega) (by omega);unfold P8;rw [S0];simpa using this
theorem a8u {r:b9} (h:s9 r):∀n∈a0X r,0≤n∧n≤100000:=by
 obtain⟨⟨⟨a1,a2⟩,a3,a4⟩,⟨b1,b2⟩,⟨c1,c2⟩,⟨d1,d2⟩,_,hif⟩:=h
 have hof:(0≤r.Of.Depot∧r.Of.Depot≤5)∧0≤r.Of.No∧r.Of.No≤9999:=by
  split at hif
  · exact hif.2.2.1
  · rw [hif];simp
 intro n hn;simp only [a0X,List.mem_cons,List.not_mem_nil,or_false]at hn;rcases hn with rfl|rfl|rfl|rfl|rfl|rfl|rfl<;>omega
theorem P2 {r:b9} (h:s9 r):r.Text.size≤160:=h.2.2.2.2.1.1
theorem a6b {r:b9} (h:s9 r):G5 r=some (C5 r):=by
 unfold G5;exact q9 ⟨fun n hn=>by have:=a8u h n hn;omega,by have:=P2 h;omega⟩
theorem c0b (r:b9):C5 r=P8 r.At.Depot++⟨#[32]⟩++P8 r.At.No++⟨#[32]⟩++P8 r.Kind++⟨#[32]⟩++P8 r.Day++⟨#[32]⟩++P8 r.Known++⟨#[32]⟩++P8 r.Of.Depot++⟨#[32]⟩++P8 r.Of.No++⟨#[32]⟩++r.Text:=by
 apply ByteArray.ext;apply Array.ext';simp [C5,a0w,a0X,P8]
def DV (l:List UInt8):Nat:=l.foldl (fun a c=>10*a+(c.toNat-48)) 0
theorem c0g (l:List UInt8) (c:UInt8):DV (l++ [c])=10*DV l+(c.toNat-48):=by simp [DV]
def Dig (c:UInt8):Prop:=48≤c.toNat∧c.toNat≤57
theorem c3F {k:Nat} (h:k<10):(UInt8.ofNat (48+k)).toNat=48+k:=by simp;omega
theorem c0y (u:Nat):(∀c∈Lib.decDigits u,Dig c)∧DV (Lib.decDigits u)=u∧Lib.decDigits u≠ []:=by
 induction u using Nat.strongRecOn with
 |_ u ih=>
  rw [b4D];have h10:u % 10<10:=Nat.mod_lt _ (by omega);have hl:=c3F h10;unfold c0N;by_cases h:u<10
  · rw [if_pos h];refine⟨fun c hc=> ?_, ?_,by simp⟩
    · simp only [List.nil_append,List.mem_singleton]at hc;subst hc;unfold Dig;omega
    · rw [c0g,hl];simp [DV];omega
  · rw [if_neg h];obtain⟨i1,i2,_⟩:=ih (u / 10) (by omega);refine⟨fun c hc=> ?_, ?_,by simp⟩
    · rcases List.mem_append.1 hc with hc|hc
      · exact i1 c hc
      · simp only [List.mem_singleton]at hc;subst hc;unfold Dig;omega
    · rw [c0g,hl,i2];omega
theorem c4K {u k:Nat} (h:u<10^k) (hk:0<k):(Lib.decDigits u).length≤k:=by
 induction k generalizing u with
 |zero=>omega
 |succ k ih=>
  rw [b4D];unfold c0N;by_cases h9:u<10
  · rw [if_pos h9];simp
  · rw [if_neg h9]
    have hk0:0<k:=by
     cases k with
     |zero=>simp at h;omega
     |succ k=>omega
    have:=ih (u:=u / 10) (by rw [Nat.pow_succ]at h;exact Nat.div_lt_of_lt_mul (by omega)) hk0;simp;omega
end Go.Proofs.YtggdlgclohnbaaaGreatDoor
namespace Go.Proofs.YtggdlgclohnbaaaGreatDoor
open Go Go.Sx
theorem a2j {S E:Type} {body:S→Option (Sum S E)} (st:Nat→S) (n:Nat) (hn:n≤9223372036854775807) (fin:E) (h:∀k,k<n→body (st k)=some (.inl (st (k+1)))) (he:body (st n)=some (.inr fin)):q8 body (st 0)=some fin:=by
 have key:∀(m k N:Nat),k+m=n→m<N→Q6 body N (st k)=some fin:=by
  intro m
  induction m with
  |zero=>
   intro k N hk hN;cases N with
   |zero=>omega
   |succ N=>
    obtain rfl:k=n:=by omega
    simp only [Q6,he]
  |succ m ih=>
   intro k N hk hN;cases N with
   |zero=>omega
   |succ N=>
    simp only [Q6,h k (by omega)];exact ih (k+1) N (by omega) (by omega)
 exact key n 0 a2h (by omega) (by unfold a2h;omega)
theorem c0T (r:b9):(C5 r).data.toList=a0w (a0X r)++r.Text.data.toList:=by
 unfold C5;rw [ByteArray.data_append];simp
theorem a5Y {r:b9} (h:s9 r):(C5 r).size≤400:=by
 have hn:=a8u h;simp only [a0X,List.mem_cons,List.not_mem_nil,or_false,forall_eq_or_imp,forall_eq]at hn;obtain⟨n1,n2,n3,n4,n5,n6,n7⟩:=hn;have s1:=a0e r.At.Depot n1.1 (by omega);have s2:=a0e r.At.No n2.1 (by omega);have s3:=a0e r.Kind n3.1 (by omega);have s4:=a0e r.Day n4.1 (by omega);have s5:=a0e r.Known n5.1 (by omega);have s6:=a0e r.Of.Depot n6.1 (by omega);have s7:=a0e r.Of.No n7.1 (by omega);have hs:(⟨#[32]⟩:ByteArray).size=1:=rfl;have ht:=P2 h;rw [c0b];generalize P8 r.At.Depot=x1 at s1⊢;generalize P8 r.At.No=x2 at s2⊢;generalize P8 r.Kind=x3 at s3⊢;generalize P8 r.Day=x4 at s4⊢;generalize P8 r.Known=x5 at s5⊢;generalize P8 r.Of.Depot=x6 at s6⊢;generalize P8 r.Of.No=x7 at s7⊢;generalize r.Text=x8 at ht⊢;generalize (⟨#[32]⟩:ByteArray)=sp at hs⊢;simp only [ByteArray.size_append,hs];omega
def zR:b9:=⟨⟨0,0⟩,0,0,0,⟨0,0⟩,⟨#[]⟩⟩
end Go.Proofs.YtggdlgclohnbaaaGreatDoor
namespace Go.Proofs.YtggdlgclohnbaaaGreatDoor
open Go Go.Sx
theorem b7t:∀(d post:List UInt8),(∀c∈d,c≠32)→Lib.indexByte (d++32::post) 32=d.length
 | [],post,_=>by simp [Lib.indexByte]
 |c::d,post,h=>by
  have ih:=b7t d post fun x hx=>h x (List.mem_cons_of_mem _ hx)
  have hc:=h c List.mem_cons_self;simp only [List.cons_append,Lib.indexByte,ih];rw [if_neg (by simpa using hc),if_neg (by simp)]
  simp
theorem b1T:∀(l:List UInt8) (acc:Nat) (c:UInt8),Lib.parseUint10 acc (l++ [c])=match Lib.parseUint10 acc l with| .ok a=>Lib.parseUint10 a [c]|e=>e
 | [],acc,c=>rfl
 |x::l,acc,c=>by
  simp only [List.cons_append,Lib.parseUint10];split
  · split
    · rfl
    · split
      · rfl
      · exact b1T l _ c
  · rfl
theorem c1l (u:Nat) (hu:u<1000000000000000000):Lib.parseUint10 0 (Lib.decDigits u)= .ok u:=by
 induction u using Nat.strongRecOn with
 |_ u ih=>
  have h10:u % 10<10:=Nat.mod_lt _ (by omega);have hl:=c3F h10;rw [b4D,b1T]
  have hp:Lib.parseUint10 0 (c0N u)= .ok (u / 10):=by
   unfold c0N;by_cases h:u<10
   · rw [if_pos h,Nat.div_eq_of_lt h];rfl
   · rw [if_neg h];exact ih _ (by omega) (by omega)
  rw [hp];simp only [Lib.parseUint10,hl];rw [if_pos (by omega),if_neg (by omega),if_neg (by omega)];congr 1;omega
theorem c4u (u:Nat) (hu:u<1000000000000000000):Lib.atoiAll (Lib.decDigits u)= .ok (u:Int):=by
 obtain⟨d1,_,d3⟩:=c0y u;have hp:=c1l u hu;cases hd:Lib.decDigits u with
 |nil=>exact absurd hd d3
 |cons c r=>
  have hc:Dig c:=d1 c (by rw [hd];exact List.mem_cons_self);unfold Dig at hc;unfold Lib.atoiAll Lib.parseMag;rw [hd]at hp;simp only;rw [if_neg (show¬(c.toNat=43∨c.toNat=45) by omega),if_neg (by simp),hp];simp only;rw [if_neg (by omega),if_neg (by omega),if_neg (by omega)]
theorem c5j (s:ByteArray) (u:Nat) (hu:u<1000000000000000000) (post:List UInt8) (hs:s.data.toList=Lib.decDigits u++32::post):b3e s=some ((u:Int),⟨post.toArray⟩):=by
 obtain⟨d1,_,d3⟩:=c0y u;have hi:=b7t (Lib.decDigits u) post fun c hc e=>by have:=d1 c hc;subst e;unfold Dig at this;simp at this
 have hsz:=S0 s;have hlen:=congrArg List.length hs;simp only [List.length_append,List.length_cons]at hlen;unfold b3e a5D;rw [hs,hi,if_pos (by omega)]
 have e1:(s.extract 0 (Lib.decDigits u).length).data.toList=Lib.decDigits u:=by
  rw [ByteArray.data_extract];simp only [Array.toList_extract,List.extract_eq_take_drop,hs,List.drop_zero,Nat.sub_zero,List.take_left]
 have e2:s.extract ((Lib.decDigits u).length+1) s.size=⟨post.toArray⟩:=by
  apply ByteArray.ext;apply Array.ext';rw [ByteArray.data_extract];simp only [Array.toList_extract,List.extract_eq_take_drop,hs];rw [show(Lib.decDigits u).length+1=(Lib.decDigits u++ [32]).length by simp,show Lib.decDigits u++32::post=(Lib.decDigits u++ [32])++post by simp,List.drop_left,List.take_of_length_le (by simp;omega)]
 simp only [Int.toNat_natCast,e1,c4u u hu,e2]
theorem b9U {r:b9} (h:s9 r):∀k,k≤7→a5t k (C5 r)=some ((a0X r).take k,⟨(a0w ((a0X r).drop k)++r.Text.data.toList).toArray⟩)
 |0,_=>by
  simp only [a5t,List.take_zero,List.drop_zero];congr 2
 |k+1,hk=>by
  have hk':k<(a0X r).length:=hk;have hn:=a8u h _ (List.getElem_mem hk');obtain⟨u,hu⟩:=Int.eq_ofNat_of_zero_le hn.1;simp only [a5t,b9U h k (by omega)]
  have:=c5j ⟨(a0w ((a0X r).drop k)++r.Text.data.toList).toArray⟩ u (by omega) (a0w ((a0X r).drop (k+1))++r.Text.data.toList) (by
   rw [List.drop_eq_getElem_cons hk',hu];simp only [a0w,List.flatMap_cons,Lib.itoa_nonneg];simp)
  rw [this];simp only;rw [List.take_succ_eq_append_getElem hk',hu]
theorem b5G {r:b9} (h:s9 r):G8 (C5 r)=some (r,true):=by
 have hz:=a5Y h;unfold G8;rw [q9 (by omega),b9U h 7 (Nat.le_refl _)];have e1:(a0X r).take 7=a0X r:=rfl
 have e2:(⟨(a0w ((a0X r).drop 7)++r.Text.data.toList).toArray⟩:ByteArray)=r.Text:=by
  apply ByteArray.ext;apply Array.ext';simp [a0X,a0w]
 have e3:b0U (a0X r) r.Text=r:=rfl;simp only [e1,e2,e3];rw [N8 r (by have:=P2 h;omega),Option.bind_some,if_pos (by simpa using h),a6b h,Option.bind_some,a4m]
 simp
theorem c6s (s:ByteArray) (hs:s.size≤281474976710656) (h:∀r,s9 r→C5 r≠s):G8 s=some (zR,false):=by
 unfold G8;rw [q9 hs];cases hd:a5t 7 s with
 |none=>rfl
 |some p=>
  obtain⟨l,t⟩:=p;have ht:=(a5W hd).2;simp only;have hT:(b0U l t).Text.size≤9223372036854775807:=by show t.size≤_;omega
  rw [N8 _ hT,Option.bind_some];by_cases hok:s9 (b0U l t)
  · rw [if_pos (by simpa using hok),a6b hok,Option.bind_some,a4m]
    have:=h _ hok;rw [if_neg (by simpa using this)];rfl
  · rw [if_neg (by simpa using hok)];rfl
end Go.Proofs.YtggdlgclohnbaaaGreatDoor
namespace Go.Proofs.YtggdlgclohnbaaaGreatDoor
open Go Go.Sx
def A2 (n:Nat):Nat:=(n+23) / 24
def a3D (s:ByteArray) (i:Nat):ByteArray:=s.extract (24*i) (min s.size (24*(i+1)))
def a0z (s:ByteArray) (no:Int) (i:Nat):e8:=⟨no,(i:Int),((A2 s.size:Nat):Int),((a3D s i).size:Int),a3D s i⟩
def a0F (s:ByteArray) (no:Int):List e8:=(List.range (A2 s.size)).map (a0z s no)
theorem a4A (s:ByteArray) (no:Int):(a0F s no).length=A2 s.size:=by simp [a0F]
theorem a5Z {n:Nat} (h:n≤400):A2 n≤17:=by unfold A2;omega
theorem b7R (l:List UInt8):(l.map fun b=>(b.toNat:Int)).map (fun n=>UInt8.ofNat n.toNat)=l:=by
 rw [List.map_map]
 conv=>rhs;rw [←List.map_id l]
 apply List.map_congr_left;intro c _;simp
theorem c1T (s:ByteArray) (a b:Nat):a5f (sub (E8 s) a b)=s.extract a b:=by
 apply ByteArray.ext;apply Array.ext';unfold a5f E8 sub;rw [ByteArray.data_extract,←List.map_drop,←List.map_take];simp only [b7R,Array.toList_extract,List.extract_eq_take_drop]
theorem b5W (s:ByteArray) (a b:Nat) (h:b≤s.size):(sub (E8 s) a b).length=b-a:=by
 have:(E8 s).length=s.size:=by unfold E8;rw [List.length_map,←S0]
 unfold sub;simp;omega
theorem c0Z {n:Nat} {pre post:List Nat} {x:Nat} (h:List.range n=pre++x::post):x=pre.length∧pre.length<n:=by
 have h1:(List.range n)[pre.length]?=some x:=by rw [h];simp
 have h2:=List.getElem?_eq_some_iff.1 h1;obtain⟨g1,g2⟩:=h2;simp at g1 g2;exact⟨g2.symm,g1⟩
theorem c4x (s:ByteArray) (hz:s.size≤400):E4 (E8 s) 24=some ((List.range (A2 s.size)).map fun i=>sub (E8 s) (24*i) (min s.size (24*(i+1))),()):=by
 have hb:(E8 s).length=s.size:=by unfold E8;rw [List.length_map,←S0]
 have hP:A2 s.size≤17:=a5Z hz;unfold E4
 have key:=b1r (body:=u1 (E8 s) 24) (List.range (A2 s.size)) (by simp;omega) (fun k=>((24*k:Nat):Int)) (fun i=> [sub (E8 s) (24*i) (min s.size (24*(i+1)))]) ((24*A2 s.size:Nat):Int) (fun pre x post hx=>by
  obtain⟨rfl,hlt⟩:=c0Z hx;generalize pre.length=k at hlt⊢;have hk24:24*k<s.size:=by unfold A2 at hlt;omega
  unfold u1;rw [if_pos (by simp only [decide_eq_true_eq];omega),q9 (by omega),Option.bind_some,Int.toNat_natCast];have hl:(sub (E8 s) (24*k) (E8 s).length).length=s.size-24*k:=by rw [hb];exact b5W s _ _ (Nat.le_refl _)
  have e:W (((24*k:Nat):Int)+(if((sub (E8 s) (24*k) (E8 s).length).length:Int)<24 then((sub (E8 s) (24*k) (E8 s).length).length:Int)else 24))=((min s.size (24*(k+1)):Nat):Int):=by
   rw [hl];split
   · rw [a6B (by omega)];omega
   · rw [a6B (by omega)];omega
  rw [e,q9 (by omega),Option.bind_some,Int.toNat_natCast];have e2:W (((24*k:Nat):Int)+24)=((24*(k+1):Nat):Int):=by rw [a6B (by omega)];omega
  rw [e2];rfl) (by
  unfold u1;rw [List.length_range,if_neg (by simp only [decide_eq_true_eq];unfold A2;omega)])
 have key2:b1n (u1 (E8 s) 24) 0=_:=key;rw [key2];simp [b3q,List.flatMap_singleton']
 induction List.range (A2 s.size)with
 |nil=>rfl
 |cons x l ih=>simp [ih]
def b5g (no:Int):Nat→List (List Int)→List e8
 |_, []=> []
 |k,y::l=>⟨no,(k:Int),0,(y.length:Int),a5f y⟩::b5g no (k+1) l
theorem c3G (no:Int):∀(l:List (List Int)) (acc:List e8),acc.length+l.length≤1000→L4 (W8 no) l acc=some (.inl (acc++b5g no acc.length l))
 | [],acc,_=>by simp [L4,b5g]
 |y::l,acc,h=>by
  simp only [List.length_cons]at h;simp only [L4,W8];rw [q9 (by simp;omega)];simp only;rw [c3G no l _ (by simp;omega)];simp [b5g]
theorem b0t (no:Int):∀(l:List (List Int)) (k:Nat),(b5g no k l).length=l.length
 | [],_=>rfl
 |y::l,k=>by simp [b5g,b0t no l]
theorem c0x (no:Int):∀(l:List (List Int)) (k i:Nat) (h:i<l.length),(b5g no k l)[i]?=some ⟨no,((k+i:Nat):Int),0,(l[i].length:Int),a5f l[i]⟩
 |y::l,k,0,h=>by simp [b5g]
 |y::l,k,i+1,h=>by
  simp only [b5g,List.getElem?_cons_succ,List.getElem_cons_succ];rw [c0x no l (k+1) i (by simpa using h)]
  congr 2;omega
theorem c5v (v:List e8) (hv:v.length≤1000):q8 (J4 v) (0,v)=some ((v.length:Int),v.map fun c=>⟨c.No,c.Part,(v.length:Int),c.Size,c.Text⟩):=by
 have key:=a2j (body:=J4 v) (fun k=>((k:Int),(v.take k).map (fun c=>(⟨c.No,c.Part,(v.length:Int),c.Size,c.Text⟩:e8))++v.drop k)) v.length (by omega) ((v.length:Int),v.map fun c=>⟨c.No,c.Part,(v.length:Int),c.Size,c.Text⟩) (fun k hk=>by
  unfold J4;dsimp only;rw [if_pos (by simp only [decide_eq_true_eq];omega)];have hlen:((v.take k).map (fun c=>(⟨c.No,c.Part,(v.length:Int),c.Size,c.Text⟩:e8))++v.drop k).length=v.length:=by simp;omega
  have hidx:idx ((v.take k).map (fun c=>(⟨c.No,c.Part,(v.length:Int),c.Size,c.Text⟩:e8))++v.drop k) (k:Int)=some v[k]:=by
   rw [V3 (by omega)];rw [List.getElem_append_right (by simp;omega)];simp [Nat.min_eq_left (Nat.le_of_lt hk)]
  rw [hidx,Option.bind_some,Option.bind_some,W_s (by omega),hlen,Int.toNat_natCast];congr 3;rw [List.set_append_right _ _ (by simp;omega)];simp only [List.length_map,List.length_take,Nat.min_eq_left (Nat.le_of_lt hk),Nat.sub_self];rw [List.drop_eq_getElem_cons hk,List.set_cons_zero,List.take_succ_eq_append_getElem hk,List.map_append,List.append_assoc];rfl) (by
  unfold J4;dsimp only;rw [if_neg (by simp),List.take_length,List.drop_length,List.append_nil])
 rw [List.take_zero,List.drop_zero,List.map_nil,List.nil_append]at key;exact key
theorem a6u {r:b9} (h:s9 r) (no:Int):R7 r no=some (a0F (C5 r) no):=by
 have hz:=a5Y h;unfold R7 O2;rw [a6b h,Option.bind_some];generalize C5 r=s at hz⊢;have hP:A2 s.size≤17:=a5Z hz;rw [q9 (by omega),Option.bind_some,if_neg (by decide),Option.bind_some];dsimp only;rw [c4x s hz,Option.bind_some];dsimp only;rw [c3G no _ _ (by simp;omega),Option.bind_some];dsimp only;rw [c5v _ (by simp [b0t];omega),Option.bind_some];dsimp only;congr 1;apply List.ext_getElem?;intro i;simp only [List.nil_append,List.getElem?_map,List.length_nil];by_cases hi:i<A2 s.size
 · rw [c0x no _ 0 i (by simpa using hi)]
   simp only [a0F,List.getElem?_map,List.getElem_map,List.getElem_range,List.getElem?_range hi,Option.map_some,b0t,List.length_map,List.length_range,Nat.zero_add];congr 1;unfold a0z;have hb:=c1T s (24*i) (min s.size (24*(i+1)));have hl:=b5W s (24*i) (min s.size (24*(i+1))) (by omega);have hl2:(a3D s i).size=min s.size (24*(i+1))-24*i:=by unfold a3D;rw [ByteArray.size_extract];omega
   rw [hb,hl,hl2];rfl
 · rw [List.getElem?_eq_none (by simp [b0t];omega),List.getElem?_eq_none (by rw [a4A];omega)];rfl
end Go.Proofs.YtggdlgclohnbaaaGreatDoor
namespace Go.Proofs.YtggdlgclohnbaaaGreatDoor
open Go Go.Sx
theorem c3l (a b:e8):((a.No==b.No)&&((a.Part==b.Part)&&((a.Parts==b.Parts)&&((a.Size==b.Size)&&(a.Text.toList==b.Text.toList)))))=decide (a=b):=by
 rw [Bool.eq_iff_iff,a4m];simp only [Bool.and_eq_true,beq_iff_eq,decide_eq_true_eq];cases a;cases b;simp
theorem b4H (a b:b9):((a.At.Depot==b.At.Depot)&&((a.At.No==b.At.No)&&((a.Kind==b.Kind)&&((a.Day==b.Day)&&((a.Known==b.Known)&&((a.Of.Depot==b.Of.Depot)&&((a.Of.No==b.Of.No)&&(a.Text.toList==b.Text.toList))))))))=decide (a=b):=by
 rw [Bool.eq_iff_iff,a4m];simp only [Bool.and_eq_true,beq_iff_eq,decide_eq_true_eq];obtain⟨⟨a1,a2⟩,a3,a4,a5,⟨a6,a7⟩,a8⟩:=a;obtain⟨⟨b1,b2⟩,b3,b4,b5,⟨b6,b7⟩,b8⟩:=b;simp [and_assoc]
theorem c2L (a b:o5):((a.Depot==b.Depot)&&(a.No==b.No))=decide (a=b):=by
 rw [Bool.eq_iff_iff];simp only [Bool.and_eq_true,beq_iff_eq,decide_eq_true_eq];cases a;cases b;simp
theorem b6E (a b:List e8) (hl:a.length≤9223372036854775800):B0 a b=some (decide (a=b)):=by
 unfold B0;by_cases hab:a.length=b.length
 · rw [if_neg (by simp [hab])];refine b4j a.length (by omega) (fun i=>a[i]?=b[i]?) 0 (Nat.zero_le _) (fun i _ hi=> ?_) ?_ _ ?_
   · unfold A0;rw [if_pos (by simp only [decide_eq_true_eq];omega),V3 hi,V3 (show i<b.length by omega),Option.bind_some,Option.bind_some,c3l,W_s (by omega),List.getElem?_eq_getElem hi,List.getElem?_eq_getElem (show i<b.length by omega)];by_cases h:a[i]=b[i]'(by omega)
     · left;refine⟨by rw [h], ?_⟩;rw [if_neg (by simp [h])]
     · right;refine⟨by simpa using h, ?_⟩;rw [if_pos (by simp [h])]
   · unfold A0;rw [if_neg (by simp)]
   · rw [decide_eq_true_iff];constructor
     · intro h i _ _;rw [h]
     · intro h;apply List.ext_getElem?;intro i;by_cases hi:i<a.length
       · exact h i (Nat.zero_le _) hi
       · rw [List.getElem?_eq_none (by omega),List.getElem?_eq_none (by omega)]
 · rw [if_pos (by simpa using (by omega:(a.length:Int)≠(b.length:Int)))]
   have:a≠b:=fun e=>hab (by rw [e])
   simp [this]
end Go.Proofs.YtggdlgclohnbaaaGreatDoor
namespace Go.Proofs.YtggdlgclohnbaaaGreatDoor
open Go Go.Sx
abbrev I6:=Int×Int×Int×Int×Int×Int
def cnt (l:List b9) (d:Int):Nat:=l.countP fun r=>r.At.Depot==d
def L5 (l:List b9):I6:=((cnt l 0:Nat),(cnt l 1:Nat),(cnt l 2:Nat),(cnt l 3:Nat),(cnt l 4:Nat),(cnt l 5:Nat))
def a5i (t:I6):List Int:= [t.1,t.2.1,t.2.2.1,t.2.2.2.1,t.2.2.2.2.1,t.2.2.2.2.2]
def w7 (d:Int):Prop:=0≤d∧d≤5
theorem M4 {d:Int} (h:w7 d):d=0∨d=1∨d=2∨d=3∨d=4∨d=5:=by unfold w7 at h;omega
theorem c0n (d:Int):cnt [] d=0:=rfl
theorem a0Y (l:List b9) (r:b9) (d:Int):cnt (l++ [r]) d=cnt l d+if r.At.Depot=d then 1 else 0:=by
 unfold cnt;rw [List.countP_append];by_cases h:r.At.Depot=d<;>simp [h]
theorem b8Z (l:List b9) (d:Int):cnt l d≤l.length:=List.countP_le_length
theorem a4B (l:List b9) {d:Int} (h:w7 d):idx (a5i (L5 l)) d=some ((cnt l d:Nat):Int):=by
 rcases M4 h with rfl|rfl|rfl|rfl|rfl|rfl<;>rfl
theorem a3q (l:List b9) (hl:l.length≤1000000) (hd:∀r∈l,w7 r.At.Depot):I9 l=some (L5 l):=by
 have key:=a1n (body:=P6 l) (R:=Unit) l (by omega) (fun k (s:I6)=>((k:Int),s.1,s.2.1,s.2.2.1,s.2.2.2.1,s.2.2.2.2.1,s.2.2.2.2.2)) (fun s x=> .inl ((if x.At.Depot=0 then s.1+1 else s.1),(if x.At.Depot=1 then s.2.1+1 else s.2.1),(if x.At.Depot=2 then s.2.2.1+1 else s.2.2.1),(if x.At.Depot=3 then s.2.2.2.1+1 else s.2.2.2.1),(if x.At.Depot=4 then s.2.2.2.2.1+1 else s.2.2.2.2.1),(if x.At.Depot=5 then s.2.2.2.2.2+1 else s.2.2.2.2.2))) (fun _=>((0:Int),(0:Int),(0:Int),(0:Int),(0:Int),(0:Int),(0:Int))) (fun s=>((l.length:Int),s.1,s.2.1,s.2.2.1,s.2.2.2.1,s.2.2.2.2.1,s.2.2.2.2.2)) (fun pre s=>s=L5 pre) (by
  rintro pre x post s hp rfl;have hx:w7 x.At.Depot:=hd x (by rw [hp];simp);have hpl:pre.length<l.length:=by rw [hp];simp
  have hb:∀d,cnt pre d≤pre.length:=b8Z pre;constructor
  · unfold P6;dsimp only;rw [if_pos (by simp only [decide_eq_true_eq];omega)];have hi:idx l ((pre.length:Nat):Int)=some x:=by rw [hp];exact a4v
    rw [hi,Option.bind_some,q9 (by unfold w7 at hx;omega)];have e:=a4B pre hx;unfold a5i at e;rw [e,Option.bind_some,q9 (by unfold w7 at hx;omega),Option.bind_some];have hw:W ((cnt pre x.At.Depot:Nat)+1)=((cnt pre x.At.Depot:Nat):Int)+1:=a6B (by have:=hb x.At.Depot;omega);rw [hw,W_s (by omega)];simp only [Option.bind_some,L5];rcases M4 hx with h|h|h|h|h|h<;>rw [h]<;>rfl
  · intro s' hs';simp only [Sum.inl.injEq]at hs';subst hs';unfold L5;simp only [a0Y];refine Prod.ext ?_ (Prod.ext ?_ (Prod.ext ?_ (Prod.ext ?_ (Prod.ext ?_ ?_))))<;>(dsimp only;split<;>simp)) (by
  rintro s _;unfold P6;dsimp only;rw [if_neg (by simp)]) (0,0,0,0,0,0) (by simp [L5,cnt])
 unfold I9;have key2:q8 (P6 l) (0,0,0,0,0,0,0)=_:=key;rw [key2]
 have hrun:∀(post pre:List b9),S5 (R:=Unit) (fun(s:I6) (x:b9)=> .inl ((if x.At.Depot=0 then s.1+1 else s.1),(if x.At.Depot=1 then s.2.1+1 else s.2.1),(if x.At.Depot=2 then s.2.2.1+1 else s.2.2.1),(if x.At.Depot=3 then s.2.2.2.1+1 else s.2.2.2.1),(if x.At.Depot=4 then s.2.2.2.2.1+1 else s.2.2.2.2.1),(if x.At.Depot=5 then s.2.2.2.2.2+1 else s.2.2.2.2.2))) post (L5 pre)= .inl (L5 (pre++post)):=by
  intro post
  induction post with
  |nil=>intro pre;simp [S5]
  |cons x post ih=>
   intro pre;simp only [S5];rw [show pre++x::post=(pre++ [x])++post by simp,←ih (pre++ [x])];congr 1;unfold L5;simp only [a0Y];refine Prod.ext ?_ (Prod.ext ?_ (Prod.ext ?_ (Prod.ext ?_ (Prod.ext ?_ ?_))))<;>(dsimp only;split<;>simp)
 have h0:((0,0,0,0,0,0):I6)=L5 []:=by simp [L5,cnt]
 have hr:=hrun l [];rw [←h0]at hr;rw [hr];rfl
theorem c0p (l:List b9) (hl:l.length≤1000000) (hd:∀r∈l,w7 r.At.Depot):a2I l=some (L5 l):=a3q l hl hd
theorem a0N {r:b9} (h:s9 r):w7 r.At.Depot:=h.1.1
def P1 (l:List b9) (r:b9):Prop:=l.length<60∧((cnt l r.At.Depot:Nat):Int)=r.At.No
instance (l : List b9) (r : b9) : Decidable (P1 l r) := by unfold P1; infer_instance
theorem b9x (l:List b9) (r:b9) (hl:l.length≤1000000) (hd:∀r∈l,w7 r.At.Depot) (hr:w7 r.At.Depot):a0L l r=some (decide (P1 l r)):=by
 unfold a0L P1;by_cases h:l.length<60
 · rw [if_pos (by simp only [decide_eq_true_eq];omega),a3q l hl hd,Option.bind_some];have e:=a4B l hr;unfold a5i at e;rw [e,Option.bind_some];simp only [h,true_and];congr 1
 · rw [if_neg (by simp only [decide_eq_true_eq];omega)];simp [h]
def Written (l:List b9):Prop:=∀(i:Nat) (r:b9),l[i]?=some r→s9 r∧P1 (l.take i) r
theorem Written.len {l:List b9} (h:Written l):l.length≤60:=by
 rcases Nat.lt_or_ge 60 l.length with hl|hl
 · have:=(h 60 l[60] (List.getElem?_eq_getElem hl)).2.1;simp at this;omega
 · exact hl
theorem Written.rec {l:List b9} (h:Written l) {r:b9} (hr:r∈l):s9 r:=by
 obtain⟨i,hi,rfl⟩:=List.getElem_of_mem hr;exact(h i _ (List.getElem?_eq_getElem hi)).1
theorem Written.dep {l:List b9} (h:Written l) {r:b9} (hr:r∈l):w7 r.At.Depot:=a0N (h.rec hr)
theorem Written.nil:Written []:=fun i r h=>by simp at h
theorem Written.snoc {l:List b9} (h:Written l) {r:b9} (hr:s9 r) (hn:P1 l r):Written (l++ [r]):=by
 intro i x hx;rcases Nat.lt_trichotomy i l.length with h1|h1|h1
 · rw [List.getElem?_append_left h1]at hx;have:=h i x hx;rwa [List.take_append_of_le_length (Nat.le_of_lt h1)]
 · subst h1;simp at hx;subst hx;simpa using ⟨hr,hn⟩
 · rw [List.getElem?_eq_none (by simp;omega)]at hx;cases hx
theorem b5h {body:Int→Option (Sum Int (Sum Int Bool))} (l:List b9) (hl:l.length≤9223372036854775800) (ans:Bool) (ha:ans=true↔Written l)
 (h:∀(i:Nat) (hi:i<l.length),(∀r∈l.take i,s9 r)→i≤60→body (i:Int)=some (if s9 l[i]∧P1 (l.take i) l[i]then .inl ((i+1:Nat):Int)else .inr (.inr false)))
 (he:body (l.length:Int)=some (.inr (.inl (l.length:Int)))):(q8 body 0).bind (fun e=>match e with| .inl _=>some true| .inr r=>some r)=some ans:=by
 obtain⟨e,h1,h2⟩:=a3J (body:=body) (fun st=>∃i:Nat,st=(i:Int)∧i≤l.length∧Written (l.take i)) (fun st=>l.length-st.toNat) (fun e=>match e with| .inl _=>Written l| .inr r=>r=false∧¬Written l) (by
  rintro _ ⟨i,rfl,hi,hw⟩;rcases Nat.lt_or_ge i l.length with hlt|hge
  · have hlen:=hw.len;have hb:=h i hlt (fun r hr=>hw.rec hr) (by simp at hlen;omega);by_cases hok:s9 l[i]∧P1 (l.take i) l[i]
    · right;rw [if_pos hok]at hb;refine⟨_,hb,⟨i+1,rfl,hlt, ?_⟩, ?_⟩
      · rw [List.take_succ_eq_append_getElem hlt];exact hw.snoc hok.1 hok.2
      · simp only [Int.toNat_natCast];omega
    · left;rw [if_neg hok]at hb;exact⟨_,hb,rfl,fun hw2=>hok (hw2 i _ (List.getElem?_eq_getElem hlt))⟩
  · left;obtain rfl:i=l.length:=by omega
    refine⟨_,he, ?_⟩;rw [List.take_length]at hw;exact hw) 0 ⟨0,rfl,Nat.zero_le _,by rw [List.take_zero];exact Written.nil⟩ (by unfold a2h;simp only [Int.toNat_zero];omega)
 rw [h1];cases e with
 |inl _=>simp only [Option.bind_some];rw [ha.2 h2]
 |inr r=>
  obtain⟨rfl,h2⟩:=h2;have:ans=false:=by cases ans with|false=>rfl|true=>exact absurd (ha.1 rfl) h2
  simp only [Option.bind_some];rw [this]
open Classical in theorem areWritten_eq (l : List b9) (hl : l.length ≤ 9223372036854775800) (hs : ∀ r ∈ l, r.Text.size ≤ 9223372036854775807) : J8 l = some (decide (Written l)) := by
  unfold J8;refine b5h l hl _ (by simp) (fun i hi hpre h60 => ?_) ?_
  · unfold L1;rw [if_pos (by simp only [decide_eq_true_eq]; omega), V3 hi, Option.bind_some, N8 _ (hs _ (List.getElem_mem hi)), Option.bind_some];by_cases hok : s9 l[i]
    · rw [if_neg (by simp [hok]), q9 (by omega), Option.bind_some];have e : sub l 0 ((i : Int)).toNat = l.take i := by unfold sub; simp
      rw [e, b9x _ _ (by simp; omega) (fun r hr => a0N (hpre r hr)) (a0N hok), Option.bind_some, W_s (by omega)];by_cases hn : P1 (l.take i) l[i] <;> simp [hok, hn]
    · rw [if_pos (by simp [hok])];simp [hok]
  · unfold L1;rw [if_neg (by simp)]
end Go.Proofs.YtggdlgclohnbaaaGreatDoor
namespace Go.Proofs.YtggdlgclohnbaaaGreatDoor
open Go Go.Sx
open Classical in noncomputable def decF (t : ByteArray) : Option b9 := if h : ∃ r, s9 r ∧ C5 r = t then some (Classical.choose h) else none
theorem c5C {r q:b9} (hr:s9 r) (hq:s9 q) (h:C5 r=C5 q):r=q:=by
 have h1:=b5G hr;rw [h,b5G hq]at h1;simp only [Option.some.injEq,Prod.mk.injEq,and_true]at h1;exact h1.symm
theorem a6m {t:ByteArray} {r:b9} (h:decF t=some r):s9 r∧C5 r=t:=by
 unfold decF at h;split at h
 · rename_i hx;cases h;exact Classical.choose_spec hx
 · cases h
theorem b2f {r:b9} (h:s9 r):decF (C5 r)=some r:=by
 have hx:∃q,s9 q∧C5 q=C5 r:=⟨r,h,rfl⟩;unfold decF;rw [dif_pos hx];congr 1;have:=Classical.choose_spec hx;exact c5C this.1 h this.2
theorem c1x {t:ByteArray} (h:decF t=none):∀r,s9 r→C5 r≠t:=fun r hr e=>by
 subst e;rw [b2f hr]at h;cases h
theorem c0G (t:ByteArray) (ht:t.size≤281474976710656):G8 t=some (match decF t with|some r=>(r,true)|none=>(zR,false)):=by
 cases h:decF t with
 |none=>exact c6s t ht (c1x h)
 |some r=>obtain⟨h1,rfl⟩:=a6m h;exact b5G h1
def Y4 (l:List e8) (no p q:Int):Option e8:=l.find? fun c=>decide (C8 c∧c.No=no∧c.Part=p∧(q=0∨c.Parts=q))
theorem a9o {l:List e8} {no p q:Int} {c:e8} (h:Y4 l no p q=some c):C8 c∧c.No=no∧c.Part=p∧(q=0∨c.Parts=q):=by
 have:=List.find?_some h;exact of_decide_eq_true this
def a1A (l:List e8) (no q:Int):Nat→Int→Option ByteArray
 |0,_=>some ⟨#[]⟩
 |n+1,i=>match Y4 l no i q with
  |none=>none
  |some c=>match a1A l no q n (i+1)with
   |none=>none
   |some t=>some (c.Text++t)
def a4g (l:List e8) (no:Int):Option ByteArray:=match Y4 l no 0 0 with
 |none=>none
 |some c=>a1A l no c.Parts c.Parts.toNat 0
noncomputable def a4f (l:List e8):Nat→List b9→List b9
 |0,out=>out
 |n+1,out=>match a4g l (out.length:Int)with
  |none=>out
  |some t=>match decF t with
   |none=>out
   |some r=>if P1 out r then a4f l n (out++ [r])else out
noncomputable def a4W (l:List e8):List b9:=a4f l 61 []
theorem a6Q (l:List e8):∀(n:Nat) (out:List b9),Written out→Written (a4f l n out)
 |0,out,h=>h
 |n+1,out,h=>by
  simp only [a4f];split
  · exact h
  · split
    · exact h
    · rename_i r hr;split
      · rename_i hn;exact a6Q l n _ (h.snoc (a6m hr).1 hn)
      · exact h
theorem b3f (l:List e8):Written (a4W l):=a6Q l 61 [] Written.nil
def ofK:Int→List b9→List e8
 |_, []=> []
 |k,r::l=>a0F (C5 r) k++ofK (k+1) l
def ofF (l:List b9):List e8:=ofK 0 l
theorem b1V:∀(l m:List b9) (k:Int),ofK k (l++m)=ofK k l++ofK (k+l.length) m
 | [],m,k=>by simp [ofK]
 |r::l,m,k=>by
  simp only [List.cons_append,ofK,b1V l m (k+1),List.append_assoc,List.length_cons];rw [show k+1+(l.length:Int)=k+((l.length+1:Nat):Int) by omega]
theorem b2l (l:List b9) (r:b9):ofF (l++ [r])=ofF l++a0F (C5 r) (l.length:Int):=by
 unfold ofF;rw [b1V];simp [ofK]
theorem b0E:∀(l:List b9) (k:Int),(∀r∈l,s9 r)→(ofK k l).length≤17*l.length
 | [],_,_=>by simp [ofK]
 |r::l,k,h=>by
  have h1:=b0E l (k+1) fun x hx=>h x (List.mem_cons_of_mem _ hx)
  have h2:=a5Z (a5Y (h r List.mem_cons_self));simp only [ofK,List.length_append,List.length_cons,a4A];omega
theorem c2i (l:List b9) (h:∀r∈l,s9 r) (hl:l.length≤1000):a2C l=some (ofF l):=by
 have key:=a2j (body:=R6 l) (fun k=>(ofF (l.take k),(k:Int))) l.length (by omega) (ofF l,(l.length:Int)) (fun k hk=>by
  unfold R6;dsimp only;have hlen:=b0E (l.take k) 0 fun r hr=>h r (List.mem_of_mem_take hr)
  have hp:=a5Z (a5Y (h l[k] (List.getElem_mem hk)));rw [if_pos (by simp only [decide_eq_true_eq];omega),V3 hk,Option.bind_some,a6u (h _ (List.getElem_mem hk)),Option.bind_some,q9 (by unfold ofF;rw [a4A];simp at hlen;omega),W_s (by omega)];congr 3;rw [List.take_succ_eq_append_getElem hk,b2l];simp [Nat.min_eq_left (Nat.le_of_lt hk)]) (by
  unfold R6;dsimp only;rw [if_neg (by simp),List.take_length])
 unfold a2C;rw [List.take_zero]at key;have key2:q8 (R6 l) ([],0)=_:=key;rw [key2];rfl
end Go.Proofs.YtggdlgclohnbaaaGreatDoor
namespace Go.Proofs.YtggdlgclohnbaaaGreatDoor
open Go Go.Sx
theorem c5d (t:ByteArray):(⟨#[]⟩:ByteArray)++t=t:=by
 apply ByteArray.ext;apply Array.ext';rw [ByteArray.data_append];simp
theorem c4J (t:ByteArray):t++(⟨#[]⟩:ByteArray)=t:=by
 apply ByteArray.ext;apply Array.ext';rw [ByteArray.data_append];simp
end Go.Proofs.YtggdlgclohnbaaaGreatDoor
namespace Go.Proofs.YtggdlgclohnbaaaGreatDoor
open Go Go.Sx
theorem a8g (b:m9) (h:(b.Thread.length+b.Loose.length)*48≤140737488355328):a0r b=some (b.Thread++b.Loose):=by
 unfold a0r E7
 have k1:q8 (j4 [b.Thread,b.Loose]) (0,0)=some (((b.Thread.length+b.Loose.length:Nat):Int),2):=
  a2j (body:=j4 [b.Thread,b.Loose]) (fun k=>match k with|0=>(0,0)|1=>((b.Thread.length:Int),1)|_=>(((b.Thread.length+b.Loose.length:Nat):Int),2)) 2 (by omega) _ (fun k hk=>by
   match k,hk with
   |0,_=>
    show j4 [b.Thread,b.Loose] (0,0)=some (.inl ((b.Thread.length:Int),1));unfold j4;dsimp only;rw [if_pos (by simp),show idx [b.Thread,b.Loose] 0=some b.Thread from rfl,Option.bind_some,a6B (z:=(0:Int)+(b.Thread.length:Int)) (by omega),if_neg (by simp only [decide_eq_true_eq];omega),show W ((0:Int)+1)=1 from rfl,Int.zero_add]
   |1,_=>
    show j4 [b.Thread,b.Loose] ((b.Thread.length:Int),1)=some (.inl (((b.Thread.length+b.Loose.length:Nat):Int),2));unfold j4;dsimp only;rw [if_pos (by simp),show idx [b.Thread,b.Loose] 1=some b.Loose from rfl,Option.bind_some,a6B (z:=(b.Thread.length:Int)+(b.Loose.length:Int)) (by omega),if_neg (by simp only [decide_eq_true_eq];omega),show W ((1:Int)+1)=2 from rfl];rfl) (by
   show j4 [b.Thread,b.Loose] (((b.Thread.length+b.Loose.length:Nat):Int),2)=some (.inr (((b.Thread.length+b.Loose.length:Nat):Int),2));unfold j4;dsimp only;rw [if_neg (by simp)])
 have k2:q8 (j5 [b.Thread,b.Loose]) (0,([]:List e8))=some (2,b.Thread++b.Loose):=
  a2j (body:=j5 [b.Thread,b.Loose]) (fun k=>match k with|0=>(0, [])|1=>(1,b.Thread)|_=>(2,b.Thread++b.Loose)) 2 (by omega) _ (fun k hk=>by
   match k,hk with
   |0,_=>
    show j5 [b.Thread,b.Loose] (0, [])=some (.inl (1,b.Thread));unfold j5;dsimp only;rw [if_pos (by simp),show idx [b.Thread,b.Loose] 0=some b.Thread from rfl,Option.bind_some,q9 (by simp;omega),show W ((0:Int)+1)=1 from rfl,List.nil_append]
   |1,_=>
    show j5 [b.Thread,b.Loose] (1,b.Thread)=some (.inl (2,b.Thread++b.Loose));unfold j5;dsimp only;rw [if_pos (by simp),show idx [b.Thread,b.Loose] 1=some b.Loose from rfl,Option.bind_some,q9 (by omega),show W ((1:Int)+1)=2 from rfl]) (by
   show j5 [b.Thread,b.Loose] (2,b.Thread++b.Loose)=some (.inr (2,b.Thread++b.Loose));unfold j5;dsimp only;rw [if_neg (by simp)])
 rw [k1,Option.bind_some];dsimp only;rw [q9 (by omega),k2];rfl
theorem c4l (b:m9) (h:(b.Thread.length+b.Loose.length)*48≤140737488355328):V8 b=some ((b.Thread++b.Loose).filter (fun c=>decide (C8 c)),()):=by
 unfold V8;rw [a8g b h,Option.bind_some];have hl:(b.Thread++b.Loose).length≤9223372036854775800:=by rw [List.length_append];omega
 generalize b.Thread++b.Loose=l at hl
 have key:=b1r (body:=F4 l) l (by omega) (fun k=>(k:Int)) (fun c=>if C8 c then [c]else []) (l.length:Int) (fun pre x post hx=>by
  unfold F4;rw [if_pos (by rw [hx];simp only [decide_eq_true_eq];exact a9j),show idx l ((pre.length:Nat):Int)=some x from by rw [hx];exact a4v,Option.bind_some,b7H,Option.bind_some];have hlt:pre.length<l.length:=by rw [hx];simp
  rw [W_s (by omega)];by_cases hw:C8 x
  · simp [hw,emit]
  · simp [hw]) (by
  unfold F4;rw [if_neg (by simp)])
 have key2:b1n (F4 l) 0=_:=key;rw [key2];simp only [b3q,List.append_nil];congr 2
 induction l with
 |nil=>rfl
 |cons x l ih=>
  simp only [List.flatMap_cons,List.filter_cons];clear key key2
  have ih':List.flatMap (fun c=>if C8 c then [c]else []) l=List.filter (fun c=>decide (C8 c)) l:=by
   clear ih hl
   induction l with
   |nil=>rfl
   |cons y l ih=>simp only [List.flatMap_cons,List.filter_cons,ih];by_cases hy:C8 y<;>simp [hy]
  rw [ih'];by_cases hx:C8 x<;>simp [hx]
section
variable {K V : Type} [DecidableEq K]
theorem b3i (l:List (K×V)) (k:K) (v:V) (j:K):A7 (a5d l k v) j=if j=k then some v else A7 l j:=by
 induction l with
 |nil=>simp [a5d,A7]
 |cons p l ih=>
  obtain⟨a,x⟩:=p;simp only [a5d];by_cases h:k=a
  · subst h;simp only [if_true,A7];by_cases hj:j=k<;>simp [hj]
  · rw [if_neg h];simp only [A7];by_cases hj:j=a
    · subst hj;rw [if_pos rfl,if_pos rfl,if_neg (fun e=>h e.symm)]
    · rw [if_neg hj,if_neg hj,ih]
end
def plc (c:e8):A9:=⟨c.No,c.Part,c.Parts⟩
theorem b9q:∀(ws:List e8) (a:List (A9×ByteArray)) (b:List (Int×Int)),∃a' b',L4 M5 ws (a,b)=some (.inl (a',b'))∧
 (∀p,A7 a' p=(A7 a p).or ((ws.find? fun c=>decide (plc c=p)).map (·.Text)))∧(∀k,A7 b' k=(A7 b k).or ((ws.find? fun c=>decide (c.No=k∧c.Part=0)).map (·.Parts)))
 | [],a,b=>⟨a,b,rfl,fun p=>by simp,fun k=>by simp⟩
 |c::ws,a,b=>by
  have hstep:∃a1 b1,M5 (a,b) c=some (.inl (a1,b1))∧(∀p,A7 a1 p=(A7 a p).or (if plc c=p then some c.Text else none))∧(∀k,A7 b1 k=(A7 b k).or (if c.No=k∧c.Part=0 then some c.Parts else none)):=by
   unfold M5;dsimp only
   have ha:∀p,(A7 a (plc c)).isSome=false→A7 (a5d a (plc c) c.Text) p=(A7 a p).or (if plc c=p then some c.Text else none):=fun p h=>by
    rw [b3i];by_cases hp:p=plc c
    · subst hp;rw [if_pos rfl,if_pos rfl];cases hm:A7 a (plc c)with
      |none=>rfl
      |some v=>rw [hm]at h;cases h
    · rw [if_neg hp,if_neg (fun e=>hp e.symm)];simp
   have ha2:∀p,(A7 a (plc c)).isSome=true→A7 a p=(A7 a p).or (if plc c=p then some c.Text else none):=fun p h=>by
    by_cases hp:plc c=p
    · subst hp;cases hm:A7 a (plc c)with
      |none=>rw [hm]at h;cases h
      |some v=>rfl
    · rw [if_neg hp];simp
   have hb:∀k,(A7 b c.No).isSome=false→c.Part=0→A7 (a5d b c.No c.Parts) k=(A7 b k).or (if c.No=k∧c.Part=0 then some c.Parts else none):=fun k h h0=>by
    rw [b3i];by_cases hp:k=c.No
    · subst hp;rw [if_pos rfl,if_pos ⟨rfl,h0⟩];cases hm:A7 b c.No with
      |none=>rfl
      |some v=>rw [hm]at h;cases h
    · rw [if_neg hp,if_neg (fun e=>hp e.1.symm)];simp
   have hb2:∀k,((A7 b c.No).isSome=true∨c.Part≠0)→A7 b k=(A7 b k).or (if c.No=k∧c.Part=0 then some c.Parts else none):=fun k h=>by
    by_cases hp:c.No=k∧c.Part=0
    · rcases h with h|h
      · rw [hp.1]at h;cases hm:A7 b k with
        |none=>rw [hm]at h;cases h
        |some v=>rfl
      · exact absurd hp.2 h
    · rw [if_neg hp];simp
   have e:(⟨c.No,c.Part,c.Parts⟩:A9)=plc c:=rfl;rw [e];cases h1:(A7 a (plc c)).isSome with
   |false=>
    rw [if_pos (by decide)];cases h2:(A7 b c.No).isSome with
    |false=>
     rw [if_pos (by decide)];by_cases h0:c.Part=0
     · rw [if_pos (by simpa using h0)]
       exact⟨_,_,rfl,fun p=>ha p h1,fun k=>hb k h2 h0⟩
     · rw [if_neg (by simpa using h0)]
       exact⟨_,_,rfl,fun p=>ha p h1,fun k=>hb2 k (.inr h0)⟩
    |true=>
     rw [if_neg (by decide)];exact⟨_,_,rfl,fun p=>ha p h1,fun k=>hb2 k (.inl h2)⟩
   |true=>
    rw [if_neg (by decide)];cases h2:(A7 b c.No).isSome with
    |false=>
     rw [if_pos (by decide)];by_cases h0:c.Part=0
     · rw [if_pos (by simpa using h0)]
       exact⟨_,_,rfl,fun p=>ha2 p h1,fun k=>hb k h2 h0⟩
     · rw [if_neg (by simpa using h0)]
       exact⟨_,_,rfl,fun p=>ha2 p h1,fun k=>hb2 k (.inr h0)⟩
    |true=>
     rw [if_neg (by decide)];exact⟨_,_,rfl,fun p=>ha2 p h1,fun k=>hb2 k (.inl h2)⟩
  obtain⟨a1,b1,h1,h2,h3⟩:=hstep;obtain⟨a2,b2,h4,h5,h6⟩:=b9q ws a1 b1;refine⟨a2,b2,by simp only [L4,h1];exact h4,fun p=> ?_,fun k=> ?_⟩
  · rw [h5,h2,Option.or_assoc];congr 1;simp only [List.find?_cons];by_cases hp:plc c=p<;>simp [hp]
  · rw [h6,h3,Option.or_assoc];congr 1;simp only [List.find?_cons];by_cases hp:c.No=k∧c.Part=0<;>simp [hp]
theorem a9s {α:Type} (p q:α→Bool) (l:List α):(l.filter p).find? q=l.find? fun x=>p x&&q x:=by
 induction l with
 |nil=>rfl
 |cons x l ih=>
  simp only [List.filter_cons,List.find?_cons];by_cases hp:p x=true
  · simp [hp,List.find?_cons,ih]
  · simp [hp,ih]
structure c6B (l:List e8) (A:List (A9×ByteArray)) (B:List (Int×Int)):Prop where
 a:∀k i q:Int,q≠0→A7 A ⟨k,i,q⟩=(Y4 l k i q).map (·.Text)
 b:∀k:Int,A7 B k=(Y4 l k 0 0).map (·.Parts)
theorem c5F (l:List e8):∃A B,L4 M5 (l.filter fun c=>decide (C8 c)) (([]:List (A9×ByteArray)),([]:List (Int×Int)))=some (.inl (A,B))∧c6B l A B:=by
 obtain⟨A,B,h1,h2,h3⟩:=b9q (l.filter fun c=>decide (C8 c)) [] [];refine⟨A,B,h1,⟨fun k i q hq=> ?_,fun k=> ?_⟩⟩
 · rw [h2];simp only [A7,Option.none_or,a9s];unfold Y4;congr 2;funext c;rw [Bool.eq_iff_iff];simp only [Bool.and_eq_true,decide_eq_true_eq,plc,A9.mk.injEq,hq,false_or]
 · rw [h3];simp only [A7,Option.none_or,a9s];unfold Y4;congr 2;funext c;rw [Bool.eq_iff_iff];simp
theorem c2Z {l:List e8} {A:List (A9×ByteArray)} {B:List (Int×Int)} (hM:c6B l A B) (k P:Int) (hP:(A7 B k).getD 0=P) (hP0:P≠0) (hP10:P≤10):
 ∀(n:Nat) (i:Int) (s:ByteArray) (fine:Bool) (N:Nat),0≤i→i+n=P→s.size+24*n≤24*20→n<N→
  ∃s' fine' i',Q6 (B9 A B k) N (s,fine,i)=some (s',fine',i')∧s'.size≤24*20∧(fine=false→fine'=false)∧(fine=true→match a1A l k P n i with|some t=>fine'=true∧s'=s++t|none=>fine'=false)
 |0,i,s,fine,N,h0,hi,hs,hN=>by
  cases N with
  |zero=>omega
  |succ N=>
   refine⟨s,fine,i, ?_,by omega,fun h=>h,fun h=>⟨h,(c4J s).symm⟩⟩;simp only [Q6];unfold B9;dsimp only;rw [hP,if_neg (by simp only [decide_eq_true_eq];omega)]
 |n+1,i,s,fine,N,h0,hi,hs,hN=>by
  cases N with
  |zero=>omega
  |succ N=>
   have ha:=hM.a k i P hP0
   have hsz:((A7 A ⟨k,i,P⟩).getD ⟨#[]⟩).size≤24:=by
    rw [ha];cases hp:Y4 l k i P with
    |none=>exact Nat.zero_le _
    |some c=>
     have hw:=(a9o hp).1;unfold C8 at hw;simp only [Option.map_some,Option.getD_some];omega
   have hb:B9 A B k (s,fine,i)=some (.inl (s++(A7 A ⟨k,i,P⟩).getD ⟨#[]⟩,fine&&(A7 A ⟨k,i,P⟩).isSome,i+1)):=by
    unfold B9;dsimp only;rw [hP,if_pos (by simp only [decide_eq_true_eq];omega),q9 (by omega),a6B (z:=i+1) (by omega)];cases fine<;>rfl
   simp only [Q6,hb];obtain⟨s',fine',i',h1,h2,h3,h4⟩:=c2Z hM k P hP hP0 hP10 n (i+1) (s++(A7 A ⟨k,i,P⟩).getD ⟨#[]⟩) (fine&&(A7 A ⟨k,i,P⟩).isSome) N (by omega) (by omega) (by rw [ByteArray.size_append];omega) (by omega);refine⟨s',fine',i',h1,h2,fun hf=>h3 (by rw [hf];rfl),fun hf=> ?_⟩;simp only [a1A];cases hp:Y4 l k i P with
   |none=>
    dsimp only;exact h3 (by rw [ha,hp];simp)
   |some c=>
    have h5:=h4 (by rw [hf,ha,hp];rfl);dsimp only;cases hg:a1A l k P n (i+1)with
    |none=>rw [hg]at h5;exact h5
    |some t=>
     rw [hg]at h5;refine⟨h5.1, ?_⟩;rw [h5.2,ha,hp];simp only [Option.map_some,Option.getD_some];rw [ByteArray.append_assoc]
theorem b8b {l:List e8} {A:List (A9×ByteArray)} {B:List (Int×Int)} (hM:c6B l A B) (out:List b9) (hw:Written out):
 M3 A B (out,(out.length:Int))=some (match a4g l (out.length:Int)with
  |none=> .inr (out,(out.length:Int))
  |some t=>match decF t with
   |none=> .inr (out,(out.length:Int))
   |some r=>if P1 out r then .inl (out++ [r],((out.length+1:Nat):Int))else .inr (out,(out.length:Int))):=by
 have hlen:=hw.len;have hdep:∀r∈out,w7 r.At.Depot:=fun r hr=>hw.dep hr
 have hb:=hM.b (out.length:Int);unfold M3;dsimp only;unfold a4g;cases hp:Y4 l (out.length:Int) 0 0 with
 |none=>
  rw [hp]at hb;have hP:(A7 B (out.length:Int)).getD 0=0:=by rw [hb];rfl
  have hloop:q8 (B9 A B (out.length:Int)) (⟨#[]⟩,decide ((A7 B (out.length:Int)).getD 0>0),0)=some (⟨#[]⟩,false,0):=by
   rw [hP]
   exact a2j (body:=B9 A B (out.length:Int)) (fun _=>((⟨#[]⟩:ByteArray),false,(0:Int))) 0 (by omega) _ (fun k hk=>by omega) (by
    unfold B9;dsimp only;rw [hP,if_neg (by decide)])
  rw [hloop,Option.bind_some];dsimp only;rw [if_pos (by decide)]
 |some c0=>
  obtain⟨hw0,g1,g2,_⟩:=a9o hp;have hw1:=hw0;unfold C8 at hw1;rw [hp]at hb;have hP:(A7 B (out.length:Int)).getD 0=c0.Parts:=by rw [hb];rfl
  obtain⟨P,hPn⟩:∃P:Nat,c0.Parts=P:=⟨c0.Parts.toNat,by omega⟩;obtain⟨s',fine',i',h1,h2,_,h4⟩:=c2Z hM (out.length:Int) c0.Parts hP (by omega) (by omega) P 0 ⟨#[]⟩ true a2h (by omega) (by omega) (by show 0+24*P≤_;omega) (by unfold a2h;omega);have h4:=h4 rfl;have hfine:decide ((A7 B (out.length:Int)).getD 0>0)=true:=by rw [hP];simp only [decide_eq_true_eq];omega
  have hloop:q8 (B9 A B (out.length:Int)) (⟨#[]⟩,decide ((A7 B (out.length:Int)).getD 0>0),0)=some (s',fine',i'):=by rw [hfine];exact h1
  rw [hloop,Option.bind_some];dsimp only;rw [show c0.Parts.toNat=P by omega];cases hg:a1A l (out.length:Int) c0.Parts P 0 with
  |none=>
   rw [hg]at h4;subst h4;dsimp only;rw [if_pos (by decide)]
  |some t=>
   rw [hg]at h4;obtain⟨rfl,rfl⟩:=h4;rw [c5d]at h2⊢;dsimp only;rw [if_neg (by decide),c0G t (by omega),Option.bind_some];cases hd:decF t with
   |none=>
    dsimp only;rw [if_pos (by decide)]
   |some r=>
    obtain⟨hr,he⟩:=a6m hd;dsimp only;rw [if_neg (by decide),b9x out r (by omega) hdep (a0N hr),Option.bind_some];by_cases hn:P1 out r
    · rw [if_neg (by simp [hn]),q9 (by simp;omega),if_pos hn,W_s (by omega)]
    · rw [if_pos (by simp [hn]),if_neg hn]
theorem a3W (b:m9) (h:(b.Thread.length+b.Loose.length)*48≤140737488355328):B4 b=some (⟨ofF (a4W (b.Thread++b.Loose)), []⟩,a4W (b.Thread++b.Loose)):=by
 unfold B4 a3C;rw [Option.bind_some,c4l b h,Option.bind_some];generalize b.Thread++b.Loose=l;obtain⟨A,B,h1,hM⟩:=c5F l;dsimp only;rw [h1,Option.bind_some];dsimp only
 have key:∀(n:Nat) (out:List b9) (N:Nat),Written out→61-out.length≤n→n<N→Q6 (M3 A B) N (out,(out.length:Int))=some (a4f l n out,((a4f l n out).length:Int)):=by
  intro n
  induction n with
  |zero=>
   intro out N hw hn hN;have:=hw.len;omega
  |succ n ih=>
   intro out N hw hn hN;cases N with
   |zero=>omega
   |succ N=>
    simp only [Q6,b8b hM out hw,a4f];cases ht:a4g l (out.length:Int)with
    |none=>rfl
    |some t=>
     dsimp only;cases hd:decF t with
     |none=>rfl
     |some r=>
      dsimp only;by_cases hnx:P1 out r
      · rw [if_pos hnx,if_pos hnx];have:=ih (out++ [r]) N (hw.snoc (a6m hd).1 hnx) (by simp;omega) (by omega);simp only [List.length_append,List.length_singleton]at this;exact this
      · rw [if_neg hnx,if_neg hnx]
 have hk:q8 (M3 A B) ([],0)=_:=key 61 [] a2h Written.nil (by simp) (by unfold a2h;omega);rw [hk,Option.bind_some];dsimp only;have hw:=b3f l;rw [show a4f l 61 []=a4W l from rfl,c2i _ (fun r hr=>hw.rec hr) (by have:=hw.len;omega)];rfl
end Go.Proofs.YtggdlgclohnbaaaGreatDoor
namespace Go.Proofs.YtggdlgclohnbaaaGreatDoor
open Go Go.Sx
def a0O (picks:List Int) (i:Nat):Int:=if picks.length=0 then 0 else picks.getD (i % picks.length) 0
def b2j (l:List Int):Prop:=∀x∈l,-9223372036854775808≤x∧x≤9223372036854775807
theorem c2f {picks:List Int} (h:b2j picks) (i:Nat): -9223372036854775808≤a0O picks i∧a0O picks i≤9223372036854775807:=by
 unfold a0O;by_cases h0:picks.length=0
 · rw [if_pos h0];omega
 · rw [if_neg h0];have:i % picks.length<picks.length:=Nat.mod_lt _ (by omega);have:=h picks[i % picks.length] (List.getElem_mem this);simpa [List.getD,List.getElem?_eq_getElem ‹_›]using this
theorem c5b {picks:List Int} (h0:picks.length≠0) (i:Nat):idx picks ((i:Int).tmod (picks.length:Int))=some (a0O picks i):=by
 have hlt:i % picks.length<picks.length:=Nat.mod_lt _ (by omega);have e:(i:Int).tmod (picks.length:Int)=((i % picks.length:Nat):Int):=by rw [Int.tmod_eq_emod_of_nonneg (by omega)];rfl
 rw [e,V3 hlt];unfold a0O;rw [if_neg h0];simp [List.getD,List.getElem?_eq_getElem hlt]
theorem c8v {x n:Int} (hx: -9223372036854775808≤x∧x≤9223372036854775807) (hn:1≤n∧n≤4611686018427387904):(W (x.tmod n+n)).tmod n=x % n:=by
 have h1:=Int.tmod_lt_of_pos x (show 0<n by omega)
 have h2: -n<x.tmod n:=by
  have:=Int.neg_lt_of_neg_lt (show-(x.tmod n)<n from by rw [←Int.neg_tmod];exact Int.tmod_lt_of_pos _ (by omega));exact this
 rw [a6B (by omega),Int.tmod_eq_emod_of_nonneg (by omega),Int.add_emod_right];have h3:x=n*x.tdiv n+x.tmod n:=(Int.mul_tdiv_add_tmod x n).symm
 conv=>rhs;rw [h3]
 rw [Int.mul_add_emod_self_left]
theorem b6o (picks:List Int) (hp:b2j picks) (i:Nat) (n:Int) (hn:1≤n∧n≤4611686018427387904):a0M picks (i:Int) n=some (a0O picks i % n):=by
 unfold a0M;by_cases h0:picks.length=0
 · rw [if_pos (by simp [h0])];unfold a0O;rw [if_pos h0];simp
 · rw [if_neg (by simpa using h0),q9 (by omega),c5b h0,Option.bind_some,q9 (by omega),q9 (by omega),c8v (c2f hp i) hn]
theorem a3v (x m:Int) (hx: -9223372036854775808≤x∧x≤9223372036854775807) (hm:1≤m∧m≤4611686018427387904):J6 x m=some (x % m):=by
 unfold J6;rw [q9 (by omega),q9 (by omega),c8v hx hm]
def b1t (picks:List Int) (i:Nat) (out:List e8) (c:e8):List e8:=
 if a0O picks (2*i) % 4=0 then out
 else if a0O picks (2*i) % 4=3 then c::out
 else if a0O picks (2*i) % 4=1∧0<c.Text.size then out++ [⟨c.No,c.Part,c.Parts,c.Size,c.Text.extract 0 (a0O picks (2*i+1) % c.Text.size).toNat⟩]
 else out++ [c]
def a2R (picks:List Int):Nat→List e8→List e8→List e8
 |_,out, []=>out
 |i,out,c::l=>a2R picks (i+1) (b1t picks i out c) l
theorem c2d (picks:List Int) (i:Nat) (out:List e8) (c:e8):(b1t picks i out c).length≤out.length+1:=by
 unfold b1t;split
 · omega
 · split
   · simp
   · split<;>simp
theorem a9k (picks:List Int):∀(l:List e8) (i:Nat) (out:List e8),(a2R picks i out l).length≤out.length+l.length
 | [],_,_=>by simp [a2R]
 |c::l,i,out=>by
  have h1:=a9k picks l (i+1) (b1t picks i out c);have h2:=c2d picks i out c;simp only [a2R,List.length_cons];omega
theorem b1O (picks:List Int):∀(l:List e8) (i:Nat) (out:List e8) (c:e8),a2R picks i out (l++ [c])=b1t picks (i+l.length) (a2R picks i out l) c
 | [],i,out,c=>by simp [a2R]
 |x::l,i,out,c=>by
  simp only [List.cons_append,a2R,b1O picks l (i+1),List.length_cons];rw [show i+1+l.length=i+(l.length+1) by omega]
def a3R (b:m9) (picks:List Int):m9:=⟨b.Thread,a2R picks 0 [] b.Loose⟩
structure c0v (b:m9):Prop where
 t:b.Thread.length*48≤140737488355328
 l:(b.Loose.length+1)*48≤140737488355328
 s:∀c∈b.Loose,c.Text.size≤281474976710656
theorem c9D (x:Int):0≤x % 4∧x % 4<4:=by omega
theorem a4e (b:m9) (picks:List Int) (h:c0v b) (hp:b2j picks) (hpl:picks.length≤9223372036854775800):B1 b picks=some (a3R b picks):=by
 unfold B1 j6;have ht:=h.t;have hl:=h.l;rw [q9 (by omega),Option.bind_some]
 have key:=a2j (body:=L9 b picks) (fun k=>((k:Int),([]:List e8),([]:List e8),([]:List e8),a2R picks 0 [] (b.Loose.take k))) b.Loose.length (by omega) ((b.Loose.length:Int), [], [], [],a2R picks 0 [] b.Loose) (fun k hk=>by
  have hlen:=a9k picks (b.Loose.take k) 0 [];simp only [List.length_nil,List.length_take,Nat.zero_add]at hlen;have hsn:=b1O picks (b.Loose.take k) 0 [] b.Loose[k];rw [←List.take_succ_eq_append_getElem hk]at hsn;simp only [List.length_take,Nat.min_eq_left (Nat.le_of_lt hk),Nat.zero_add]at hsn;have htx:=h.s b.Loose[k] (List.getElem_mem hk);unfold L9;dsimp only;rw [hsn];generalize hO:a2R picks 0 [] (b.Loose.take k)=out at hlen⊢;have e2:W (2*(k:Int))=((2*k:Nat):Int):=by rw [a6B (by omega)];omega
  rw [if_pos (by simp only [decide_eq_true_eq];omega),V3 hk,Option.bind_some,e2,b6o picks hp _ 4 (by omega),Option.bind_some,W_s (by omega)];have hm:=c9D (a0O picks (2*k));unfold b1t;by_cases h0:a0O picks (2*k) % 4=0
  · rw [if_pos (by simp [h0]),if_pos h0]
  · rw [if_neg (by simpa using h0),if_neg h0]
    by_cases h3:a0O picks (2*k) % 4=3
    · rw [if_pos (by simp [h3]),if_pos h3];unfold E6;rw [q9 (by simp),if_neg (by simp)];by_cases hz:out.length=0
      · have:out= []:=List.eq_nil_of_length_eq_zero hz;subst this;rw [if_pos (by simp),q9 (by simp)];rfl
      · rw [if_neg (by simp only [beq_iff_eq];omega),q9 (by simp;omega)];rfl
    · rw [if_neg (by simpa using h3),if_neg h3]
      by_cases h1:a0O picks (2*k) % 4=1
      · rw [if_pos (by simp [h1])];by_cases hs:0<b.Loose[k].Text.size
        · rw [if_pos (by simp only [decide_eq_true_eq];omega),if_pos ⟨h1,hs⟩];have e3:W (((2*k:Nat):Int)+1)=((2*k+1:Nat):Int):=W_s (by omega);have hpos:0≤a0O picks (2*k+1) % (b.Loose[k].Text.size:Int):=Int.emod_nonneg _ (by omega);have hlt:a0O picks (2*k+1) % (b.Loose[k].Text.size:Int)<(b.Loose[k].Text.size:Int):=Int.emod_lt_of_pos _ (by omega);rw [e3,b6o picks hp _ _ (by omega),Option.bind_some,q9 (by omega)];unfold a1U H9;rw [q9 (by rw [ByteArray.size_extract];omega),Option.bind_some,Option.bind_some,q9 (by simp;omega)]
        · rw [if_neg (by simp only [decide_eq_true_eq];omega),if_neg (by rintro⟨_,h⟩;exact hs h),q9 (by simp;omega)]
      · rw [if_neg (by simpa using h1),if_neg (by rintro⟨h,_⟩;exact h1 h),q9 (by simp;omega)]) (by
  unfold L9;dsimp only;rw [if_neg (by simp),List.take_length])
 rw [List.take_zero]at key;have key2:q8 (L9 b picks) (0, [], [], [], [])=_:=key;rw [key2];rfl
end Go.Proofs.YtggdlgclohnbaaaGreatDoor
namespace Go.Proofs.YtggdlgclohnbaaaGreatDoor
open Go Go.Sx
def Bef (a b:o5):Prop:=a.Depot<b.Depot∨(a.Depot=b.Depot∧a.No<b.No)
instance (a b : o5) : Decidable (Bef a b) := by unfold Bef; infer_instance
theorem Bef.trans {a b c:o5} (h:Bef a b) (k:Bef b c):Bef a c:=by unfold Bef at*;omega
theorem Bef.irr (a:o5):¬Bef a a:=by unfold Bef;omega
theorem Bef.tri (a b:o5):Bef a b∨a=b∨Bef b a:=by
 obtain⟨a1,a2⟩:=a;obtain⟨b1,b2⟩:=b;unfold Bef;simp only [o5.mk.injEq];omega
def a4M (l:List b9):Prop:=l.Pairwise fun a b=>Bef a.At b.At
def a1P (l:List b9):Prop:=l.Pairwise fun a b=>a.At≠b.At
theorem a4M.once {l:List b9} (h:a4M l):a1P l:=by
 unfold a4M at h;unfold a1P;exact h.imp fun {a b} (h:Bef a.At b.At) (e:a.At=b.At)=>Bef.irr b.At (e▸h)
theorem b3X:∀ {l m:List b9},a4M l→a4M m→(∀r,r∈l↔r∈m)→l=m
 | [], [],_,_,_=>rfl
 | [],y::m,_,_,h=>by have:=(h y).2 List.mem_cons_self;cases this
 |x::l, [],_,_,h=>by have:=(h x).1 List.mem_cons_self;cases this
 |x::l,y::m,hl,hm,h=>by
  unfold a4M at hl hm;simp only [List.pairwise_cons]at hl hm
  have e:x=y:=by
   rcases List.mem_cons.1 ((h x).1 List.mem_cons_self)with e|h1
   · exact e
   · rcases List.mem_cons.1 ((h y).2 List.mem_cons_self)with e|h2
     · exact e.symm
     · exact absurd ((hm.1 x h1).trans (hl.1 y h2)) (Bef.irr _)
  subst e;congr 1;refine b3X hl.2 hm.2 fun r=> ?_
  constructor
  · intro hr;rcases List.mem_cons.1 ((h r).1 (List.mem_cons_of_mem _ hr))with e|h1
    · subst e;exact absurd (hl.1 r hr) (Bef.irr _)
    · exact h1
  · intro hr;rcases List.mem_cons.1 ((h r).2 (List.mem_cons_of_mem _ hr))with e|h1
    · subst e;exact absurd (hm.1 r hr) (Bef.irr _)
    · exact h1
end Go.Proofs.YtggdlgclohnbaaaGreatDoor
namespace Go.Proofs.YtggdlgclohnbaaaGreatDoor
open Go Go.Sx
def a3Q (p:List b9) (r:b9):Prop:=s9 r∧(∀y,p.getLast?=some y→Bef y.At r.At)∧((cnt p r.At.Depot:Nat):Int)=r.At.No
def N4 (l:List b9):Prop:=∀(i:Nat) (r:b9),l[i]?=some r→a3Q (l.take i) r
def a7j (l:List b9):Prop:=l.length≤60∧N4 l
theorem N4.nil:N4 []:=fun i r h=>by simp at h
theorem a7m {l:List b9} {r:b9}:N4 (l++ [r])↔N4 l∧a3Q l r:=by
 constructor
 · intro h;refine⟨fun i x hx=> ?_, ?_⟩
   · obtain⟨hi,rfl⟩:=List.getElem?_eq_some_iff.1 hx;have:=h i l[i] (by rw [List.getElem?_append_left hi,hx]);rwa [List.take_append_of_le_length (Nat.le_of_lt hi)]at this
   · have:=h l.length r (by simp);simpa using this
 · intro⟨h,hr⟩ i x hx;rcases Nat.lt_trichotomy i l.length with h1|h1|h1
   · rw [List.getElem?_append_left h1]at hx;have:=h i x hx;rwa [List.take_append_of_le_length (Nat.le_of_lt h1)]
   · subst h1;simp at hx;subst hx;simpa using hr
   · rw [List.getElem?_eq_none (by simp;omega)]at hx;cases hx
theorem N4.facts:∀(n:Nat) {l:List b9},l.length=n→N4 l→(∀r∈l,s9 r)∧a4M l∧∀x,l.getLast?=some x→(∀r∈l,r=x∨Bef r.At x.At)∧((cnt l x.At.Depot:Nat):Int)=x.At.No+1∧∀d,x.At.Depot<d→cnt l d=0
 |0,l,hn,_=>by
  obtain rfl:=List.length_eq_zero_iff.1 hn;exact⟨by simp,List.Pairwise.nil,by simp⟩
 |n+1,l,hn,h=>by
  rcases List.eq_nil_or_concat l with rfl|⟨L,b,rfl⟩
  · simp at hn
  · rw [List.concat_eq_append]at h hn⊢;obtain⟨h1,h2⟩:=a7m.1 h;obtain⟨f1,f2,f3⟩:=N4.facts n (by simpa using hn) h1
    obtain⟨b1,b2,b3⟩:=h2
    have hb:∀r∈L,Bef r.At b.At:=fun r hr=>by
     cases hg:L.getLast? with
     |none=>rw [List.getLast?_eq_none_iff]at hg;subst hg;cases hr
     |some y=>
      rcases(f3 y hg).1 r hr with e|e
      · rw [e];exact b2 y hg
      · exact e.trans (b2 y hg)
    refine⟨fun r hr=> ?_, ?_,fun x hx=> ?_⟩
    · rcases List.mem_append.1 hr with hr|hr
      · exact f1 r hr
      · obtain rfl:=List.mem_singleton.1 hr;exact b1
    · unfold a4M at f2⊢;rw [List.pairwise_append];exact⟨f2,List.pairwise_singleton _ _,fun a ha c hc=>by obtain rfl:=List.mem_singleton.1 hc;exact hb a ha⟩
    · rw [List.getLast?_concat]at hx;cases hx;refine⟨fun r hr=> ?_, ?_,fun d hd=> ?_⟩
      · rcases List.mem_append.1 hr with hr|hr
        · exact .inr (hb r hr)
        · exact .inl (List.mem_singleton.1 hr)
      · rw [a0Y,if_pos rfl];omega
      · rw [a0Y,if_neg (by omega)];cases hg:L.getLast? with
        |none=>rw [List.getLast?_eq_none_iff]at hg;subst hg;rfl
        |some y=>
         have:=b2 y hg;have:=(f3 y hg).2.2 d (by unfold Bef at this;omega);omega
theorem N4.rec {l:List b9} (h:N4 l) {r:b9} (hr:r∈l):s9 r:=(N4.facts _ rfl h).1 r hr
theorem N4.rise {l:List b9} (h:N4 l):a4M l:=(N4.facts _ rfl h).2.1
theorem N4.dep {l:List b9} (h:N4 l) {r:b9} (hr:r∈l):w7 r.At.Depot:=a0N (h.rec hr)
open Classical in theorem book_loop {S E : Type} {body : S → Option (Sum S E)} (l : List b9) (hl : l.length ≤ 9223372036854775800) (enc : Nat → S) (yes no : E)
    (h : ∀ (i : Nat) (hi : i < l.length), N4 (l.take i) → body (enc i) = some (if a3Q (l.take i) l[i] then .inl (enc (i + 1)) else .inr no))
    (he : body (enc l.length) = some (.inr yes)) : q8 body (enc 0) = some (if N4 l then yes else no) := by
  have key := a1n (body := body) l (by omega) (fun k (_ : List b9) => enc k) (fun p x => if a3Q p x then .inl (p ++ [x]) else .inr ()) (fun _ : Unit => no) (fun _ => yes) (fun pre s => s = pre ∧ N4 pre)
    (fun pre x post s hp ⟨hs, hb⟩ => by
      subst hs;have hlt : s.length < l.length := by rw [hp]; simp
      have e1 : l.take s.length = s := by rw [hp]; simp
      have e2 : l[s.length] = x := by simp only [hp]; simp
      have := h s.length hlt (by rw [e1]; exact hb);rw [e1, e2] at this;by_cases hk : a3Q s x
      · rw [if_pos hk] at this ⊢;exact ⟨this, fun s' hs' => by cases hs'; exact ⟨rfl, a7m.2 ⟨hb, hk⟩⟩⟩
      · rw [if_neg hk] at this ⊢;exact ⟨this, fun s' hs' => by cases hs'⟩) (fun s _ => he) [] ⟨rfl, N4.nil⟩
  rw [key]
  have run : ∀ (post pre : List b9), N4 pre → S5 (R := Unit) (fun p x => if a3Q p x then .inl (p ++ [x]) else .inr ()) post pre = if N4 (pre ++ post) then .inl (pre ++ post) else .inr () := by
    intro post
    induction post with
    | nil => intro pre hp; simp [S5, hp]
    | cons x post ih =>
      intro pre hp;unfold S5;by_cases hk : a3Q pre x
      · rw [if_pos hk];dsimp only;rw [ih _ (a7m.2 ⟨hp, hk⟩)];simp
      · rw [if_neg hk]
        have : ¬ N4 (pre ++ x :: post) := fun hb => hk (by
          have := hb pre.length x (by simp);simpa using this)
        rw [if_neg this]
  rw [run l [] N4.nil, List.nil_append];by_cases hb : N4 l <;> simp [hb]
def a1V (p:List b9):Int×Int:=match p.getLast? with|none=>(-1,0)|some y=>(y.At.Depot,y.At.No)
theorem b9m (p:List b9) (r:b9):a1V (p++ [r])=(r.At.Depot,r.At.No):=by unfold a1V;rw [List.getLast?_concat]
theorem c1I {p:List b9} {r:b9} (h:N4 p) (hr:s9 r):a3Q p r↔(r.At.Depot=(a1V p).1∧r.At.No=(a1V p).2+1)∨((a1V p).1<r.At.Depot∧r.At.No=0):=by
 have hd:=a0N hr;unfold w7 at hd;obtain⟨f1,f2,f3⟩:=N4.facts _ rfl h;unfold a3Q a1V;cases hg:p.getLast? with
 |none=>
  rw [List.getLast?_eq_none_iff]at hg;subst hg;simp only [c0n,reduceCtorEq,false_implies,implies_true,true_and,hr];omega
 |some y=>
  obtain⟨_,g2,g3⟩:=f3 y hg;simp only [Option.some.injEq,forall_eq',hr,true_and];unfold Bef;rcases Int.lt_trichotomy r.At.Depot y.At.Depot with h1|h1|h1
  · omega
  · rw [h1];omega
  · have:=g3 _ h1;omega
open Classical in theorem isBook_eq (b : B3) (hl : b.Records.length ≤ 9223372036854775800) (hs : ∀ r ∈ b.Records, r.Text.size ≤ 9223372036854775807) : K9 b = some (decide (a7j b.Records)) := by
  obtain ⟨l⟩ := b;dsimp only at hl hs;unfold K9
  have key := book_loop (body := B2 ⟨l⟩) l hl (fun k => ((k : Int), (a1V (l.take k)).1, (a1V (l.take k)).2)) (.inl ((l.length : Int), (a1V l).1, (a1V l).2)) (.inr false)
    (fun i hi hb => by
      unfold B2;dsimp only;rw [if_pos (by simp only [decide_eq_true_eq]; omega), V3 hi, Option.bind_some, List.take_succ_eq_append_getElem hi, b9m, N8 _ (hs _ (List.getElem_mem hi)), W_s (by omega)];by_cases hok : s9 l[i]
      · have hn : 0 ≤ l[i].At.No ∧ l[i].At.No ≤ 9999 := hok.1.2
        have hn2 : (a1V (l.take i)).2 + 1 ≤ 9223372036854775807 ∧ -9223372036854775808 ≤ (a1V (l.take i)).2 + 1 := by
          unfold a1V;cases hg : (l.take i).getLast? with
          | none => decide
          | some y =>
            have : 0 ≤ y.At.No ∧ y.At.No ≤ 9999 := (hb.rec (List.mem_of_getLast? hg)).1.2;dsimp only;omega
        rw [a6B (z := (a1V (l.take i)).2 + 1) ⟨hn2.2, hn2.1⟩];simp only [hok, decide_true, Bool.not_true, Option.bind_some, Bool.false_eq_true, if_false, beq_iff_eq, decide_eq_true_eq, Bool.not_eq_true', beq_eq_false_iff_ne, ne_eq];have hq := c1I hb hok;by_cases hS : a3Q (l.take i) l[i]
        · rw [if_pos hS];rcases hq.1 hS with ⟨a1, a2⟩ | ⟨a1, a2⟩
          · rw [if_pos a1, if_pos a2]; rfl
          · rw [if_neg (by omega), if_pos a1, if_neg (by decide), if_neg (fun hh => hh a2)]
        · rw [if_neg hS];have hq2 := fun hh => hS (hq.2 hh)
          by_cases a1 : l[i].At.Depot = (a1V (l.take i)).1
          · rw [if_pos a1, if_neg (fun a2 => hq2 (.inl ⟨a1, a2⟩)), if_neg (by omega)];split <;> rfl
          · rw [if_neg a1];by_cases a3 : l[i].At.Depot > (a1V (l.take i)).1
            · rw [if_pos a3, if_neg (by decide), if_pos (fun a2 => hq2 (.inr ⟨a3, a2⟩))]
            · rw [if_neg a3];split <;> rfl
      · have hS : ¬ a3Q (l.take i) l[i] := fun hS => hok hS.1
        simp only [hok, decide_false, Bool.not_false, Option.bind_some, if_true, hS, if_false];split
        · split
          · rfl
          · split <;> rfl
        · split <;> rfl)
    (by unfold B2; dsimp only; rw [if_neg (by simp), List.take_length])
  have e0 : q8 (B2 ⟨l⟩) (0, -1, 0) = _ := key;rw [e0, Option.bind_some];unfold a7j;by_cases hb : N4 l
  · rw [if_pos hb];dsimp only;simp only [hb, and_true];congr 1;by_cases h60 : l.length ≤ 60
    · simp only [h60, decide_true, decide_eq_true_eq]; omega
    · simp only [h60, decide_false, decide_eq_false_iff_not]; omega
  · rw [if_neg hb];simp [hb]
theorem b7m (a b:o5):a1L a b=some (decide (Bef a b)):=by
 unfold a1L Bef;by_cases h1:a.Depot<b.Depot
 · simp [h1]
 · by_cases h2:a.Depot=b.Depot
   · simp [h2]
   · simp [h1,h2]
open Classical in theorem Check_eq (b : B3) (hs : ∀ r ∈ b.Records, r.Text.size ≤ 9223372036854775807) : a2Y b = some (if a7j b.Records then 0 else 81) := by
  obtain ⟨l⟩ := b;dsimp only at hs;unfold a2Y a7j;by_cases h60 : l.length ≤ 60
  · rw [if_neg (by simp only [decide_eq_true_eq]; omega)]
    have key := book_loop (body := P5 ⟨l⟩) l (by omega) (fun k => (k : Int)) (.inl (l.length : Int)) (.inr 81)
      (fun i hi hb => by
        unfold P5;dsimp only;have hdep : ∀ r ∈ l.take i, w7 r.At.Depot := fun r hr => hb.dep hr
        have hi60 : i ≤ 60 := by omega
        have es : sub l 0 ((i : Int)).toNat = l.take i := by unfold sub; simp
        rw [if_pos (by simp only [decide_eq_true_eq]; omega), V3 hi, Option.bind_some, a5S _ (hs _ (List.getElem_mem hi)), Option.bind_some, q9 (by omega)];simp only [Option.bind_some, es];rw [c0p _ (by simp; omega) hdep];simp only [Option.bind_some];rw [W_s (by omega)];by_cases hok : s9 l[i]
        · rw [if_neg (by simp [hok])];have hc := a4B (l.take i) (a0N hok);rw [a5i] at hc;simp only [hc, Option.bind_some]
          have hcd : (if (((cnt (l.take i) l[i].At.Depot : Nat) : Int) != l[i].At.No) = true then some (Sum.inr (Sum.inr (81 : Int))) else some (Sum.inl ((i + 1 : Nat) : Int)) : Option (Sum Int (Sum Int Int))) = if ((cnt (l.take i) l[i].At.Depot : Nat) : Int) = l[i].At.No then some (.inl ((i + 1 : Nat) : Int)) else some (.inr (.inr 81)) := by
            by_cases hh : ((cnt (l.take i) l[i].At.Depot : Nat) : Int) = l[i].At.No <;> simp [hh]
          rw [hcd];by_cases h0 : i = 0
          · subst h0;rw [if_neg (by simp)];unfold a3Q;by_cases hh : ((cnt (l.take 0) l[0].At.Depot : Nat) : Int) = l[0].At.No
            · rw [if_pos hh, if_pos ⟨hok, by simp, hh⟩]
            · rw [if_neg hh, if_neg (fun hx => hh hx.2.2)]
          · rw [if_pos (by simp only [decide_eq_true_eq]; omega), a6B (by omega)];have hj : i - 1 < l.length := by omega
            have ej : ((i : Int) - 1) = ((i - 1 : Nat) : Int) := by omega
            have hg : (l.take i).getLast? = some l[i - 1] := by
              rw [List.getLast?_eq_getElem?, List.length_take, Nat.min_eq_left (by omega), List.getElem?_take, if_pos (by omega), List.getElem?_eq_getElem hj]
            rw [ej, V3 hj, Option.bind_some, b7m, Option.bind_some];unfold a3Q;rw [hg];by_cases hbf : Bef l[i - 1].At l[i].At
            · rw [if_neg (by simp [hbf])];by_cases hh : ((cnt (l.take i) l[i].At.Depot : Nat) : Int) = l[i].At.No
              · rw [if_pos hh, if_pos ⟨hok, by intro y hy; cases hy; exact hbf, hh⟩]
              · rw [if_neg hh, if_neg (fun hx => hh hx.2.2)]
            · rw [if_pos (by simp [hbf]), if_neg (fun hx => hbf (hx.2.1 _ rfl))]
        · rw [if_pos (by simp [hok]), if_neg (fun hx => hok hx.1)])
      (by unfold P5; dsimp only; rw [if_neg (by simp)])
    have e0 : q8 (P5 ⟨l⟩) 0 = _ := key;rw [e0, Option.bind_some];by_cases hb : N4 l
    · rw [if_pos hb]; simp [hb, h60]
    · rw [if_neg hb]; simp [hb]
  · rw [if_pos (by simp only [decide_eq_true_eq]; omega), if_neg (fun hx => h60 hx.1)]
end Go.Proofs.YtggdlgclohnbaaaGreatDoor
namespace Go.Proofs.YtggdlgclohnbaaaGreatDoor
open Go Go.Sx
theorem ltR (a b:b9):Go.Proofs.ltOf a7V a b=true↔Bef a.At b.At:=by
 unfold Go.Proofs.ltOf Bef;rw [decide_eq_true_iff];unfold a7V
 have hc:∀x y:Int,(a5c x y= -1∧x<y)∨(a5c x y=1∧y<x)∨(a5c x y=0∧x=y):=fun x y=>by
  unfold a5c;by_cases h1:x<y
  · exact .inl ⟨by rw [if_pos h1],h1⟩
  · by_cases h2:x>y
    · exact .inr (.inl ⟨by rw [if_neg h1,if_pos h2],h2⟩)
    · exact .inr (.inr ⟨by rw [if_neg h1,if_neg h2],by omega⟩)
 rcases hc a.At.Depot b.At.Depot with⟨e1,g1⟩|⟨e1,g1⟩|⟨e1,g1⟩<;>rcases hc a.At.No b.At.No with⟨e2,g2⟩|⟨e2,g2⟩|⟨e2,g2⟩<;>rw [e1,e2]<;>simp [orI]<;>omega
theorem O5 (l:List b9):(y8 l).Perm l:=by
 obtain⟨⟨h1,_,h3⟩,_⟩:=a5X l;have e1:(a2J l).extract 0 l.toArray.size=a2J l:=by rw [←h1];simp
 have e2:l.toArray.extract 0 l.toArray.size=l.toArray:=by simp
 rw [e1,e2]at h3;simpa [y8]using h3
theorem a1P.perm {l m:List b9} (h:a1P l) (p:l.Perm m):a1P m:=by
 unfold a1P at*;exact(p.pairwise_iff (fun {a b} (h:a.At≠b.At)=>h.symm)).1 h
theorem b2t {l:List b9} (h:a1P l):a4M (y8 l):=by
 have ho:a1P (y8 l):=h.perm (O5 l).symm;obtain⟨⟨h1,_,_⟩,h2⟩:=a5X l;unfold a1P at ho;unfold a4M;rw [List.pairwise_iff_getElem]at ho⊢;intro i j hi hj hij;have hne:=ho i j hi hj hij;have hs:(y8 l).length=(a2J l).size:=by simp [y8]
 have hlt:=h2 i j (Nat.zero_le _) hij (by rw [←h1];omega);have e1:(a2J l)[j]! =(y8 l)[j]:=by simp only [y8];rw [getElem!_pos (a2J l) j (by omega)];simp
 have e2:(a2J l)[i]! =(y8 l)[i]:=by simp only [y8];rw [getElem!_pos (a2J l) i (by omega)];simp
 rw [e1,e2]at hlt;have hn:¬Bef (y8 l)[j].At (y8 l)[i].At:=fun hb=>by rw [(ltR _ _).2 hb]at hlt;cases hlt
 rcases Bef.tri (y8 l)[i].At (y8 l)[j].At with g|g|g
 · exact g
 · exact absurd g hne
 · exact absurd g hn
theorem b1B {l m:List b9} (h:a4M m) (p:m.Perm l):y8 l=m:=by
 refine b3X (b2t (h.once.perm p)) h fun r=> ?_
 rw [(O5 l).mem_iff,p.mem_iff]
theorem b7S {l:List b9} (h:a4M l):y8 l=l:=b1B h (List.Perm.refl _)
def b2T:List b9→b9→List b9
 | [],r=> [r]
 |x::l,r=>if Bef x.At r.At then x::b2T l r else r::x::l
theorem a6w:∀(l:List b9) (r:b9),(b2T l r).Perm (r::l)
 | [],r=>List.Perm.refl _
 |x::l,r=>by
  unfold b2T;split
  · exact((a6w l r).cons x).trans (List.Perm.swap r x l)
  · exact List.Perm.refl _
theorem c3I (l:List b9) (r:b9):(b2T l r).length=l.length+1:=by simpa using (a6w l r).length_eq
theorem b3U:∀ {l:List b9} {r:b9},a4M l→(∀x∈l,x.At≠r.At)→a4M (b2T l r)
 | [],r,_,_=>List.pairwise_singleton _ _
 |x::l,r,h,hn=>by
  unfold a4M at h;obtain⟨h1,h2⟩:=List.pairwise_cons.1 h;unfold b2T;split
  · rename_i hb;refine List.pairwise_cons.2 ⟨fun y hy=> ?_,b3U h2 fun y hy=>hn y (List.mem_cons_of_mem _ hy)⟩;rcases List.mem_cons.1 ((a6w l r).mem_iff.1 hy)with e|hy
    · rw [e];exact hb
    · exact h1 y hy
  · rename_i hb
    have hx:Bef r.At x.At:=by
     rcases Bef.tri r.At x.At with g|g|g
     · exact g
     · exact absurd g.symm (hn x List.mem_cons_self)
     · exact absurd g hb
    refine List.pairwise_cons.2 ⟨fun y hy=> ?_,h⟩;rcases List.mem_cons.1 hy with e|hy
    · rw [e];exact hx
    · exact hx.trans (h1 y hy)
theorem c1E {l:List b9} {r:b9} (h:a4M l) (hn:∀x∈l,x.At≠r.At):y8 (l++ [r])=b2T l r:=
 b1B (b3U h hn) ((a6w l r).trans (List.perm_append_comm (l₁:= [r]) (l₂:=l)))
def a6z (l:List b9) (r:b9):Nat:=(l.takeWhile fun x=>decide (Bef x.At r.At)).length
theorem c5t (l:List b9) (r:b9):a6z l r≤l.length:=(List.takeWhile_sublist _).length_le
theorem b0J:∀(l:List b9) (r:b9),b2T l r=l.take (a6z l r)++ [r]++l.drop (a6z l r)
 | [],r=>rfl
 |x::l,r=>by
  unfold b2T a6z;by_cases hb:Bef x.At r.At
  · rw [if_pos hb,List.takeWhile_cons_of_pos (by simpa using hb),b0J l r]
    simp [a6z]
  · rw [if_neg hb,List.takeWhile_cons_of_neg (by simpa using hb)]
    simp
theorem b9N (r:b9):∀(l:List b9) (s:Nat),(match S5 (fun(s:Nat) (x:b9)=>if Bef x.At r.At then .inl (s+1)else(.inr s:Sum Nat Nat)) l s with| .inl s'=>(s':Int)| .inr s'=>(s':Int))=((s+a6z l r:Nat):Int)
 | [],s=>by simp [S5,a6z]
 |x::l,s=>by
  unfold S5 a6z;by_cases hb:Bef x.At r.At
  · rw [if_pos hb,List.takeWhile_cons_of_pos (by simpa using hb)]
    dsimp only;rw [b9N r l (s+1),List.length_cons];unfold a6z;congr 1;omega
  · rw [if_neg hb,List.takeWhile_cons_of_neg (by simpa using hb)]
    simp
theorem c2O (l:List b9) (r:b9) (hl:l.length≤1000000):a6j l r=some (b2T l r):=by
 unfold a6j
 have key:=a1n (body:=Q4 l r) l (by omega) (fun k (_:Nat)=>(k:Int)) (fun(s:Nat) (x:b9)=>if Bef x.At r.At then .inl (s+1)else(.inr s:Sum Nat Nat)) (fun s=>(s:Int)) (fun s=>(s:Int)) (fun pre s=>s=pre.length)
  (fun pre x post s hp hs=>by
   subst hp hs;unfold Q4;rw [if_pos (by simp only [decide_eq_true_eq];exact a9j),a4v,Option.bind_some,b7m,Option.bind_some,W_s (by simp at hl;omega)];by_cases hb:Bef x.At r.At
   · rw [if_pos (by simp [hb]),if_pos hb];exact⟨rfl,fun s' hs'=>by cases hs';simp⟩
   · rw [if_neg (by simp [hb]),if_neg hb];exact⟨rfl,fun s' hs'=>by cases hs'⟩)
  (fun s hs=>by subst hs;unfold Q4;rw [if_neg (by simp)]) 0 rfl
 have key2:q8 (Q4 l r) 0=_:=key
 have key3:q8 (Q4 l r) 0=some ((a6z l r:Nat):Int):=by
  rw [key2];have:=b9N r l 0;rw [Nat.zero_add]at this;generalize S5 (fun(s:Nat) (x:b9)=>if Bef x.At r.At then .inl (s+1)else(.inr s:Sum Nat Nat)) l 0=q at this⊢
  cases q<;>exact congrArg some this
 rw [key3,Option.bind_some];have hp:=c5t l r;rw [q9 (by omega),Option.bind_some,q9 (by omega),Option.bind_some,b0J];have e1:sub l 0 ((a6z l r:Nat):Int).toNat=l.take (a6z l r):=by unfold sub;simp
 have e2:sub l ((a6z l r:Nat):Int).toNat l.length=l.drop (a6z l r):=by unfold sub;rw [Int.toNat_natCast,List.take_of_length_le (by simp)]
 rw [e1,e2];have l1:(l.take (a6z l r)).length≤1000000:=by simp;omega
 have l2:(l.drop (a6z l r)).length≤1000000:=by simp;omega
 rw [q9 (by simp only [List.length_nil];omega),q9 (by simp only [List.nil_append,List.length_cons,List.length_nil];omega),q9 (by simp only [List.nil_append,List.length_append,List.length_cons,List.length_nil];omega),List.nil_append]
theorem Written.once {l:List b9} (h:Written l):a1P l:=by
 unfold a1P;rw [List.pairwise_iff_getElem];intro i j hi hj hij he;have a:=(h i _ (List.getElem?_eq_getElem hi)).2.2;have b:=(h j _ (List.getElem?_eq_getElem hj)).2.2;have hd:l[i].At.Depot=l[j].At.Depot:=by rw [he]
 have hn:l[i].At.No=l[j].At.No:=by rw [he]
 have e:cnt (l.take (i+1)) l[i].At.Depot=cnt (l.take i) l[i].At.Depot+1:=by
  rw [List.take_succ_eq_append_getElem hi,a0Y,if_pos rfl]
 have m:cnt (l.take (i+1)) l[i].At.Depot≤cnt (l.take j) l[i].At.Depot:=by
  have:l.take (i+1)=(l.take j).take (i+1):=by rw [List.take_take,Nat.min_eq_left (by omega)]
  rw [this];exact(List.take_sublist _ _).countP_le
 rw [←hd,←hn]at b;omega
end Go.Proofs.YtggdlgclohnbaaaGreatDoor
namespace Go.Proofs.YtggdlgclohnbaaaGreatDoor
open Go Go.Sx
theorem b9l (x y:Int):N6 x y=some (if x<y then-1 else if x>y then 1 else 0):=by
 unfold N6 Z6;simp only [bne_self_eq_false,Option.bind_some,Bool.false_eq_true,if_false,decide_eq_true_eq];by_cases h:x<y
 · simp [h]
 · by_cases h2:x>y<;>simp [h,h2]
theorem c7Z (a b:Int):a2e [a,b]=some (if a≠0 then a else b):=by
 unfold a2e
 have key:=a1n (body:=R3 [a,b]) [a,b] (by simp) (fun k (_:Unit)=>(k:Int)) (fun _ (x:Int)=>if x≠0 then(.inr x:Sum Unit Int)else .inl ()) (fun x=> .inr x) (fun _=> .inl 2) (fun _ _=>True)
  (fun pre x post s hp _=>by
   have hlen:pre.length≤1:=by
    have:=congrArg List.length hp;simp at this;omega
   rw [hp];unfold R3;rw [if_pos (by simp only [decide_eq_true_eq];exact a9j),a4v,Option.bind_some,W_s (by omega)];by_cases h:x=0
   · simp [h]
   · simp [h])
  (fun s _=>rfl) () trivial
 have key2:q8 (R3 [a,b]) 0=_:=key;rw [key2];by_cases ha:a=0
 · by_cases hb:b=0
   · simp [S5,ha,hb]
   · simp [S5,ha,hb]
 · simp [S5,ha]
theorem b5X (r:b9) (t:o5):V5 r t=some (if Bef r.At t then-1 else if r.At=t then 0 else 1):=by
 unfold V5 a1Q;simp only [b9l,Option.bind_some,c7Z];obtain⟨⟨d,n⟩,_⟩:=r;obtain⟨e,m⟩:=t;unfold Bef;simp only [o5.mk.injEq,Option.some.injEq];rcases Int.lt_trichotomy d e with h1|h1|h1
 · simp [h1]
 · subst h1;rcases Int.lt_trichotomy n m with h2|h2|h2
   · simp [h2]
   · simp [h2]
   · have a:¬n<m:=by omega
     have b:¬n=m:=by omega
     simp [h2,a,b]
 · have a:¬d<e:=by omega
   have b:¬d=e:=by omega
   simp [h1,a,b]
theorem c6z {z:Int} (h:0≤z∧z≤18446744073709551615):IntKind.u64.wrap z=z:=by
 simp only [IntKind.wrap,IntKind.signed,IntKind.bits];simp;omega
theorem c9W (i j:Nat) (h:i+j≤9223372036854775807):W ((IntKind.u64.wrap (W ((i:Int)+(j:Int)))).fdiv (2^(min (1:Int).toNat IntKind.u64.bits)))=(((i+j) / 2:Nat):Int):=by
 have e:(2:Int)^(min (1:Int).toNat IntKind.u64.bits)=2:=by decide
 rw [e,a6B (z:=(i:Int)+j) (by omega),c6z (by omega),Int.fdiv_eq_ediv_of_nonneg _ (by omega)];have e2:((i:Int)+j) / 2=(((i+j) / 2:Nat):Int):=by simp
 rw [e2,a6B (by omega)]
theorem c5q (l:List b9) (hl:l.length≤4611686018427387903) (hs:a4M l) (t:o5):∃i:Nat,W6 ⟨l⟩ t=some ((i:Int),decide (∃v,l[i]?=some v∧v.At=t))∧(∀v,v∈l→v.At=t→l[i]?=some v):=by
 unfold W6 m7;have hlt2:∀(i j:Nat) (hi:i<l.length) (hj:j<l.length),i<j→Bef l[i].At l[j].At:=fun i j hi hj hij=>List.pairwise_iff_getElem.1 hs i j hi hj hij
 have hmono:∀(i j:Nat) (hi:i<l.length) (hj:j<l.length),i≤j→Bef l[j].At t→Bef l[i].At t:=by
  intro i j hi hj hij hb;rcases Nat.lt_or_eq_of_le hij with h|h
  · exact(hlt2 i j hi hj h).trans hb
  · subst h;exact hb
 obtain⟨e,h1,i,h2,h3,h4,h5⟩:=a3J (body:=j9 l t) (fun st:Int×Int=>∃i j:Nat,st=((i:Int),(j:Int))∧i≤j∧j≤l.length∧(∀k (hk:k<l.length),k<i→Bef l[k].At t)∧(∀k (hk:k<l.length),j≤k→¬Bef l[k].At t))
  (fun st=>(st.2-st.1).toNat) (fun st=>∃i:Nat,st=((i:Int),(i:Int))∧i≤l.length∧(∀k (hk:k<l.length),k<i→Bef l[k].At t)∧(∀k (hk:k<l.length),i≤k→¬Bef l[k].At t)) (by
  rintro⟨_,_⟩ ⟨i,j,he,hij,hj,ha,hb⟩;cases he;unfold j9;by_cases hlt:i<j
  · right;have c:(i:Int)<(j:Int):=by omega
    have hm:(i+j) / 2<l.length:=by omega
    simp only [c,decide_true,if_true,c9W i j (by omega),V3 hm,Option.bind_some,b5X];by_cases hc:Bef l[(i+j) / 2].At t
    · refine⟨((((i+j) / 2+1:Nat):Int),(j:Int)), ?_,⟨(i+j) / 2+1,j,rfl,by omega,hj,fun k hk hki=> ?_,hb⟩,by simp only;omega⟩
      · simp only [hc,if_true,show decide ((-1:Int)<0)=true from rfl];rw [a6B (z:=(((i+j) / 2:Nat):Int)+1) (by omega)];rfl
      · exact hmono k ((i+j) / 2) hk hm (by omega) hc
    · refine⟨((i:Int),(((i+j) / 2:Nat):Int)), ?_,⟨i,(i+j) / 2,rfl,by omega,by omega,ha,fun k hk hki=> ?_⟩,by simp only;omega⟩
      · have:decide ((if l[(i+j) / 2].At=t then(0:Int)else 1)<0)=false:=by split<;>rfl
        simp only [hc,if_false,this,Bool.false_eq_true]
      · exact fun h=>hc (hmono ((i+j) / 2) k hm hk hki h)
  · left;have c:¬(i:Int)<(j:Int):=by omega
    obtain rfl:i=j:=by omega
    exact⟨_,by simp only [c,decide_false,Bool.false_eq_true,if_false],i,rfl,hj,ha,hb⟩) (0,(l.length:Int)) ⟨0,l.length,rfl,by omega,by omega,by omega,by omega⟩ (by unfold a2h;simp only;omega)
 subst h2;rw [h1];refine⟨i, ?_,fun v hv he=> ?_⟩
 · by_cases hi:i<l.length
   · have c:(i:Int)<(l.length:Int):=by omega
     have hge:=h5 i hi (Nat.le_refl _);simp only [Option.bind_some,c,decide_true,if_true,V3 hi,b5X,hge,if_false,List.getElem?_eq_getElem hi,Option.some.injEq,exists_eq_left'];by_cases he:l[i].At=t<;>simp [he]
   · have c:¬(i:Int)<(l.length:Int):=by omega
     simp only [Option.bind_some,c,decide_false,Bool.false_eq_true,if_false];rw [List.getElem?_eq_none (by omega)];simp
 · obtain⟨k,hk,rfl⟩:=List.getElem_of_mem hv;rcases Nat.lt_trichotomy k i with g|g|g
   · have:=h4 k hk g;rw [he]at this;exact absurd this (Bef.irr _)
   · subst g;exact List.getElem?_eq_getElem hk
   · have hi:i<l.length:=by omega
     have:=hlt2 i k hi hk g;rw [he]at this;exact absurd this (h5 i hi (Nat.le_refl _))
end Go.Proofs.YtggdlgclohnbaaaGreatDoor
namespace Go.Proofs.YtggdlgclohnbaaaGreatDoor
open Go Go.Sx
def fnd (l:List b9) (t:o5):Option b9:=l.find? fun v=>decide (v.At=t)
theorem a1I {l:List b9} {t:o5} {v:b9} (h:fnd l t=some v):v∈l∧v.At=t:=
 ⟨List.mem_of_find?_eq_some h,by simpa using List.find?_some h⟩
theorem a5u {l:List b9} {t:o5} (h:fnd l t=none):∀v∈l,v.At≠t:=fun v hv=>by
 have:=List.find?_eq_none.1 h v hv;simpa using this
theorem c3c (l:List b9) (hl:l.length≤1000000) (hs:a4M l) (t:o5):∃i:Int,W6 ⟨l⟩ t=some (i,(fnd l t).isSome)∧∀v,fnd l t=some v→idx l i=some v:=by
 obtain⟨i,h1,h2⟩:=c5q l (by omega) hs t;refine⟨(i:Int), ?_,fun v hv=> ?_⟩
 · rw [h1];congr 2;cases hf:fnd l t with
   |none=>
    have hn:=a5u hf;simp only [Option.isSome_none,decide_eq_false_iff_not];rintro⟨v,hv,he⟩;exact hn v (List.mem_of_getElem? hv) he
   |some v=>
    obtain⟨g1,g2⟩:=a1I hf;simp only [Option.isSome_some,decide_eq_true_eq];exact⟨v,h2 v g1 g2,g2⟩
 · obtain⟨g1,g2⟩:=a1I hv;have h3:=h2 v g1 g2;obtain⟨hi,he⟩:=List.getElem?_eq_some_iff.1 h3;rw [V3 hi,he]
theorem b6H (t:o5):∀(l:List b9) (s:Nat),(match S5 (fun(s:Nat) (x:b9)=>if x.At=t then(.inr s:Sum Nat Nat)else .inl (s+1)) l s with| .inl _=>fnd l t=none| .inr k=>∃v,fnd l t=some v∧s≤k∧l[k-s]?=some v)
 | [],s=>rfl
 |x::l,s=>by
  unfold S5;by_cases h:x.At=t
  · rw [if_pos h];exact⟨x,by simp [fnd,h],Nat.le_refl _,by simp⟩
  · rw [if_neg h];have ih:=b6H t l (s+1);have e:fnd (x::l) t=fnd l t:=by simp [fnd,h]
    rw [e];dsimp only;generalize S5 (fun(s:Nat) (x:b9)=>if x.At=t then(.inr s:Sum Nat Nat)else .inl (s+1)) l (s+1)=q at ih⊢
    cases q with
    |inl _=>exact ih
    |inr k=>
     obtain⟨v,a,b,c⟩:=ih;refine⟨v,a,by omega, ?_⟩;have:k-s=(k-(s+1))+1:=by omega
     rw [this,List.getElem?_cons_succ];exact c
theorem c0L (l:List b9) (hl:l.length≤1000000) (t:o5):∃z:Int,a4o l t=some z∧(fnd l t=none→z= -1)∧∀v,fnd l t=some v→0≤z∧idx l z=some v:=by
 unfold a4o
 have key:=a1n (body:=R8 l t) l (by omega) (fun k (_:Nat)=>(k:Int)) (fun(s:Nat) (x:b9)=>if x.At=t then(.inr s:Sum Nat Nat)else .inl (s+1)) (fun s=> .inr (s:Int)) (fun s=> .inl (s:Int)) (fun pre s=>s=pre.length)
  (fun pre x post s hp hs=>by
   subst hp hs;unfold R8;rw [if_pos (by simp only [decide_eq_true_eq];exact a9j),a4v,Option.bind_some,c2L,W_s (by simp at hl;omega)];by_cases hb:x.At=t
   · rw [if_pos (by simp [hb]),if_pos hb];exact⟨rfl,fun s' hs'=>by cases hs'⟩
   · rw [if_neg (by simp [hb]),if_neg hb];exact⟨rfl,fun s' hs'=>by cases hs';simp⟩)
  (fun s hs=>by subst hs;unfold R8;rw [if_neg (by simp)]) 0 rfl
 have key2:q8 (R8 l t) 0=_:=key;rw [key2,Option.bind_some];have hr:=b6H t l 0;generalize S5 (fun(s:Nat) (x:b9)=>if x.At=t then(.inr s:Sum Nat Nat)else .inl (s+1)) l 0=q at hr⊢
 cases q with
 |inl _=>exact⟨-1,rfl,fun _=>rfl,fun v hv=>by rw [hr]at hv;cases hv⟩
 |inr k=>
  obtain⟨v,a,_,c⟩:=hr;refine⟨(k:Int),rfl,(fun h=>by rw [a]at h;cases h),fun v' hv'=> ?_⟩;rw [a]at hv';cases hv';rw [Nat.sub_zero]at c;obtain⟨hi,he⟩:=List.getElem?_eq_some_iff.1 c;exact⟨by omega,by rw [V3 hi,he]⟩
end Go.Proofs.YtggdlgclohnbaaaGreatDoor
namespace Go.Proofs.YtggdlgclohnbaaaGreatDoor
open Go Go.Sx
def Z1 (l:List b9) (r:b9):Bool×Int:=
 match fnd l r.At with
 |some v=>if v=r then(false,0)else(false,82)
 |none=>if((cnt l r.At.Depot:Nat):Int)<r.At.No then(false,83)else if l.length=60 then(false,2)else(true,0)
theorem c0e (l:List b9) (r:b9) (hl:l.length≤1000000) (hd:∀r∈l,w7 r.At.Depot) (hs:r.Text.size≤9223372036854775807):a4F l r=some (if s9 r then Z1 l r else(false,80)):=by
 unfold a4F Z1;rw [a5S _ hs,Option.bind_some];by_cases hr:s9 r
 · obtain⟨z,h1,h2,h3⟩:=c0L l hl r.At;rw [if_neg (by simp [hr]),if_pos hr,h1,Option.bind_some];cases hf:fnd l r.At with
   |some v=>
    obtain⟨g1,g2⟩:=h3 v hf;rw [if_pos (by simpa using g1),g2,Option.bind_some,b4H]
    dsimp only;by_cases hv:v=r
    · rw [if_pos (by simp [hv]),if_pos hv]
    · rw [if_neg (by simp [hv]),if_neg hv]
   |none=>
    have hz:=h2 hf;subst hz;have hc:=a4B l (a0N hr);rw [a5i]at hc;rw [if_neg (by decide),c0p l hl hd,Option.bind_some,hc,Option.bind_some];dsimp only;by_cases h4:((cnt l r.At.Depot:Nat):Int)<r.At.No
    · rw [if_pos (by simpa using h4),if_pos h4]
    · rw [if_neg (by simpa using h4),if_neg h4]
      by_cases h5:l.length=60
      · rw [if_pos (by simp [h5]),if_pos h5]
      · rw [if_neg (by simp only [beq_iff_eq];omega),if_neg h5]
 · rw [if_pos (by simp [hr]),if_neg hr]
theorem c4v (b:B3) (r:b9) (hb:b.Records.length≤9223372036854775800) (hs:∀r∈b.Records,r.Text.size≤9223372036854775807) (hr:r.Text.size≤9223372036854775807):
 ∃x,S9 b r=some x∧a6g b r=some x∧x.1.Records.length≤61:=by
 obtain⟨l⟩:=b;dsimp only at hb hs;unfold S9 a6g;rw [isBook_eq _ hb hs,Check_eq _ hs,N8 _ hr];simp only [Option.bind_some];by_cases h:a7j l
 · have hl:=h.1;have hd:∀r∈l,w7 r.At.Depot:=fun r hr=>h.2.dep hr
   rw [c0e l r (by omega) hd hr];simp only [h,decide_true,Bool.not_true,Bool.false_eq_true,if_true,if_false,bne_self_eq_false,Option.bind_some];by_cases hk:s9 r
   · simp only [hk,decide_true,Bool.not_true,Bool.false_eq_true,if_true,if_false];obtain⟨i,h1,h2⟩:=c3c l (by omega) h.2.rise r.At;rw [h1,Option.bind_some];dsimp only;cases hf:fnd l r.At with
     |some v=>
      rw [if_pos (show(some v).isSome=true from rfl),h2 v hf,Option.bind_some,b4H]
      skip
      by_cases hv:v=r
      · have ha:Z1 l r=(false,0):=by unfold Z1;rw [hf];exact if_pos hv
        rw [if_pos (by simp [hv]),ha];unfold w8;rw [q9 (by omega),Option.bind_some,b7S h.2.rise];refine⟨_,rfl, ?_,by dsimp only;omega⟩;dsimp only;rw [if_neg (by decide),if_pos (show(!false)=true from rfl),q9 (by simp only [List.length_nil];omega)];rfl
      · have ha:Z1 l r=(false,82):=by unfold Z1;rw [hf];exact if_neg hv
        rw [if_neg (by simp [hv]),ha];exact⟨_,rfl,rfl,by simp⟩
     |none=>
      have hn:=a5u hf;have hc:=a4B l (a0N hk);rw [a5i]at hc;rw [if_neg (by simp),a3q l (by omega) hd,Option.bind_some,hc,Option.bind_some]
      skip
      by_cases h4:((cnt l r.At.Depot:Nat):Int)<r.At.No
      · have ha:Z1 l r=(false,83):=by unfold Z1;rw [hf];exact if_pos h4
        rw [if_pos (by simpa using h4),ha]
        exact⟨_,rfl,rfl,by simp⟩
      · rw [if_neg (by simpa using h4)]
        by_cases h5:l.length=60
        · have ha:Z1 l r=(false,2):=by unfold Z1;rw [hf];dsimp only;rw [if_neg h4,if_pos h5]
          rw [if_pos (by simp [h5]),ha];exact⟨_,rfl,rfl,by simp⟩
        · have ha:Z1 l r=(true,0):=by unfold Z1;rw [hf];dsimp only;rw [if_neg h4,if_neg h5]
          rw [if_neg (by simp only [beq_iff_eq];omega),ha];unfold j0 w8;rw [q9 (by omega),Option.bind_some,q9 (by simp only [List.length_cons,List.length_nil];omega),q9 (by simp only [List.length_append,List.length_cons,List.length_nil];omega),Option.bind_some,c1E h.2.rise hn];refine⟨_,rfl, ?_,by dsimp only;rw [c3I];omega⟩;dsimp only;rw [if_neg (by decide),if_neg (by decide),c2O l r (by omega)];rfl
   · simp only [hk,decide_false,Bool.not_false,if_true,if_false,show((80:Int) !=0)=true from rfl];exact⟨_,rfl,rfl,by simp⟩
 · simp only [h,decide_false,Bool.not_false,if_true,if_false,show((81:Int) !=0)=true from rfl];exact⟨_,rfl,rfl,by simp⟩
end Go.Proofs.YtggdlgclohnbaaaGreatDoor
namespace Go.Proofs.YtggdlgclohnbaaaGreatDoor
open Go Go.Sx
abbrev N5:=Int×Int×Int×Int×Int
def I64 (x:Int):Prop:= -9223372036854775808≤x∧x≤9223372036854775807
def c9l (n:N5):Prop:=I64 n.1∧I64 n.2.1∧I64 n.2.2.1∧I64 n.2.2.2.1∧I64 n.2.2.2.2
theorem c3g (n:Int) (h:I64 n):∃t,a3l n=some t∧a2O t:=by
 unfold a3l;rw [a3v n 6 h (by omega),Option.bind_some];have hc:n % 6=0∨n % 6=1∨n % 6=2∨n % 6=3∨n % 6=4∨n % 6=5:=by omega
 rcases hc with e|e|e|e|e|e<;>rw [e]<;>exact⟨_,rfl,by decide+kernel⟩
end Go.Proofs.YtggdlgclohnbaaaGreatDoor
namespace Go.Proofs.YtggdlgclohnbaaaGreatDoor
open Go Go.Sx
def low (l:List b9) (d n:Int):Nat:=l.countP fun r=>r.At.Depot==d&&decide (r.At.No<n)
theorem c2z (l:List b9) (r:b9) (d n:Int):low (l++ [r]) d n=low l d n+if r.At.Depot=d∧r.At.No<n then 1 else 0:=by
 unfold low;rw [List.countP_append,List.countP_singleton];congr 1;by_cases a:r.At.Depot=d<;>by_cases b:r.At.No<n<;>simp [a,b]
theorem Written.pre {l:List b9} {r:b9} (h:Written (l++ [r])):Written l∧s9 r∧P1 l r:=by
 refine⟨fun i x hx=> ?_, ?_⟩
 · obtain⟨hi,rfl⟩:=List.getElem?_eq_some_iff.1 hx;have:=h i l[i] (by rw [List.getElem?_append_left hi,hx]);rwa [List.take_append_of_le_length (Nat.le_of_lt hi)]at this
 · have:=h l.length r (by simp);simpa using this
theorem Written.low:∀(k:Nat) {l:List b9},l.length=k→Written l→(∀r∈l,r.At.No<((cnt l r.At.Depot:Nat):Int))∧∀(d:Int) (n:Nat),n≤cnt l d→low l d n=n
 |0,l,hk,_=>by
  obtain rfl:=List.length_eq_zero_iff.1 hk;exact⟨by simp,fun d n hn=>by rw [c0n]at hn;unfold Proofs.YtggdlgclohnbaaaGreatDoor.low;simp;omega⟩
 |k+1,l,hk,h=>by
  rcases List.eq_nil_or_concat l with rfl|⟨L,b,rfl⟩
  · simp at hk
  · rw [List.concat_eq_append]at h hk⊢;obtain⟨h1,h2,h3,h4⟩:=h.pre;obtain⟨f1,f2⟩:=Written.low k (by simpa using hk) h1
    refine⟨fun r hr=> ?_,fun d n hn=> ?_⟩
    · rw [a0Y];rcases List.mem_append.1 hr with hr|hr
      · have:=f1 r hr;split<;>omega
      · obtain rfl:=List.mem_singleton.1 hr;rw [if_pos rfl];omega
    · rw [a0Y]at hn;rw [c2z];by_cases a:b.At.Depot=d
      · rw [if_pos a]at hn;rw [a]at h4;rcases Nat.lt_or_ge (cnt L d) n with g|g
        · obtain rfl:n=cnt L d+1:=by omega
          rw [if_pos ⟨a,by omega⟩]
          have e:Proofs.YtggdlgclohnbaaaGreatDoor.low L d ((cnt L d+1:Nat):Int)=Proofs.YtggdlgclohnbaaaGreatDoor.low L d ((cnt L d:Nat):Int):=by
           unfold Proofs.YtggdlgclohnbaaaGreatDoor.low;apply List.countP_congr;intro x hx;have:=f1 x hx;simp only [Bool.and_eq_true,beq_iff_eq,decide_eq_true_eq];constructor
           · rintro⟨a1,_⟩;rw [a1]at this;exact⟨a1,this⟩
           · rintro⟨a1,a2⟩;exact⟨a1,by omega⟩
          rw [e,f2 d _ (Nat.le_refl _)]
        · rw [if_neg (by omega),f2 d n g,Nat.add_zero]
      · rw [if_neg a]at hn;rw [if_neg (fun x=>a x.1),f2 d n (by omega),Nat.add_zero]
theorem a9E {l:List b9} (h:Written l):a7j (y8 l):=by
 have hp:=O5 l;have hr:=b2t h.once;obtain⟨f1,f2⟩:=Written.low _ rfl h;refine⟨by rw [hp.length_eq];exact h.len,fun i r hi=> ?_⟩;obtain⟨hlt,rfl⟩:=List.getElem?_eq_some_iff.1 hi;have hm:(y8 l)[i]∈l:=hp.mem_iff.1 (List.getElem_mem hlt);refine⟨h.rec hm,fun y hy=> ?_, ?_⟩
 · have hj:0<i:=by
    rcases Nat.eq_zero_or_pos i with e|e
    · subst e;simp at hy
    · exact e
   rw [List.getLast?_eq_getElem?,List.length_take,Nat.min_eq_left (by omega),List.getElem?_take,if_pos (by omega)]at hy;obtain⟨_,rfl⟩:=List.getElem?_eq_some_iff.1 hy;exact List.pairwise_iff_getElem.1 hr (i-1) i (by omega) hlt (by omega)
 · have hno:0≤(y8 l)[i].At.No:=(h.rec hm).1.2.1;have hl:=f1 _ hm;obtain⟨k,hk⟩:∃k:Nat,(y8 l)[i].At.No=(k:Int):=⟨(y8 l)[i].At.No.toNat,by omega⟩;have hlow:=f2 (y8 l)[i].At.Depot k (by omega);have e1:low (y8 l) (y8 l)[i].At.Depot k=low l (y8 l)[i].At.Depot k:=hp.countP_eq _
   have e2:low (y8 l) (y8 l)[i].At.Depot k=cnt ((y8 l).take i) (y8 l)[i].At.Depot:=by
    unfold low cnt
    have key:∀p:b9→Bool,(y8 l).countP p=((y8 l).take i).countP p+((y8 l).drop i).countP p:=fun p=>by
     rw [←List.countP_append,List.take_append_drop]
    rw [key]
    have z:((y8 l).drop i).countP (fun r=>r.At.Depot==(y8 l)[i].At.Depot&&decide (r.At.No<(k:Int)))=0:=by
     rw [List.countP_eq_zero];intro x hx;obtain⟨j,hj,rfl⟩:=List.mem_drop_iff_getElem.1 hx;simp only [Bool.and_eq_true,beq_iff_eq,decide_eq_true_eq];rintro⟨a1,a2⟩;rcases Nat.eq_zero_or_pos j with e|e
     · subst e;simp only [Nat.add_zero]at a2;omega
     · have:=List.pairwise_iff_getElem.1 hr i (i+j) hlt (by omega) (by omega);unfold Bef at this;omega
    rw [z,Nat.add_zero];apply List.countP_congr;intro x hx;obtain⟨j,hj,rfl⟩:=List.mem_take_iff_getElem.1 hx;have:=List.pairwise_iff_getElem.1 hr j i (by omega) hlt (by omega);unfold Bef at this;simp only [Bool.and_eq_true,beq_iff_eq,decide_eq_true_eq];constructor
    · exact fun a=>a.1
    · exact fun a=>⟨a,by omega⟩
   rw [←e2,e1,hlow,hk]
theorem b9A {G:List b9} (h:a1P G) {x y:b9} (hx:x∈G) (hy:y∈G) (e:x.At=y.At):x=y:=by
 obtain⟨i,hi,rfl⟩:=List.getElem_of_mem hx;obtain⟨j,hj,rfl⟩:=List.getElem_of_mem hy;have hp:=List.pairwise_iff_getElem.1 h;rcases Nat.lt_trichotomy i j with g|g|g
 · exact absurd e (hp i j hi hj g)
 · subst g;rfl
 · exact absurd e.symm (hp j i hj hi g)
end Go.Proofs.YtggdlgclohnbaaaGreatDoor
namespace Go.Proofs.YtggdlgclohnbaaaGreatDoor
open Go Go.Sx
theorem U1 (n:Int) (h0:0≤n) (h1:n≤100000):(P8 n).size≤6:=by
 obtain⟨u,rfl⟩:∃u:Nat,n=(u:Int):=⟨n.toNat,by omega⟩;unfold P8;rw [S0,Lib.itoa_nonneg];exact c4K (by omega) (by omega)
theorem a8U {r:b9} (h:s9 r):1≤(C5 r).size∧(C5 r).size≤216:=by
 have hn:=a8u h;simp only [a0X,List.mem_cons,List.not_mem_nil,or_false,forall_eq_or_imp,forall_eq]at hn;obtain⟨n1,n2,n3,n4,n5,n6,n7⟩:=hn;have s1:=U1 r.At.Depot n1.1 n1.2;have s2:=U1 r.At.No n2.1 n2.2;have s3:=U1 r.Kind n3.1 n3.2;have s4:=U1 r.Day n4.1 n4.2;have s5:=U1 r.Known n5.1 n5.2;have s6:=U1 r.Of.Depot n6.1 n6.2;have s7:=U1 r.Of.No n7.1 n7.2;have hs:(⟨#[32]⟩:ByteArray).size=1:=rfl;have ht:=P2 h;rw [c0b];generalize P8 r.At.Depot=x1 at s1⊢;generalize P8 r.At.No=x2 at s2⊢;generalize P8 r.Kind=x3 at s3⊢;generalize P8 r.Day=x4 at s4⊢;generalize P8 r.Known=x5 at s5⊢;generalize P8 r.Of.Depot=x6 at s6⊢;generalize P8 r.Of.No=x7 at s7⊢;generalize r.Text=x8 at ht⊢;generalize (⟨#[32]⟩:ByteArray)=sp at hs⊢;simp only [ByteArray.size_append,hs];omega
theorem b7I (s:ByteArray) (i:Nat):(a3D s i).size=min s.size (24*(i+1))-24*i:=by
 unfold a3D;rw [ByteArray.size_extract];omega
theorem b0P {r:b9} (h:s9 r) {k i:Nat} (hk:k≤59) (hi:i<A2 (C5 r).size):C8 (a0z (C5 r) (k:Int) i):=by
 obtain⟨h1,h2⟩:=a8U h;have hp:=b7I (C5 r) i;unfold C8 a0z;dsimp only;unfold A2 at hi⊢;omega
theorem b9S {c:e8}:∀(F:List b9) (k:Nat),c∈ofK (k:Int) F↔∃(j i:Nat) (r:b9),F[j]?=some r∧i<A2 (C5 r).size∧c=a0z (C5 r) ((k+j:Nat):Int) i
 | [],k=>by simp [ofK]
 |x::F,k=>by
  have e:((k:Int)+1)=((k+1:Nat):Int):=rfl;unfold ofK;rw [List.mem_append,e,b9S F (k+1)];constructor
  · rintro(h|⟨j,i,r,h1,h2,h3⟩)
    · unfold a0F at h;obtain⟨i,hi,rfl⟩:=List.mem_map.1 h;exact⟨0,i,x,rfl,List.mem_range.1 hi,rfl⟩
    · exact⟨j+1,i,r,by simpa using h1,h2,by rw [h3];congr 1;omega⟩
  · rintro⟨j,i,r,h1,h2,h3⟩;cases j with
    |zero=>
     left;simp at h1;subst h1;unfold a0F;exact List.mem_map.2 ⟨i,List.mem_range.2 h2,h3.symm⟩
    |succ j=>
     right;exact⟨j,i,r,by simpa using h1,h2,by rw [h3];congr 1;omega⟩
theorem b0A {c:e8} (F:List b9):c∈ofF F↔∃(j i:Nat) (r:b9),F[j]?=some r∧i<A2 (C5 r).size∧c=a0z (C5 r) (j:Int) i:=by
 have:=b9S (c:=c) F 0;unfold ofF;simpa using this
theorem a7M {l:List e8} {F:List b9} (hF:Written F) (hl:∀c∈l,C8 c→c∈ofF F) {j i:Nat} {r:b9} (hj:F[j]?=some r) (hi:i<A2 (C5 r).size) (q:Int) (hq:q=0∨q=((A2 (C5 r).size:Nat):Int)):
 Y4 l (j:Int) (i:Int) q=if a0z (C5 r) (j:Int) i∈l then some (a0z (C5 r) (j:Int) i)else none:=by
 have hlen:=hF.len;obtain⟨hjl,hje⟩:=List.getElem?_eq_some_iff.1 hj;have hr:s9 r:=hF.rec (List.mem_of_getElem? hj)
 have uniq:∀c∈l,C8 c→c.No=(j:Int)→c.Part=(i:Int)→c=a0z (C5 r) (j:Int) i:=by
  intro c hc h0 h1 h2;obtain⟨j',i',r',g1,g2,rfl⟩:=(b0A F).1 (hl c hc h0);have e1:j'=j:=by have:(j':Int)=(j:Int):=h1;omega
  have e2:i'=i:=by have:(i':Int)=(i:Int):=h2;omega
  subst e1 e2;rw [hj]at g1;cases g1;rfl
 unfold Y4;by_cases hm:a0z (C5 r) (j:Int) i∈l
 · rw [if_pos hm];cases hf:l.find? (fun c=>decide (C8 c∧c.No=(j:Int)∧c.Part=(i:Int)∧(q=0∨c.Parts=q)))with
   |none=>
    have:=List.find?_eq_none.1 hf _ hm;refine absurd (decide_eq_true ?_) this;exact⟨b0P hr (by omega) hi,rfl,rfl,hq.imp id fun h=>h.symm⟩
   |some c=>
    have h0:=List.find?_some hf;have h1:=of_decide_eq_true h0;rw [uniq c (List.mem_of_find?_eq_some hf) h1.1 h1.2.1 h1.2.2.1]
 · rw [if_neg hm,List.find?_eq_none];intro c hc h1;have h1:=of_decide_eq_true h1;have:=uniq c hc h1.1 h1.2.1 h1.2.2.1;rw [this]at hc;exact hm hc
end Go.Proofs.YtggdlgclohnbaaaGreatDoor
namespace Go.Proofs.YtggdlgclohnbaaaGreatDoor
open Go Go.Sx
theorem c0R (s:ByteArray) (i:Nat):a3D s i++s.extract (24*(i+1)) s.size=s.extract (24*i) s.size:=by
 unfold a3D;apply ByteArray.ext;apply Array.ext';have hsz:s.size=s.data.toList.length:=S0 s;simp only [ByteArray.data_append,ByteArray.data_extract,Array.toList_append,Array.toList_extract,List.extract];generalize s.data.toList=l at hsz⊢;rw [hsz];rcases Nat.lt_or_ge (24*(i+1)) l.length with h|h
 · rw [Nat.min_eq_right (by omega)];have e1:l.drop (24*(i+1))=(l.drop (24*i)).drop 24:=by rw [List.drop_drop];rfl
   have e2:24*(i+1)-24*i=24:=by omega
   rw [e2,e1,List.take_of_length_le (l:=(l.drop (24*i)).drop 24) (by simp;omega),List.take_append_drop,List.take_of_length_le (by simp)]
 · rw [Nat.min_eq_left (by omega),List.drop_eq_nil_of_le h];simp
theorem c4D (s:ByteArray) (a:Nat) (h:s.size≤a):s.extract a s.size=⟨#[]⟩:=by
 apply ByteArray.ext;apply Array.ext';simp only [ByteArray.data_extract,Array.toList_extract,List.extract];rw [List.drop_eq_nil_of_le (by rw [←S0];exact h)];simp
theorem c4I (s:ByteArray):s.extract 0 s.size=s:=by
 apply ByteArray.ext;apply Array.ext';simp only [ByteArray.data_extract,Array.toList_extract,List.extract];rw [List.drop_zero,List.take_of_length_le (by rw [←S0];omega)]
section
variable {l : List e8} {F : List b9} {j : Nat} {r : b9}
theorem a9z (hF:Written F) (hl:∀c∈l,C8 c→c∈ofF F) (hj:F[j]?=some r):∀(n i:Nat),i+n=A2 (C5 r).size→(∀k,i≤k→k<A2 (C5 r).size→a0z (C5 r) (j:Int) k∈l)→a1A l (j:Int) ((A2 (C5 r).size:Nat):Int) n (i:Int)=some ((C5 r).extract (24*i) (C5 r).size)
 |0,i,hi,_=>by
  rw [c4D _ _ (by unfold A2 at hi;omega)];rfl
 |n+1,i,hi,h=>by
  have e:((i:Int)+1)=((i+1:Nat):Int):=rfl;unfold a1A;rw [a7M hF hl hj (by omega) _ (.inr rfl),if_pos (h i (Nat.le_refl _) (by omega)),e];dsimp only;rw [a9z hF hl hj n (i+1) (by omega) fun k hk hk2=>h k (by omega) hk2];exact congrArg some (c0R _ _)
theorem a9S (hF:Written F) (hl:∀c∈l,C8 c→c∈ofF F) (hj:F[j]?=some r):∀(n i:Nat),i+n=A2 (C5 r).size→(∃k,i≤k∧k<A2 (C5 r).size∧a0z (C5 r) (j:Int) k∉l)→a1A l (j:Int) ((A2 (C5 r).size:Nat):Int) n (i:Int)=none
 |0,i,hi,⟨k,h1,h2,_⟩=>by omega
 |n+1,i,hi,⟨k,h1,h2,h3⟩=>by
  have e:((i:Int)+1)=((i+1:Nat):Int):=rfl;unfold a1A;rw [a7M hF hl hj (by omega) _ (.inr rfl),e];by_cases hm:a0z (C5 r) (j:Int) i∈l
  · rw [if_pos hm];dsimp only;have:i≠k:=fun h=>h3 (h▸hm)
    rw [a9S hF hl hj n (i+1) (by omega) ⟨k,by omega,h2,h3⟩]
  · rw [if_neg hm]
theorem c1m (hF:Written F) (hl:∀c∈l,C8 c→c∈ofF F) (hj:F[j]?=some r) (h:∀k,k<A2 (C5 r).size→a0z (C5 r) (j:Int) k∈l):a4g l (j:Int)=some (C5 r):=by
 have hr:s9 r:=hF.rec (List.mem_of_getElem? hj);have hp:0<A2 (C5 r).size:=by have:=(a8U hr).1;unfold A2;omega
 have h0:=a7M hF hl hj hp 0 (.inl rfl);rw [if_pos (h 0 hp)]at h0;have h0:Y4 l (j:Int) 0 0=_:=h0;unfold a4g;rw [h0];have:=a9z hF hl hj (A2 (C5 r).size) 0 (by omega) fun k _ hk=>h k hk
 rw [Nat.mul_zero,c4I]at this;exact this
theorem c1Y (hF:Written F) (hl:∀c∈l,C8 c→c∈ofF F) (hj:F[j]?=some r) (h:∃k,k<A2 (C5 r).size∧a0z (C5 r) (j:Int) k∉l):a4g l (j:Int)=none:=by
 have hr:s9 r:=hF.rec (List.mem_of_getElem? hj);have hp:0<A2 (C5 r).size:=by have:=(a8U hr).1;unfold A2;omega
 have h0:=a7M hF hl hj hp 0 (.inl rfl);have h0:Y4 l (j:Int) 0 0=_:=h0;unfold a4g;rw [h0];obtain⟨k,h1,h2⟩:=h;have:=a9S hF hl hj (A2 (C5 r).size) 0 (by omega) ⟨k,Nat.zero_le _,h1,h2⟩;split
 · rfl
 · rename_i c hc;split at hc
   · cases hc;exact this
   · cases hc
theorem c3H (hl:∀c∈l,C8 c→c∈ofF F) (hj:F.length≤j):a4g l (j:Int)=none:=by
 have:Y4 l (j:Int) 0 0=none:=by
  unfold Y4;rw [List.find?_eq_none];intro c hc h1;have h1:=of_decide_eq_true h1;obtain⟨j',i',r',g1,g2,rfl⟩:=(b0A F).1 (hl c hc h1.1);have e1:(j':Int)=(j:Int):=h1.2.1;have:=(List.getElem?_eq_some_iff.1 g1).1;omega
 unfold a4g;rw [this]
end
theorem c3t {l:List e8} {F:List b9} (hF:Written F) (hl:∀c∈l,C8 c→c∈ofF F) (m:Nat) (hm:m≤F.length)
 (hall:∀(j:Nat) (r:b9),j<m→F[j]?=some r→∀k,k<A2 (C5 r).size→a0z (C5 r) (j:Int) k∈l)
 (hmiss:∀r,F[m]?=some r→∃k,k<A2 (C5 r).size∧a0z (C5 r) (m:Int) k∉l):a4W l=F.take m:=by
 have hlen:=hF.len
 have key:∀(n k:Nat),k≤m→m-k<n→a4f l n (F.take k)=F.take m:=by
  intro n
  induction n with
  |zero=>intro k _ h;omega
  |succ n ih=>
   intro k hk hn;have hkl:(F.take k).length=k:=by simp;omega
   unfold a4f;rw [hkl];rcases Nat.lt_or_ge k m with h|h
   · have hkF:k<F.length:=by omega
     have hj:F[k]?=some F[k]:=List.getElem?_eq_getElem hkF;have hw:=hF k _ hj;rw [c1m hF hl hj (hall k _ h hj)];dsimp only;rw [b2f hw.1];dsimp only;rw [if_pos hw.2,←List.take_succ_eq_append_getElem hkF];exact ih (k+1) h (by omega)
   · obtain rfl:k=m:=by omega
     cases hj:F[k]? with
     |none=>rw [c3H hl (by have:=List.getElem?_eq_none_iff.1 hj;exact this)]
     |some r=>rw [c1Y hF hl hj (hmiss r hj)]
 exact key 61 0 (Nat.zero_le _) (by omega)
end Go.Proofs.YtggdlgclohnbaaaGreatDoor
namespace Go.Proofs.YtggdlgclohnbaaaGreatDoor
open Go Go.Sx
open Classical in theorem have_eq (b : m9) (w : List b9) (hb : (b.Thread.length + b.Loose.length) * 48 ≤ 140737488355328) (hl : w.length ≤ 9223372036854775800) (hs : ∀ r ∈ w, r.Text.size ≤ 9223372036854775807) : Q5 b w = some (decide (Written w ∧ b.Thread ++ b.Loose = ofF w)) := by
  unfold Q5;rw [areWritten_eq w hl hs, Option.bind_some];by_cases h : Written w
  · have := h.len;rw [if_pos (by simp [h]), a8g b hb, Option.bind_some, c2i w (fun r hr => h.rec hr) (by omega), Option.bind_some, b6E _ _ (by rw [List.length_append]; omega), Option.bind_some];simp [h]
  · rw [if_neg (by simp [h])];simp [h]
end Go.Proofs.YtggdlgclohnbaaaGreatDoor
namespace Go.Proofs.YtggdlgclohnbaaaGreatDoor
open Go Go.Sx
theorem b4p (r:b9):∀(l:List b9) (s:Nat),(match S5 (fun(s:Nat) (x:b9)=>if r=x then(.inr s:Sum Nat Nat)else .inl (s+1)) l s with| .inl _=>decide (r∈l)=false| .inr _=>decide (r∈l)=true)
 | [],s=>by simp [S5]
 |x::l,s=>by
  unfold S5;by_cases h:r=x
  · rw [if_pos h];simp [h]
  · rw [if_neg h];have ih:=b4p r l (s+1);dsimp only;generalize S5 (fun(s:Nat) (x:b9)=>if r=x then(.inr s:Sum Nat Nat)else .inl (s+1)) l (s+1)=q at ih⊢
    cases q<;>simpa [h]using ih
theorem b5Q (l:List b9) (hl:l.length≤1000000) (r:b9):r6 l r=some (decide (r∈l)):=by
 unfold r6 C9
 have key:=a1n (body:=n8 l r) l (by omega) (fun k (_:Nat)=>(k:Int)) (fun(s:Nat) (x:b9)=>if r=x then(.inr s:Sum Nat Nat)else .inl (s+1)) (fun s=> .inr (s:Int)) (fun s=> .inl (s:Int)) (fun pre s=>s=pre.length)
  (fun pre x post s hp hs=>by
   subst hp hs;unfold n8;rw [if_pos (by simp only [decide_eq_true_eq];exact a9j),a4v,Option.bind_some,b4H,W_s (by simp at hl;omega)];by_cases hb:r=x
   · rw [if_pos (by simp [hb]),if_pos hb];exact⟨rfl,fun s' hs'=>by cases hs'⟩
   · rw [if_neg (by simp [hb]),if_neg hb];exact⟨rfl,fun s' hs'=>by cases hs';simp⟩)
  (fun s hs=>by subst hs;unfold n8;rw [if_neg (by simp)]) 0 rfl
 have k2:q8 (n8 l r) 0=_:=key;rw [k2,Option.bind_some];have hr:=b4p r l 0;generalize S5 (fun(s:Nat) (x:b9)=>if r=x then(.inr s:Sum Nat Nat)else .inl (s+1)) l 0=q at hr⊢
 cases q with
 |inl _=>dsimp only at hr⊢;rw [hr];rfl
 |inr k=>
  dsimp only at hr⊢;rw [hr,Option.bind_some];simp
end Go.Proofs.YtggdlgclohnbaaaGreatDoor
namespace Go.Proofs.YtggdlgclohnbaaaGreatDoor
open Go Go.Sx
theorem Written.take {l:List b9} (h:Written l) (n:Nat):Written (l.take n):=by
 intro i r hi;rw [List.getElem?_take]at hi;split at hi
 · rename_i hn;have:=h i r hi;rw [List.take_take,Nat.min_eq_left (by omega)];exact this
 · cases hi
structure Bx (b:m9) (l:List b9) (n:Nat):Prop where
 w:Written l
 t:b.Thread=ofF (l.take n)
 a:b.Thread++b.Loose=ofF l
 f:n≤l.length
theorem a9x (picks:List Int):∀(l:List e8) (i:Nat) (out:List e8),(∀c∈l,C8 c)→∀c∈a2R picks i out l,C8 c→c∈out∨c∈l
 | [],_,_,_,c,hc,_=> .inl hc
 |x::l,i,out,h,c,hc,hw=>by
  unfold a2R at hc;rcases a9x picks l (i+1) _ (fun c hc=>h c (List.mem_cons_of_mem _ hc)) c hc hw with h1|h1
  · have hx:=h x List.mem_cons_self;unfold b1t at h1;split at h1
    · exact .inl h1
    · split at h1
      · rcases List.mem_cons.1 h1 with h2|h2
        · exact .inr (h2▸List.mem_cons_self)
        · exact .inl h2
      · split at h1
        · rename_i h3;rcases List.mem_append.1 h1 with h2|h2
          · exact .inl h2
          · exfalso;have h2:=List.mem_singleton.1 h2;subst h2;have e1:=hw.2.2.2.2;have e2:=hx.2.2.2.2;dsimp only at e1;rw [←e2,ByteArray.size_extract]at e1;have e3:=Int.emod_lt_of_pos (a0O picks (2*i+1)) (b:=(x.Text.size:Int)) (by omega);have e4:=Int.emod_nonneg (a0O picks (2*i+1)) (b:=(x.Text.size:Int)) (by omega);omega
        · rcases List.mem_append.1 h1 with h2|h2
          · exact .inl h2
          · exact .inr (List.mem_singleton.1 h2▸List.mem_cons_self)
  · exact .inr (List.mem_cons_of_mem _ h1)
theorem b3F (P:Nat→Prop):∀n:Nat,∃m,m≤n∧(∀j,j<m→P j)∧(m=n∨¬P m)
 |0=>⟨0,Nat.le_refl _,fun j h=>absurd h (Nat.not_lt_zero _), .inl rfl⟩
 |n+1=>by
  obtain⟨m,h1,h2,h3⟩:=b3F P n;rcases Classical.em (P n)with hp|hp
  · rcases h3 with h3|h3
    · subst h3;refine⟨m+1,Nat.le_refl _,fun j hj=> ?_, .inl rfl⟩;rcases Nat.lt_or_ge j m with h|h
      · exact h2 j h
      · have e:j=m:=by omega
        subst e;exact hp
    · exact⟨m,by omega,h2, .inr h3⟩
  · rcases h3 with h3|h3
    · subst h3;exact⟨m,by omega,h2, .inr hp⟩
    · exact⟨m,by omega,h2, .inr h3⟩
theorem a8I {w:List b9} (h:Written w) {c:e8} (hc:c∈ofF w):C8 c:=by
 obtain⟨j,i,r,h1,h2,rfl⟩:=(b0A w).1 hc;have:=h.len;have:=(List.getElem?_eq_some_iff.1 h1).1;exact b0P (h.rec (List.mem_of_getElem? h1)) (by omega) h2
theorem Bx.len {b:m9} {w:List b9} {f:Nat} (h:Bx b w f):b.Thread.length+b.Loose.length≤1020:=by
 have h1:=b0E w 0 (fun r hr=>h.w.rec hr);have h2:=h.w.len;have h3:(b.Thread++b.Loose).length=(ofK 0 w).length:=congrArg List.length h.a;rw [List.length_append]at h3;omega
theorem Bx.loose {b:m9} {w:List b9} {f:Nat} (h:Bx b w f) {c:e8} (hc:c∈b.Loose):c∈ofF w:=by rw [←h.a];exact List.mem_append_right _ hc
theorem Bx.sz {b:m9} {w:List b9} {f:Nat} (h:Bx b w f):c0v b:=⟨by have:=h.len;omega,by have:=h.len;omega,fun c hc=>by
 have:=a8I h.w (h.loose hc);have h1:=this.2.2.2.1;have h2:=this.2.2.2.2;omega⟩
theorem Bx.open_fall {b:m9} {w:List b9} {f:Nat} (h:Bx b w f) (picks:List Int):∃m,f≤m∧m≤w.length∧a4W ((a3R b picks).Thread++(a3R b picks).Loose)=w.take m:=by
 have hall:∀c∈(a3R b picks).Thread++(a3R b picks).Loose,C8 c→c∈ofF w:=by
  intro c hc hw;rcases List.mem_append.1 hc with h1|h1
  · rw [←h.a];exact List.mem_append_left _ h1
  · rcases a9x picks b.Loose 0 [] (fun c hc=>a8I h.w (h.loose hc)) c h1 hw with h2|h2
    · cases h2
    · exact h.loose h2
 obtain⟨m,h1,h2,h3⟩:=b3F (fun j=>∀r,w[j]?=some r→∀k,k<A2 (C5 r).size→a0z (C5 r) (j:Int) k∈(a3R b picks).Thread++(a3R b picks).Loose) w.length;refine⟨m, ?_,h1,c3t h.w hall m h1 (fun j r hj=>h2 j hj r) fun r hr=> ?_⟩
 · rcases Nat.lt_or_ge m f with hm|hm
   · exfalso;have hf:=h.f;rcases h3 with h3|h3
     · omega
     · refine h3 fun r hr k hk=>List.mem_append_left _ ?_
       show _∈b.Thread;rw [h.t];refine(b0A _).2 ⟨m,k,r, ?_,hk,rfl⟩;rw [List.getElem?_take_of_lt hm];exact hr
   · exact hm
 · rcases h3 with h3|h3
   · subst h3;simp at hr
   · refine Classical.byContradiction fun hno=>h3 fun r' hr' k hk=>Classical.byContradiction fun hc=>hno ⟨k, ?_, ?_⟩
     · rw [hr]at hr';cases hr';exact hk
     · rw [hr]at hr';cases hr';exact hc
theorem Bx.opened {b:m9} {w:List b9} {f:Nat} (h:Bx b w f) (m:Nat) (hm:m≤w.length):Bx ⟨ofF (w.take m), []⟩ (w.take m) m:=
 ⟨h.w.take m,by rw [List.take_take,Nat.min_self],by rw [List.append_nil],by rw [List.length_take];omega⟩
theorem Bx.bound {b:m9} {w:List b9} {f:Nat} (h:Bx b w f):Bx ⟨b.Thread++b.Loose, []⟩ w w.length:=⟨h.w,by rw [List.take_length];exact h.a,by rw [List.append_nil];exact h.a,Nat.le_refl _⟩
theorem Bx.more {b:m9} {w:List b9} {f:Nat} (h:Bx b w f) {x:b9} (hx:s9 x) (hn:P1 w x):Bx ⟨b.Thread,b.Loose++a0F (C5 x) (w.length:Int)⟩ (w++ [x]) f:=
 ⟨h.w.snoc hx hn,by rw [List.take_append_of_le_length h.f];exact h.t,by rw [←List.append_assoc,h.a,b2l],by have:=h.f;simp;omega⟩
theorem Bx.nil:Bx ⟨[], []⟩ [] 0:=⟨Written.nil,by simp [ofF,ofK],by simp [ofF,ofK],Nat.le_refl _⟩
end Go.Proofs.YtggdlgclohnbaaaGreatDoor
namespace Go.Proofs.YtggdlgclohnbaaaGreatDoor
open Go Go.Sx
theorem Written.item {w:List b9} (h:Written w) {d:Int} {n:Nat} (hn:n<cnt w d):∃r∈w,r.At=⟨d,(n:Int)⟩:=by
 have hl:=(Written.low _ rfl h).2 d;have h1:=hl n (by omega);have h2:=hl (n+1) (by omega);refine Classical.byContradiction fun hno=> ?_
 have:Go.Proofs.YtggdlgclohnbaaaGreatDoor.low w d ((n+1:Nat):Int)=Go.Proofs.YtggdlgclohnbaaaGreatDoor.low w d (n:Int):=by
  unfold Go.Proofs.YtggdlgclohnbaaaGreatDoor.low;refine List.countP_congr fun r hr=> ?_
  simp only [Bool.and_eq_true,beq_iff_eq,decide_eq_true_eq];constructor
  · rintro⟨h3,h4⟩;refine⟨h3, ?_⟩;rcases(show r.At.No<(n:Int)∨(n:Int)≤r.At.No by omega)with h5|h5
    · exact h5
    · exfalso;refine hno ⟨r,hr, ?_⟩;have e:r.At.No=(n:Int):=by omega
      obtain⟨⟨d',n'⟩,_⟩:=r;dsimp only at h3 e⊢;rw [h3,e]
  · rintro⟨h3,h4⟩;exact⟨h3,by omega⟩
 omega
theorem Written.lt {w:List b9} (h:Written w) {r:b9} (hr:r∈w):r.At.No<((cnt w r.At.Depot:Nat):Int):=(Written.low _ rfl h).1 r hr
theorem c2q {w:List b9} (h:a1P w) {r:b9} (hr:r∈w):fnd w r.At=some r:=by
 cases hf:fnd w r.At with
 |none=>exact absurd rfl (a5u hf r hr)
 |some v=>
  obtain⟨h1,h2⟩:=a1I hf;rw [b9A h h1 hr h2]
theorem c3E {w v:List b9} (h:a1P w) (p:v.Perm w) (t:o5):fnd v t=fnd w t:=by
 cases hf:fnd v t with
 |some x=>
  obtain⟨h1,h2⟩:=a1I hf;rw [←h2,c2q h (p.mem_iff.1 h1)]
 |none=>
  cases hg:fnd w t with
  |none=>rfl
  |some y=>
   obtain⟨h1,h2⟩:=a1I hg;exact absurd h2 (a5u hf y (p.mem_iff.2 h1))
theorem a2U {w v:List b9} (p:v.Perm w) (d:Int):cnt v d=cnt w d:=p.countP_eq _
theorem b8T {w v:List b9} (h:a1P w) (p:v.Perm w) (r:b9):Z1 v r=Z1 w r:=by
 unfold Z1;rw [c3E h p,a2U p,p.length_eq]
def a2w (w:List b9) (r:b9):Int:=if s9 r then(Z1 w r).2 else 80
theorem b9L {w:List b9} (h:Written w) {r:b9} (hr:r∈w):a2w w r=0:=by
 unfold a2w Z1;rw [if_pos (h.rec hr),c2q h.once hr];simp
theorem b7a {w:List b9} (h:Written w) {r:b9} (hr:r∉w) (he:a2w w r=0):s9 r∧P1 w r∧Z1 w r=(true,0):=by
 unfold a2w at he;split at he
 · rename_i hk;unfold Z1 at he⊢;cases hf:fnd w r.At with
   |some v=>
    rw [hf]at he;dsimp only at he;split at he
    · rename_i hv;exact absurd (hv▸(a1I hf).1) hr
    · cases he
   |none=>
    rw [hf]at he;dsimp only at he;split at he
    · cases he
    · rename_i h1;split at he
      · cases he
      · rename_i h2;refine⟨hk,⟨by have:=h.len;omega, ?_⟩, ?_⟩
        · rcases(show r.At.No<((cnt w r.At.Depot:Nat):Int)∨((cnt w r.At.Depot:Nat):Int)≤r.At.No by omega)with h3|h3
          · exfalso;have h0:0≤r.At.No:=hk.1.2.1;obtain⟨x,g1,g2⟩:=h.item (d:=r.At.Depot) (n:=r.At.No.toNat) (by omega);refine a5u hf x g1 ?_;rw [g2,Int.toNat_of_nonneg h0]
          · omega
        · dsimp only;rw [if_neg h1,if_neg h2]
 · cases he
theorem b9u {w:List b9} (h:Written w) {r:b9} (hk:s9 r) (hn:P1 w r):r∉w∧a2w w r=0:=by
 have hx:∀v∈w,v.At≠r.At:=fun v hv e=>by
  have h1:=h.lt hv;have h2:=hn.2;rw [e]at h1;omega
 refine⟨fun hm=>hx r hm rfl, ?_⟩;unfold a2w Z1;rw [if_pos hk];cases hf:fnd w r.At with
 |some v=>exact absurd (a1I hf).2 (hx v (a1I hf).1)
 |none=>
  have h1:=hn.1;have h2:=hn.2;dsimp only;rw [if_neg (by omega),if_neg (by omega)]
def L8 (b:m9) (w:List b9) (r:b9):m9×List b9×Int:=
 if r∈w then(b,w,0)else if a2w w r=0 then(⟨b.Thread,b.Loose++a0F (C5 r) (w.length:Int)⟩,w++ [r],0)else(⟨[], []⟩, [],a2w w r)
def HB (b:m9) (w:List b9):Prop:=Written w∧b.Thread++b.Loose=ofF w
theorem HB.of {b:m9} {w:List b9} {f:Nat} (h:Bx b w f):HB b w:=⟨h.w,h.a⟩
theorem HB.len {b:m9} {w:List b9} (h:HB b w):b.Thread.length+b.Loose.length≤1020:=by
 have h1:=b0E w 0 (fun r hr=>h.1.rec hr);have h2:=h.1.len;have h3:(b.Thread++b.Loose).length=(ofK 0 w).length:=congrArg List.length h.2;rw [List.length_append]at h3;omega
theorem b2d (b:m9) (w:List b9) (r:b9) (h:Written w):(L8 b w r).2.2=a2w w r:=by
 unfold L8;split
 · rename_i hm;exact(b9L h hm).symm
 · split
   · rename_i h1;exact h1.symm
   · rfl
theorem c4Z (l:List b9) (hl:a7j l) (r:b9) (hr:r.Text.size≤9223372036854775807):∃bk,S9 ⟨l⟩ r=some (bk,a2w l r):=by
 have hl60:=hl.1;have hts:∀r∈l,r.Text.size≤9223372036854775807:=fun r hr=>by have:=P2 (hl.2.rec hr);omega
 have hd:∀r∈l,w7 r.At.Depot:=fun r hr=>hl.2.dep hr
 obtain⟨x,h1,h2,_⟩:=c4v ⟨l⟩ r (by dsimp only;omega) hts hr;refine⟨x.1, ?_⟩;rw [h1];unfold a6g at h2;rw [Check_eq _ hts,Option.bind_some,if_neg (by simp [hl])]at h2;dsimp only at h2;rw [c0e l r (by omega) hd hr,Option.bind_some]at h2;unfold a2w;by_cases hk:s9 r
 · rw [if_pos hk]at h2⊢;cases ha:Z1 l r with
   |mk m e=>
    rw [ha]at h2;dsimp only at h2⊢;by_cases he:e=0
    · subst he;rw [if_neg (by decide)]at h2
      have hx:x.2=0:=by
       split at h2
       · simp only [gd,Option.bind_some]at h2;split at h2
         · cases h2;rfl
         · cases h2
       · rw [c2O l r (by omega),Option.bind_some]at h2;cases h2;rfl
      rw [←hx]
    · rw [if_pos (by simpa using he)]at h2
      cases h2;rfl
 · rw [if_neg hk]at h2⊢;rw [if_pos (by decide)]at h2;cases h2;rfl
theorem b3H (b:m9) (w:List b9) (r:b9) (hw:Written w) (hb:b.Thread.length+b.Loose.length≤100000) (hr:r.Text.size≤9223372036854775807):J2 b w r=some (L8 b w r):=by
 have hwl:=hw.len;unfold J2 w8 B8 j6 j0 L8;rw [b5Q _ (by omega),Option.bind_some];by_cases hm:r∈w
 · rw [if_pos (by simp [hm]),if_pos hm,q9 (by omega),q9 (by omega),q9 (by omega)];rfl
 · rw [if_neg (by simp [hm]),if_neg hm,q9 (by omega),Option.bind_some];obtain⟨bk,h1⟩:=c4Z (y8 w) (a9E hw) r hr;have he:a2w (y8 w) r=a2w w r:=by unfold a2w;rw [b8T hw.once (O5 w)]
   rw [h1,Option.bind_some,he];dsimp only;by_cases h0:a2w w r=0
   · obtain⟨hk,hn,_⟩:=b7a hw hm h0;have hcl:(a0F (C5 r) (w.length:Int)).length≤17:=by rw [a4A];exact a5Z (a5Y hk)
     rw [if_neg (by simp [h0]),if_pos h0,q9 (by omega),q9 (by omega)];simp only [Option.bind_some];rw [a6u hk,Option.bind_some,q9 (by omega),q9 (by omega),Option.bind_some,q9 (by simp only [List.length_cons,List.length_nil];omega)]
   · rw [if_pos (by simpa using h0),if_neg h0]
end Go.Proofs.YtggdlgclohnbaaaGreatDoor
namespace Go.Proofs.YtggdlgclohnbaaaGreatDoor
open Go Go.Sx
theorem c0V {R α:Type} {body:Int→Option (Sum Int (Sum Int R))} (l:List α) (hl:l.length≤9223372036854775800) (q:α→Prop) (r0:R)
 (h:∀(i:Nat) (hi:i<l.length),(q l[i]∧body (i:Int)=some (.inl ((i+1:Nat):Int)))∨(¬q l[i]∧body (i:Int)=some (.inr (.inr r0)))) (he:body (l.length:Int)=some (.inr (.inl (l.length:Int)))):
 ((∀x∈l,q x)∧q8 body 0=some (.inl (l.length:Int)))∨(¬(∀x∈l,q x)∧q8 body 0=some (.inr r0)):=by
 letI:DecidablePred q:=fun _=>Classical.propDecidable _
 have key:=a3M l.length (by omega) (fun i=>match l[i]? with|some x=>if q x then none else some r0|none=>none) 0 (Nat.zero_le _) (fun i _ h2=>by
  simp only [List.getElem?_eq_getElem h2];rcases h i h2 with⟨g1,g2⟩|⟨g1,g2⟩<;>simp [g1,g2]) he
 have key:q8 body 0=_:=key;rw [key];by_cases hall:∀x∈l,q x
 · left;refine⟨hall, ?_⟩
   rw [a2o _ _ (fun i _ h2=>by
    have hi:i<l.length:=by omega
    simp only [List.getElem?_eq_getElem hi,if_pos (hall _ (List.getElem_mem hi))])]
   simp
 · right;refine⟨hall, ?_⟩
   have:∃i,∃hi:i<l.length,¬q l[i]:=by
    refine Classical.byContradiction fun hn=>hall fun x hx=>Classical.byContradiction fun hq=> ?_
    obtain⟨i,hi,rfl⟩:=List.getElem_of_mem hx;exact hn ⟨i,hi,hq⟩
   obtain⟨i,hi,hq⟩:=this;obtain⟨j,r,a,b,c,d⟩:=a3V (q:=fun i=>match l[i]? with|some x=>if q x then none else some r0|none=>none) (l.length-0) 0 i (Nat.zero_le _) (by omega) (by simp [List.getElem?_eq_getElem hi,hq])
   rw [d];have hj:j<l.length:=by omega
   simp only [List.getElem?_eq_getElem hj]at c;split at c
   · cases c
   · cases c;rfl
instance (n : Int) : Decidable (w7 n) := inferInstanceAs (Decidable (_ ∧ _))
theorem a4s (n:Int):C4 n=some (decide (w7 n)):=by
 unfold C4 w7;rw [a2m];rfl
def Y8 (l:I6):Prop:=∀n∈a5i l,0≤n∧n≤60
instance (l : I6) : Decidable (Y8 l) := inferInstanceAs (Decidable (∀ n ∈ a5i l, _))
theorem a8e (l:I6):N9 l=some (decide (Y8 l)):=by
 have h:=a7z (a5i l) (by simp [a5i]) O9 (fun n=> !decide (0≤n∧n≤60)) (fun x _=>by unfold O9;rw [a2m];rfl);unfold N9;have h:u9 [l.1,l.2.1,l.2.2.1,l.2.2.2.1,l.2.2.2.2.1,l.2.2.2.2.2]=_:=h;rw [h,Option.bind_some];congr 1;rw [Bool.eq_iff_iff];simp only [Bool.not_eq_true',decide_eq_true_eq,List.any_eq_false,decide_eq_false_iff_not,Classical.not_not];rfl
abbrev I36:=I6×I6×I6×I6×I6×I6
def a6O (k:I36):List I6:= [k.1,k.2.1,k.2.2.1,k.2.2.2.1,k.2.2.2.2.1,k.2.2.2.2.2]
theorem b4x (l:I36):(a6O l).length=6:=rfl
def a1j (d:c8):Prop:=w7 d.Me∧HB d.Box d.Written∧∀l∈a6O d.Known,Y8 l
structure SzD (d:c8):Prop where
 b:d.Box.Thread.length+d.Box.Loose.length≤100000
 w:d.Written.length≤100000
 t:∀r∈d.Written,r.Text.size≤9223372036854775807
theorem a1j.sz {d:c8} (h:a1j d):SzD d:=⟨by have:=h.2.1.len;omega,by have:=h.2.1.1.len;omega,fun r hr=>by have:=P2 (h.2.1.1.rec hr);omega⟩
open Classical in theorem isValid_eq (d : c8) (h : SzD d) : H6 d = some (decide (a1j d)) := by
  have hb := h.b;have hw := h.w;unfold H6;unfold a1j
  rcases c0V (body := K4 d) (a6O d.Known) (by rw [b4x]; omega) Y8 false (fun i hi => by
    unfold K4;have hi6 : i < 6 := hi;have hx : idx [d.Known.1, d.Known.2.1, d.Known.2.2.1, d.Known.2.2.2.1, d.Known.2.2.2.2.1, d.Known.2.2.2.2.2] (i : Int) = some (a6O d.Known)[i] := V3 hi;rw [if_pos (by simp only [decide_eq_true_eq]; omega), hx, Option.bind_some, a8e, Option.bind_some, W_s (by omega)];by_cases hq : Y8 (a6O d.Known)[i]
    · rw [if_neg (by simp [hq])]; exact .inl ⟨hq, rfl⟩
    · rw [if_pos (by simp [hq])]; exact .inr ⟨hq, rfl⟩) (by unfold K4; rw [b4x, if_neg (by decide)]) with ⟨hk, hz⟩ | ⟨hk, hz⟩
  · rw [hz, Option.bind_some];dsimp only;rw [a4s, Option.bind_some, have_eq d.Box d.Written (by omega) (by omega) h.t];by_cases hm : w7 d.Me
    · rw [if_pos (by simp [hm]), Option.bind_some];congr 1;rw [Bool.eq_iff_iff];simp only [decide_eq_true_eq];exact ⟨fun e => ⟨hm, e, hk⟩, fun e => e.2.1⟩
    · rw [if_neg (by simp [hm])];simp [hm]
  · rw [hz, Option.bind_some];dsimp only;simp only [hk, and_false, decide_false]
def b5M (m:d9):Prop:=w7 m.From∧w7 m.To∧m.From≠m.To∧Y8 m.Have∧m.Records.length≤6∧∀r∈m.Records,s9 r
def SzM (m:d9):Prop:=∀r∈m.Records,r.Text.size≤9223372036854775807
theorem b5M.sz {m:d9} (h:b5M m):SzM m:=fun r hr=>by have:=P2 (h.2.2.2.2.2 r hr);omega
open Classical in theorem isMessage_eq (m : d9) (h : SzM m) : S4 m = some (decide (b5M m)) := by
  unfold S4 b5M;rw [a4s, Option.bind_some];by_cases h1 : w7 m.From
  · rw [if_pos (by simp [h1]), a4s, Option.bind_some];by_cases h2 : w7 m.To
    · rw [if_pos (by simp [h2])];by_cases h3 : m.From = m.To
      · rw [if_neg (by simp [h3])]; simp [h3]
      · rw [if_pos (by simpa using h3), a8e, Option.bind_some]
        by_cases h4 : Y8 m.Have
        · rw [if_pos (by simp [h4])];by_cases h5 : m.Records.length ≤ 6
          · have hc := a7z m.Records (by omega) O8 (fun r => !decide (s9 r)) (fun x hx => by unfold O8; rw [N8 x (h x hx)]; rfl);have hc : o6 m.Records = _ := hc;rw [if_pos (by simp only [decide_eq_true_eq]; omega), hc, Option.bind_some];congr 1;rw [Bool.eq_iff_iff];simp only [Bool.not_eq_true', List.any_eq_false, decide_eq_false_iff_not, Classical.not_not, decide_eq_true_eq, h1, h2, h3, h4, h5, ne_eq, not_false_eq_true, true_and]
          · rw [if_neg (by simp only [decide_eq_true_eq]; omega)]; simp [h5]
        · rw [if_neg (by simp [h4])]; simp [h4]
    · rw [if_neg (by simp [h2])]; simp [h2]
  · rw [if_neg (by simp [h1])]; simp [h1]
end Go.Proofs.YtggdlgclohnbaaaGreatDoor
namespace Go.Proofs.YtggdlgclohnbaaaGreatDoor
open Go Go.Sx
theorem b1u:∀ {w T:List b9},a1P w→(∀r∈w,r∈T)→w.length≤T.length
 | [],_,_,_=>Nat.zero_le _
 |r::w,T,ho,hs=>by
  obtain⟨a,b,rfl⟩:=List.append_of_mem (hs r List.mem_cons_self);have ho':=List.pairwise_cons.1 ho
  have:=b1u (T:=a++b) ho'.2 fun x hx=>by
   have h1:=hs x (List.mem_cons_of_mem _ hx);rcases List.mem_append.1 h1 with h|h
   · exact List.mem_append_left _ h
   · rcases List.mem_cons.1 h with h|h
     · exact absurd (h▸rfl) (ho'.1 x hx)
     · exact List.mem_append_right _ h
  simp only [List.length_cons,List.length_append]at this⊢;omega
theorem a1P.filter {w:List b9} (h:a1P w) (p:b9→Bool):a1P (w.filter p):=List.Pairwise.filter p h
def a0K (w:List b9) (r:b9):List b9:=if((cnt w r.At.Depot:Nat):Int)<r.At.No∨r∈w then w else w++ [r]
theorem b6b {w T:List b9} (hw:Written w) (hT:a1P T) (hs:∀r∈w,r∈T) (hl:T.length≤59) {r:b9} (hr:r∈T) (hk:s9 r) (hc:¬((cnt w r.At.Depot:Nat):Int)<r.At.No) (hm:r∉w):P1 w r:=by
 refine⟨by have:=b1u hw.once hs;omega, ?_⟩;rcases(show r.At.No<((cnt w r.At.Depot:Nat):Int)∨((cnt w r.At.Depot:Nat):Int)≤r.At.No by omega)with h|h
 · exfalso;have h0:0≤r.At.No:=hk.1.2.1;obtain⟨x,g1,g2⟩:=hw.item (d:=r.At.Depot) (n:=r.At.No.toNat) (by omega);rw [Int.toNat_of_nonneg h0]at g2;exact hm (b9A hT hr (hs x g1) g2.symm▸g1)
 · omega
theorem b2X {w T:List b9} (hw:Written w) (hT:a1P T) (hs:∀r∈w,r∈T) (hl:T.length≤59) {r:b9} (hr:r∈T) (hk:s9 r):Written (a0K w r)∧(∀x∈a0K w r,x∈w∨x=r)∧∃t,a0K w r=w++t:=by
 unfold a0K;split
 · exact⟨hw,fun x hx=> .inl hx, [],by simp⟩
 · rename_i h;rw [not_or]at h;refine⟨hw.snoc hk (b6b hw hT hs hl hr hk h.1 h.2),fun x hx=> ?_, [r],rfl⟩;rcases List.mem_append.1 hx with h|h
   · exact .inl h
   · exact .inr (List.mem_singleton.1 h)
theorem a6H {T:List b9} (hT:a1P T) (hl:T.length≤59):∀(rs:List b9) {w:List b9},Written w→(∀r∈w,r∈T)→(∀r∈rs,r∈T∧s9 r)→
 Written (rs.foldl a0K w)∧(∀x∈rs.foldl a0K w,x∈w∨x∈rs)∧∃t,rs.foldl a0K w=w++t
 | [],w,hw,_,_=>⟨hw,fun x hx=> .inl hx, [],by simp⟩
 |r::rs,w,hw,hs,hr=>by
  obtain⟨h1,h2,t1,h3⟩:=b2X hw hT hs hl (hr r List.mem_cons_self).1 (hr r List.mem_cons_self).2;obtain⟨g1,g2,t2,g3⟩:=a6H hT hl rs h1 (fun x hx=>by rcases h2 x hx with h|h;exact hs x h;exact h▸(hr r List.mem_cons_self).1) fun x hx=>hr x (List.mem_cons_of_mem _ hx)
  refine⟨g1,fun x hx=> ?_,t1++t2, ?_⟩
  · rcases g2 x hx with h|h
    · rcases h2 x h with h|h
      · exact .inl h
      · exact .inr (h▸List.mem_cons_self)
    · exact .inr (List.mem_cons_of_mem _ h)
  · show rs.foldl a0K (a0K w r)=_;rw [g3,h3,List.append_assoc]
def I4 (v:List b9) (h:Int→Int):List b9:=(y8 v).filter fun r=> !(decide (r.At.No<h r.At.Depot))
theorem b8t {v:List b9} {h:Int→Int} {r:b9}:r∈I4 v h↔r∈v∧h r.At.Depot≤r.At.No:=by
 unfold I4;rw [List.mem_filter,(O5 v).mem_iff];simp
theorem a6V (a b:List b9) (d:Int):cnt (a++b) d=cnt a d+cnt b d:=by unfold cnt;rw [List.countP_append]
end Go.Proofs.YtggdlgclohnbaaaGreatDoor
namespace Go.Proofs.YtggdlgclohnbaaaGreatDoor
open Go Go.Sx
abbrev zT:I36:=((0,0,0,0,0,0),(0,0,0,0,0,0),(0,0,0,0,0,0),(0,0,0,0,0,0),(0,0,0,0,0,0),(0,0,0,0,0,0))
abbrev zD:c8:=⟨0,⟨[], []⟩, [],zT⟩
abbrev zM:d9:=⟨0,0,(0,0,0,0,0,0), []⟩
def X7 (d:c8) (r:b9):b9:=⟨⟨d.Me,((cnt d.Written d.Me:Nat):Int)⟩,r.Kind,r.Day,r.Known,r.Of,r.Text⟩
open Classical in noncomputable def noteS (d : c8) (r : b9) : c8 × b9 × Int :=
  if a1j d then
    if a2w d.Written (X7 d r) = 0 then (⟨d.Me, (L8 d.Box d.Written (X7 d r)).1, (L8 d.Box d.Written (X7 d r)).2.1, d.Known⟩, X7 d r, 0)
    else (zD, zR, a2w d.Written (X7 d r))
  else (zD, zR, 85)
theorem a5H (l:List b9) {d:Int} (h:w7 d):idx [(L5 l).1,(L5 l).2.1,(L5 l).2.2.1,(L5 l).2.2.2.1,(L5 l).2.2.2.2.1,(L5 l).2.2.2.2.2] d=some ((cnt l d:Nat):Int):=a4B l h
theorem c3f (d:c8) (r:b9) (h:SzD d) (hr:r.Text.size≤9223372036854775807):a2i d r=some (noteS d r):=by
 have hb:=h.b;have hwl:=h.w;unfold a2i noteS;rw [isValid_eq d h,Option.bind_some];by_cases hv:a1j d
 · obtain⟨h1,h2,h3⟩:=id hv;have hw:=h2.1;rw [if_neg (by simp [hv]),if_pos hv];unfold M7 B8 j6 j0;rw [q9 (by omega),q9 (by omega),q9 (by omega)];simp only [Option.bind_some];rw [a3q _ (by omega) (fun r hr=>hw.dep hr),Option.bind_some,a5H _ h1,Option.bind_some];unfold a1f;have hwr:J2 ⟨d.Box.Thread,d.Box.Loose⟩ d.Written (X7 d r)=some (L8 d.Box d.Written (X7 d r)):=b3H d.Box d.Written (X7 d r) hw hb hr;unfold X7 at hwr⊢;rw [hwr,Option.bind_some];have he:=b2d d.Box d.Written (X7 d r) hw;unfold X7 at he;generalize hz:L8 d.Box d.Written ⟨⟨d.Me,((cnt d.Written d.Me:Nat):Int)⟩,r.Kind,r.Day,r.Known,r.Of,r.Text⟩=z at he⊢;obtain⟨b',w',e⟩:=z;dsimp only at he⊢;subst he;by_cases h0:a2w d.Written ⟨⟨d.Me,((cnt d.Written d.Me:Nat):Int)⟩,r.Kind,r.Day,r.Known,r.Of,r.Text⟩=0
   · rw [if_pos (by simpa using h0),if_pos h0,Option.bind_some]
     dsimp only;rw [if_neg (by simpa using h0)]
   · rw [if_neg (by simpa using h0),if_neg h0,Option.bind_some]
     dsimp only;rw [if_pos (by simpa using h0)];rfl
 · rw [if_pos (by simp [hv]),if_neg hv];rfl
open Classical in noncomputable def tellS (d : c8) (to : Int) : c8 × d9 × Int :=
  if a1j d then
    if w7 to ∧ to ≠ d.Me then (⟨d.Me, ⟨d.Box.Thread ++ d.Box.Loose, []⟩, d.Written, d.Known⟩, ⟨d.Me, to, L5 d.Written, []⟩, 0) else (zD, zM, 1)
  else (zD, zM, 85)
theorem b9M (b:m9) (hb:(b.Thread.length+b.Loose.length)*48≤140737488355328):N1 b=some ⟨b.Thread++b.Loose, []⟩:=by
 unfold N1;rw [a8g b (by omega)];rfl
theorem b7C (d:c8) (to:Int) (h:SzD d):a1c d to=some (tellS d to):=by
 have hb:=h.b;have hwl:=h.w;unfold a1c tellS;rw [isValid_eq d h,Option.bind_some];by_cases hv:a1j d
 · have hw:=hv.2.1.1;rw [if_neg (by simp [hv]),if_pos hv,a4s,Option.bind_some];by_cases h1:w7 to
   · rw [if_neg (by simp [h1])];by_cases h2:to=d.Me
     · rw [if_pos (by simp [h2]),if_neg (fun e=>e.2 h2)]
     · rw [if_neg (by simpa using h2),if_pos ⟨h1,h2⟩]
       unfold M7 B8 j6 j0 a0A F0;rw [q9 (by omega),q9 (by omega),q9 (by omega)];simp only [Option.bind_some];rw [b9M ⟨d.Box.Thread,d.Box.Loose⟩ (by dsimp only;omega)];simp only [Option.bind_some];rw [a3q _ (by omega) (fun r hr=>hw.dep hr)];rfl
   · rw [if_pos (by simp [h1]),if_neg (fun e=>h1 e.1)]
 · rw [if_pos (by simp [hv]),if_neg hv]
open Classical in noncomputable def restS (d : c8) (picks : List Int) : c8 × Int :=
  if a1j d then (⟨d.Me, ⟨ofF (a4W ((a3R d.Box picks).Thread ++ (a3R d.Box picks).Loose)), []⟩, a4W ((a3R d.Box picks).Thread ++ (a3R d.Box picks).Loose), zT⟩, 0) else (zD, 85)
theorem HB.loose {b:m9} {w:List b9} (h:HB b w) {c:e8} (hc:c∈b.Loose):C8 c:=a8I h.1 (by rw [←h.2];exact List.mem_append_right _ hc)
theorem HB.sz {b:m9} {w:List b9} (h:HB b w):c0v b:=⟨by have:=h.len;omega,by have:=h.len;omega,fun c hc=>by
 have:=h.loose hc;have h1:=this.2.2.2.1;have h2:=this.2.2.2.2;omega⟩
theorem HB.fallen {b:m9} {w:List b9} (h:HB b w) (picks:List Int):((a3R b picks).Thread.length+(a3R b picks).Loose.length)*48≤140737488355328:=by
 have hl:=a9k picks b.Loose 0 [];have:=h.len;simp only [List.length_nil]at hl;show(b.Thread.length+(a2R picks 0 [] b.Loose).length)*48≤_;omega
theorem a9Y (d:c8) (picks:List Int) (h:SzD d) (hp:b2j picks) (hpl:picks.length≤9223372036854775800):R4 d picks=some (restS d picks):=by
 unfold R4 restS;rw [isValid_eq d h,Option.bind_some];by_cases hv:a1j d
 · rw [if_neg (by simp [hv]),if_pos hv,a4e _ picks hv.2.1.sz hp hpl,Option.bind_some,a3W _ (hv.2.1.fallen picks),Option.bind_some]
 · rw [if_pos (by simp [hv]),if_neg hv]
end Go.Proofs.YtggdlgclohnbaaaGreatDoor
namespace Go.Proofs.YtggdlgclohnbaaaGreatDoor
open Go Go.Sx
theorem c0Y {b:m9} {w:List b9} {r:b9} (h:HB b w) (he:a2w w r=0):HB (L8 b w r).1 (L8 b w r).2.1:=by
 unfold L8;split
 · exact h
 · rename_i hm;obtain⟨h1,h2,_⟩:=b7a h.1 hm he;exact⟨h.1.snoc h1 h2,by dsimp only;rw [←List.append_assoc,h.2,b2l]⟩
theorem b8a (b:m9) (w:List b9) (r:b9) (he:a2w w r=0):w.length≤(L8 b w r).2.1.length:=by
 unfold L8;split
 · exact Nat.le_refl _
 · simp
def a5b (s:m9×List b9) (r:b9):Sum (m9×List b9) Int:=
 if((cnt s.2 r.At.Depot:Nat):Int)<r.At.No then .inl s else if a2w s.2 r=0 then .inl ((L8 s.1 s.2 r).1,(L8 s.1 s.2 r).2.1)else .inr (a2w s.2 r)
theorem b6U {s s':m9×List b9} {r:b9} {n:Nat} (h:HB s.1 s.2∧n≤s.2.length) (he:a5b s r= .inl s'):HB s'.1 s'.2∧n≤s'.2.length:=by
 unfold a5b at he;split at he
 · cases he;exact h
 · split at he
   · rename_i h0;cases he;exact⟨c0Y h.1 h0,Nat.le_trans h.2 (b8a _ _ _ h0)⟩
   · cases he
theorem b9b (d:c8) (m:d9) (hd:HB d.Box d.Written) (hm:b5M m):(∀s,S5 a5b m.Records (d.Box,d.Written)= .inl s→q8 (E1 m) (0,⟨⟨d.Me,d.Box,d.Written,d.Known⟩⟩)=some (.inl ((m.Records.length:Int),⟨⟨d.Me,s.1,s.2,d.Known⟩⟩)))∧
 ∀e,S5 a5b m.Records (d.Box,d.Written)= .inr e→q8 (E1 m) (0,⟨⟨d.Me,d.Box,d.Written,d.Known⟩⟩)=some (.inr (zD, [],e)):=by
 have h6:=hm.2.2.2.2.1
 have key:=a1n (body:=E1 m) m.Records (by omega) (fun k (s:m9×List b9)=>((k:Int),(⟨⟨d.Me,s.1,s.2,d.Known⟩⟩:y4))) a5b (fun e=> .inr (zD, [],e)) (fun s=> .inl ((m.Records.length:Int),⟨⟨d.Me,s.1,s.2,d.Known⟩⟩)) (fun _ s=>HB s.1 s.2∧d.Written.length≤s.2.length)
  (fun pre x post s hp hs=>by
   have hx:s9 x:=hm.2.2.2.2.2 x (hp▸List.mem_append_right _ List.mem_cons_self);have hw:=hs.1.1;have hwl:=hw.len;have hbl:=hs.1.len;have hlen:m.Records.length=pre.length+1+post.length:=by rw [hp];simp;omega
   refine⟨?_,fun s' hs'=>b6U hs hs'⟩;unfold E1;dsimp only;rw [hp,if_pos (by simp only [decide_eq_true_eq];exact a9j),a4v,Option.bind_some,a3q _ (by omega) (fun r hr=>hw.dep hr),Option.bind_some,a5H _ (a0N hx),Option.bind_some,W_s (by omega)];unfold a5b;by_cases h1:((cnt s.2 x.At.Depot:Nat):Int)<x.At.No
   · rw [if_pos (by simpa using h1),if_pos h1]
   · rw [if_neg (by simpa using h1),if_neg h1]
     unfold a0s;dsimp only;rw [b3H s.1 s.2 x hw (by omega) (by have:=P2 hx;omega),Option.bind_some];have he:=b2d s.1 s.2 x hw;generalize L8 s.1 s.2 x=z at he⊢;obtain⟨b',w',e⟩:=z;dsimp only at he⊢;subst he;by_cases h0:a2w s.2 x=0
     · rw [if_pos (by simpa using h0),if_pos h0,Option.bind_some]
       dsimp only;rw [if_neg (by simpa using h0)]
     · rw [if_neg (by simpa using h0),if_neg h0,Option.bind_some]
       dsimp only;rw [if_pos (by simpa using h0)])
  (fun s hs=>by unfold E1;dsimp only;rw [if_neg (by simp)]) (d.Box,d.Written) ⟨hd,Nat.le_refl _⟩
 refine⟨fun s hs=> ?_,fun e he=> ?_⟩
 · rw [hs]at key;exact key
 · rw [he]at key;exact key
theorem c3Z (m:d9):∀(l:List b9) (s:m9×List b9) {n:Nat} {t:m9×List b9},HB s.1 s.2∧n≤s.2.length→S5 a5b l s= .inl t→HB t.1 t.2∧n≤t.2.length
 | [],s,n,t,h,he=>by unfold S5 at he;cases he;exact h
 |x::l,s,n,t,h,he=>by
  unfold S5 at he;cases hx:a5b s x with
  |inl s'=>rw [hx]at he;exact c3Z m l s' (b6U h hx) he
  |inr e=>rw [hx]at he;cases he
def G9 (r:I6) (i:Int):Int:=(idx (a5i r) i).getD 0
def a1K (K:I36) (f:Int):I6:=(idx (a6O K) f).getD (0,0,0,0,0,0)
def c7h (r:I6) (i y:Int):I6:=(if(i==0)=true then y else r.1,if(i==1)=true then y else r.2.1,if(i==2)=true then y else r.2.2.1,if(i==3)=true then y else r.2.2.2.1,if(i==4)=true then y else r.2.2.2.2.1,if(i==5)=true then y else r.2.2.2.2.2)
def c8f (K:I36) (f:Int) (y:I6):I36:=(if(f==0)=true then y else K.1,if(f==1)=true then y else K.2.1,if(f==2)=true then y else K.2.2.1,if(f==3)=true then y else K.2.2.2.1,if(f==4)=true then y else K.2.2.2.2.1,if(f==5)=true then y else K.2.2.2.2.2)
theorem c5k (r:I6) {i:Int} (h:w7 i):idx (a5i r) i=some (G9 r i):=by
 rcases M4 h with rfl|rfl|rfl|rfl|rfl|rfl<;>rfl
theorem c5Z (K:I36) {i:Int} (h:w7 i):idx (a6O K) i=some (a1K K i):=by
 rcases M4 h with rfl|rfl|rfl|rfl|rfl|rfl<;>rfl
theorem b6O {α:Type} (i k:Int) (a b:α):(if(i==k)=true then a else b)=if k=i then a else b:=by
 by_cases h:i=k
 · subst h;simp
 · rw [if_neg (by simpa using h),if_neg (fun e=>h e.symm)]
theorem c2C (r:I6) (i y:Int) {k:Int} (hk:w7 k):G9 (c7h r i y) k=if k=i then y else G9 r k:=by
 rcases M4 hk with rfl|rfl|rfl|rfl|rfl|rfl<;>exact b6O i _ y _
theorem c2u (K:I36) (f:Int) (y:I6) {k:Int} (hk:w7 k):a1K (c8f K f y) k=if k=f then y else a1K K k:=by
 rcases M4 hk with rfl|rfl|rfl|rfl|rfl|rfl<;>exact b6O f _ y _
theorem b5t (l:List b9) {d:Int} (h:w7 d):G9 (L5 l) d=((cnt l d:Nat):Int):=by unfold G9;rw [a4B l h];rfl
theorem b1K {l:I6}:Y8 l↔∀x,w7 x→0≤G9 l x∧G9 l x≤60:=by
 constructor
 · intro h x hx;exact h _ (by rcases M4 hx with rfl|rfl|rfl|rfl|rfl|rfl<;>(unfold G9 a5i;simp [idx]))
 · intro h n hn;simp only [a5i,List.mem_cons,List.not_mem_nil,or_false]at hn;rcases hn with rfl|rfl|rfl|rfl|rfl|rfl
   · exact h 0 (by decide)
   · exact h 1 (by decide)
   · exact h 2 (by decide)
   · exact h 3 (by decide)
   · exact h 4 (by decide)
   · exact h 5 (by decide)
theorem b6Q {K:I36}:(∀l∈a6O K,Y8 l)↔∀k,w7 k→Y8 (a1K K k):=by
 constructor
 · intro h x hx;exact h _ (by rcases M4 hx with rfl|rfl|rfl|rfl|rfl|rfl<;>(unfold a1K a6O;simp [idx]))
 · intro h n hn;simp only [a6O,List.mem_cons,List.not_mem_nil,or_false]at hn;rcases hn with rfl|rfl|rfl|rfl|rfl|rfl
   · exact h 0 (by decide)
   · exact h 1 (by decide)
   · exact h 2 (by decide)
   · exact h 3 (by decide)
   · exact h 4 (by decide)
   · exact h 5 (by decide)
def kn1 (m:d9) (K:I36) (i:Nat):I36:=c8f K m.From (c7h (a1K K m.From) (i:Int) (if G9 m.Have (i:Int)>G9 (a1K K m.From) (i:Int)then G9 m.Have (i:Int)else G9 (a1K K m.From) (i:Int)))
def knK (m:d9) (K:I36) (k:Nat):I36:=(List.range k).foldl (kn1 m) K
def moK (a:Bool) (h c:I6) (k:Nat):Bool:=(List.range k).foldl (fun(a:Bool) (i:Nat)=>a||decide (G9 h (i:Int)>G9 c (i:Int))) a
theorem c6f (m:d9) (K:I36) (k:Nat):knK m K (k+1)=kn1 m (knK m K k) k:=by unfold knK;rw [List.range_succ,List.foldl_append];rfl
theorem c7u (a:Bool) (h c:I6) (k:Nat):moK a h c (k+1)=(moK a h c k||decide (G9 h (k:Int)>G9 c (k:Int))):=by unfold moK;rw [List.range_succ,List.foldl_append];rfl
theorem b7z (m:d9) (hf:w7 m.From) (me:Int) (b:m9) (w:List b9) (K:I36) (hw:Written w):q8 (F9 m) (false,0,⟨⟨me,b,w,K⟩⟩)=some (moK false m.Have (L5 w) 6,6,⟨⟨me,b,w,knK m K 6⟩⟩):=by
 have hwl:=hw.len
 exact a2j (body:=F9 m) (fun k=>(moK false m.Have (L5 w) k,(k:Int),(⟨⟨me,b,w,knK m K k⟩⟩:y4))) 6 (by omega) (moK false m.Have (L5 w) 6,6,⟨⟨me,b,w,knK m K 6⟩⟩) (fun k hk=>by
  have hk':w7 (k:Int):=by unfold w7;omega
  have hf':=hf;unfold w7 at hf';unfold F9;dsimp only;have e1:idx [m.Have.1,m.Have.2.1,m.Have.2.2.1,m.Have.2.2.2.1,m.Have.2.2.2.2.1,m.Have.2.2.2.2.2] (k:Int)=_:=c5k m.Have hk';have e2:idx [(knK m K k).1,(knK m K k).2.1,(knK m K k).2.2.1,(knK m K k).2.2.2.1,(knK m K k).2.2.2.2.1,(knK m K k).2.2.2.2.2] m.From=_:=c5Z (knK m K k) hf;have e3:=c5k (a1K (knK m K k) m.From) hk';unfold a5i at e3;rw [if_pos (by simp only [decide_eq_true_eq];omega),e1,Option.bind_some,q9 (by omega),q9 (by omega),e2,Option.bind_some,e3,Option.bind_some,q9 (by omega),q9 (by omega)];simp only [Option.bind_some];rw [e3,Option.bind_some,a3q _ (by omega) (fun r hr=>hw.dep hr),Option.bind_some,a5H _ hk',Option.bind_some,W_s (by omega),c6f,c7u,b5t w hk'];by_cases hm:moK false m.Have (L5 w) k=true
  · rw [if_pos hm,hm,Bool.true_or];rfl
  · rw [if_neg hm,Bool.eq_false_iff.2 hm,Bool.false_or];rfl) (by unfold F9;dsimp only;rw [if_neg (by decide)];rfl)
theorem b7Z (k:y4) (h:I6) (hw:Written k.Depot.Written):L0 k h=some ((I4 k.Depot.Written (G9 h)).take 6):=by
 have hwl:=hw.len;have hsl:(y8 k.Depot.Written).length=k.Depot.Written.length:=(O5 _).length_eq
 have hdel:o4 (y8 k.Depot.Written) h=some (I4 k.Depot.Written (G9 h)):=
  c5f (fun x=>B6 x h) (p:=fun r=>decide (r.At.No<G9 h r.At.Depot)) _ (fun x hx=>by
   have hd:=hw.dep ((O5 _).mem_iff.1 hx);have hd':=hd;unfold w7 at hd';have e:=c5k h hd;unfold a5i at e;show B6 x h=_;unfold B6;rw [q9 (by omega),e,Option.bind_some]) (by omega)
 have hbl:(I4 k.Depot.Written (G9 h)).length≤k.Depot.Written.length:=by
  unfold I4;have:=List.length_filter_le (fun r:b9=> !(decide (r.At.No<G9 h r.At.Depot))) (y8 k.Depot.Written);omega
 unfold L0 w8 j0;rw [q9 (by omega),Option.bind_some];dsimp only;rw [hdel,Option.bind_some]
 have hmin:(if 6<((I4 k.Depot.Written (G9 h)).length:Int)then(6:Int)else((I4 k.Depot.Written (G9 h)).length:Int))=((min 6 (I4 k.Depot.Written (G9 h)).length:Nat):Int):=by
  split<;>omega
 rw [hmin,q9 (by omega),Option.bind_some]
 have hsub:sub (I4 k.Depot.Written (G9 h)) 0 ((min 6 (I4 k.Depot.Written (G9 h)).length:Nat):Int).toNat=(I4 k.Depot.Written (G9 h)).take 6:=by
  unfold sub;rw [Int.toNat_natCast,List.drop_zero,Nat.sub_zero];rcases Nat.le_total 6 (I4 k.Depot.Written (G9 h)).length with h1|h1
  · rw [Nat.min_eq_left h1]
  · rw [Nat.min_eq_right h1,List.take_of_length_le (Nat.le_refl _),List.take_of_length_le h1]
 rw [hsub,q9 (by have:=List.length_take_le 6 (I4 k.Depot.Written (G9 h));omega),Option.bind_some]
open Classical in noncomputable def recvS (d : c8) (m : d9) : c8 × List d9 × Int :=
  if a1j d then
    if b5M m ∧ m.To = d.Me then
      match S5 a5b m.Records (d.Box, d.Written) with
      | .inr e => (zD, [], e)
      | .inl s => (⟨d.Me, ⟨s.1.Thread ++ s.1.Loose, []⟩, s.2, knK m d.Known 6⟩,
          if ((I4 s.2 (G9 m.Have)).take 6).length = 0 ∧ s.2.length = d.Written.length ∧ moK false m.Have (L5 s.2) 6 = false then [] else [⟨d.Me, m.From, L5 s.2, (I4 s.2 (G9 m.Have)).take 6⟩], 0)
    else (zD, [], 86)
  else (zD, [], 85)
theorem a9T (d:c8) (m:d9) (h:SzD d) (hm:SzM m):Q7 d m=some (recvS d m):=by
 have hb:=h.b;have hwl:=h.w;unfold Q7 recvS;rw [isValid_eq d h,Option.bind_some];by_cases hv:a1j d
 · rw [if_neg (by simp [hv]),if_pos hv,isMessage_eq m hm,Option.bind_some];by_cases h1:b5M m
   · rw [if_neg (by simp [h1])];by_cases h2:m.To=d.Me
     · rw [if_neg (by simp [h2]),if_pos ⟨h1,h2⟩];unfold a1b B8 j6 j0;rw [q9 (by omega),q9 (by omega),q9 (by omega)];simp only [Option.bind_some];obtain⟨l1,l2⟩:=b9b d m hv.2.1 h1;cases hr:S5 a5b m.Records (d.Box,d.Written)with
       |inr e=>rw [l2 e hr];rfl
       |inl s=>
        rw [l1 s hr,Option.bind_some];obtain⟨g1,g2⟩:=c3Z m m.Records (d.Box,d.Written) ⟨hv.2.1,Nat.le_refl _⟩ hr;have gl:=g1.len;have gw:=g1.1.len;dsimp only;unfold Y7 F0;dsimp only;rw [b9M s.1 (by omega),Option.bind_some,Option.bind_some,b7z m h1.1 d.Me _ s.2 d.Known g1.1,Option.bind_some];dsimp only;rw [a3q _ (by omega) (fun r hr=>g1.1.dep hr),Option.bind_some,Option.bind_some,b7Z _ m.Have g1.1,Option.bind_some];dsimp only;generalize (I4 s.2 (G9 m.Have)).take 6=B;by_cases c1:B.length=0
        · rw [if_pos (by simpa using c1)]
          by_cases c2:s.2.length=d.Written.length
          · rw [if_pos (by simp only [beq_iff_eq];omega)];by_cases c3:moK false m.Have (L5 s.2) 6=false
            · rw [if_pos (by simp [c3]),if_pos ⟨c1,c2,c3⟩]
            · rw [if_neg (by simpa using c3),if_neg (fun e=>c3 e.2.2)]
          · rw [if_neg (by simp only [beq_iff_eq];omega),if_neg (fun e=>c2 e.2.1)]
        · rw [if_neg (by simp only [beq_iff_eq];omega),if_neg (fun e=>c1 e.1)]
     · rw [if_pos (by simpa using h2),if_neg (fun e=>h2 e.2)]
   · rw [if_pos (by simp [h1]),if_neg (fun e=>h1 e.1)]
 · rw [if_pos (by simp [hv]),if_neg hv]
end Go.Proofs.YtggdlgclohnbaaaGreatDoor
namespace Go.Proofs.YtggdlgclohnbaaaGreatDoor
open Go Go.Sx
def I3 (i:Int):Prop:=0≤i∧i≤2
theorem I3.dep {i:Int} (h:I3 i):w7 i:=by unfold I3 at h;unfold w7;omega
theorem I3.cases {i:Int} (h:I3 i):i=0∨i=1∨i=2:=by unfold I3 at h;omega
def O4 (D:Int→c8) (f:Int→Nat) (h:Int):List b9:=(D h).Written.take (f h)
structure Inv (D:Int→c8) (f:Int→Nat) (n:Nat):Prop where
 bx:∀i,I3 i→Bx (D i).Box (D i).Written (f i)
 me:∀i,I3 i→(D i).Me=i
 dep:∀i,I3 i→∀r∈(D i).Written,I3 r.At.Depot∧(r.At.Depot≠i→r∈O4 D f r.At.Depot)
 kn:∀i,I3 i→∀k,w7 k→∀x,w7 x→0≤G9 (a1K (D i).Known k) x∧G9 (a1K (D i).Known k) x≤60∧(I3 k→G9 (a1K (D i).Known k) x≤((cnt (O4 D f k) x:Nat):Int))
 tot:cnt (D 0).Written 0+cnt (D 1).Written 1+cnt (D 2).Written 2≤n
structure X9 (D:Int→c8) (f:Int→Nat) (m:d9):Prop where
 a:I3 m.From
 b:I3 m.To
 ne:m.From≠m.To
 l:m.Records.length≤6
 r:∀r∈m.Records,r∈O4 D f m.From
 h:∀x,w7 x→0≤G9 m.Have x∧G9 m.Have x≤((cnt (O4 D f m.From) x:Nat):Int)
def a9M (D:Int→c8):List b9:=(D 0).Written.filter (fun r=>r.At.Depot==0)++((D 1).Written.filter (fun r=>r.At.Depot==1)++(D 2).Written.filter (fun r=>r.At.Depot==2))
theorem c0F {D:Int→c8} {r:b9}:r∈a9M D↔I3 r.At.Depot∧r∈(D r.At.Depot).Written:=by
 unfold a9M;simp only [List.mem_append,List.mem_filter,beq_iff_eq];constructor
 · rintro(⟨h1,h2⟩|⟨h1,h2⟩|⟨h1,h2⟩)
   · rw [h2];exact⟨by unfold I3;omega,h1⟩
   · rw [h2];exact⟨by unfold I3;omega,h1⟩
   · rw [h2];exact⟨by unfold I3;omega,h1⟩
 · rintro⟨h1,h2⟩;rcases h1.cases with h|h|h
   · rw [h]at h2;exact .inl ⟨h2,h⟩
   · rw [h]at h2;exact .inr (.inl ⟨h2,h⟩)
   · rw [h]at h2;exact .inr (.inr ⟨h2,h⟩)
section
variable {D : Int → c8} {f : Int → Nat} {n : Nat} {i : Int}
theorem a5F {r:b9} (h:r∈O4 D f i):r∈(D i).Written:=List.mem_of_mem_take h
theorem Inv.truth_once (h:Inv D f n):a1P (a9M D):=by
 have h0:=(h.bx 0 (by unfold I3;omega)).w.once.filter (fun r=>r.At.Depot==0);have h1:=(h.bx 1 (by unfold I3;omega)).w.once.filter (fun r=>r.At.Depot==1);have h2:=(h.bx 2 (by unfold I3;omega)).w.once.filter (fun r=>r.At.Depot==2);unfold a1P a9M at*;rw [List.pairwise_append,List.pairwise_append];refine⟨h0,⟨h1,h2,fun a ha b hb e=> ?_⟩,fun a ha b hb e=> ?_⟩
 · have a1:=(List.mem_filter.1 ha).2;have b1:=(List.mem_filter.1 hb).2;simp only [beq_iff_eq]at a1 b1;rw [e]at a1;omega
 · have a1:=(List.mem_filter.1 ha).2;simp only [beq_iff_eq]at a1;rcases List.mem_append.1 hb with hb|hb
   · have b1:=(List.mem_filter.1 hb).2;simp only [beq_iff_eq]at b1;rw [e]at a1;omega
   · have b1:=(List.mem_filter.1 hb).2;simp only [beq_iff_eq]at b1;rw [e]at a1;omega
theorem Inv.truth_len (h:Inv D f n):(a9M D).length≤n:=by
 have:=h.tot;unfold a9M;simp only [List.length_append,←List.countP_eq_length_filter];unfold cnt at this;omega
theorem Inv.truth_mem (h:Inv D f n) (hi:I3 i) {r:b9} (hr:r∈(D i).Written):r∈a9M D:=by
 obtain⟨h1,h2⟩:=h.dep i hi r hr;refine c0F.2 ⟨h1, ?_⟩;by_cases e:r.At.Depot=i
 · rw [e];exact hr
 · exact a5F (h2 e)
theorem Inv.wlen (h:Inv D f n) (hi:I3 i):(D i).Written.length≤n:=Nat.le_trans (b1u (h.bx i hi).w.once fun _ hr=>h.truth_mem hi hr) h.truth_len
theorem Inv.valid (h:Inv D f n) (hi:I3 i):a1j (D i):=⟨by rw [h.me i hi];exact hi.dep,HB.of (h.bx i hi),b6Q.2 fun k hk=>b1K.2 fun x hx=>⟨(h.kn i hi k hk x hx).1,(h.kn i hi k hk x hx).2.1⟩⟩
theorem b6C (h:Inv D f n) (hi:I3 i) (x:Int):cnt (O4 D f i) x≤60:=by
 have h1:=b8Z (O4 D f i) x;have h2:=(h.bx i hi).w.len;have h3:=List.length_take_le (f i) (D i).Written;have h4:=List.length_take_le' (f i) (D i).Written;unfold O4 at h1⊢;omega
theorem X9.v {m:d9} (h:Inv D f n) (hm:X9 D f m):b5M m:=⟨hm.a.dep,hm.b.dep,hm.ne,b1K.2 fun x hx=>⟨(hm.h x hx).1,by have:=(hm.h x hx).2;have:=b6C h hm.a x;omega⟩,hm.l,fun r hr=>(h.bx _ hm.a).w.rec (a5F (hm.r r hr))⟩
def uq {α:Type} (D:Int→α) (i:Int) (d:α):Int→α:=fun k=>if k=i then d else D k
theorem M8 {α:Type} (D:Int→α) (i:Int) (d:α):uq D i d i=d:=if_pos rfl
theorem V6 {α:Type} (D:Int→α) (i:Int) (d:α) {k:Int} (h:k≠i):uq D i d k=D k:=if_neg h
theorem c0j {d:c8} {g:Nat} (hp:∃t,d.Written.take g=O4 D f i++t) (k:Int):∃t,O4 (uq D i d) (uq f i g) k=O4 D f k++t:=by
 unfold O4 at*;by_cases e:k=i
 · subst e;rw [M8,M8];exact hp
 · rw [V6 _ _ _ e,V6 _ _ _ e];exact⟨[],by simp⟩
theorem a5z {d:c8} {g:Nat} (hp:∃t,d.Written.take g=O4 D f i++t) {k:Int} {r:b9} (h:r∈O4 D f k):r∈O4 (uq D i d) (uq f i g) k:=by
 obtain⟨t,ht⟩:=c0j hp k;rw [ht];exact List.mem_append_left _ h
theorem a9Q {d:c8} {g:Nat} (hp:∃t,d.Written.take g=O4 D f i++t) (k x:Int):cnt (O4 D f k) x≤cnt (O4 (uq D i d) (uq f i g) k) x:=by
 obtain⟨t,ht⟩:=c0j hp k;rw [ht,a6V];omega
theorem X9.up {d:c8} {g:Nat} (hp:∃t,d.Written.take g=O4 D f i++t) {m:d9} (hm:X9 D f m):X9 (uq D i d) (uq f i g) m:=
 ⟨hm.a,hm.b,hm.ne,hm.l,fun r hr=>a5z hp (hm.r r hr),fun x hx=>⟨(hm.h x hx).1,by have:=(hm.h x hx).2;have:=a9Q hp m.From x;omega⟩⟩
theorem Inv.up (h:Inv D f n) (hi:I3 i) {d:c8} {g k:Nat} (hb:Bx d.Box d.Written g) (hm:d.Me=i) (hp:∃t,d.Written.take g=O4 D f i++t)
 (hd:∀r∈d.Written,I3 r.At.Depot∧(r.At.Depot≠i→r∈O4 D f r.At.Depot))
 (hk:∀k,w7 k→∀x,w7 x→0≤G9 (a1K d.Known k) x∧G9 (a1K d.Known k) x≤60∧(I3 k→G9 (a1K d.Known k) x≤((cnt (O4 D f k) x:Nat):Int)))
 (ht:cnt d.Written i≤cnt (D i).Written i+k):Inv (uq D i d) (uq f i g) (n+k):=by
 refine⟨fun j hj=> ?_,fun j hj=> ?_,fun j hj r hr=> ?_,fun j hj k hk' x hx=> ?_, ?_⟩
 · by_cases e:j=i
   · subst e;rw [M8,M8];exact hb
   · rw [V6 _ _ _ e,V6 _ _ _ e];exact h.bx j hj
 · by_cases e:j=i
   · subst e;rw [M8];exact hm
   · rw [V6 _ _ _ e];exact h.me j hj
 · by_cases e:j=i
   · subst e;rw [M8]at hr;obtain⟨h1,h2⟩:=hd r hr;exact⟨h1,fun hne=>a5z hp (h2 hne)⟩
   · rw [V6 _ _ _ e]at hr;obtain⟨h1,h2⟩:=h.dep j hj r hr;exact⟨h1,fun hne=>a5z hp (h2 hne)⟩
 · have hc:=a9Q hp k x;by_cases e:j=i
   · subst e;rw [M8];obtain⟨h1,h2,h3⟩:=hk k hk' x hx;exact⟨h1,h2,fun h4=>by have:=h3 h4;omega⟩
   · rw [V6 _ _ _ e];obtain⟨h1,h2,h3⟩:=h.kn j hj k hk' x hx;exact⟨h1,h2,fun h4=>by have:=h3 h4;omega⟩
 · have:=h.tot;rcases hi.cases with rfl|rfl|rfl
   · rw [M8,V6 _ _ _ (by decide),V6 _ _ _ (by decide)];omega
   · rw [M8,V6 _ _ _ (by decide),V6 _ _ _ (by decide)];omega
   · rw [M8,V6 _ _ _ (by decide),V6 _ _ _ (by decide)];omega
def b9C (r:b9):Prop:=(1≤r.Kind∧r.Kind≤60)∧(0≤r.Day∧r.Day≤100000)∧(0≤r.Known∧r.Known≤100000)∧a2O r.Text∧r.Of=⟨0,0⟩
theorem Inv.note (h:Inv D f n) (hn:n≤40) (hi:I3 i) {r:b9} (hr:b9C r):∃d x,noteS (D i) r=(d,x,0)∧x.At.Depot=i∧Inv (uq D i d) (uq f i (f i)) (n+1)∧∀m,X9 D f m→X9 (uq D i d) (uq f i (f i)) m:=by
 have hb:=h.bx i hi;have hme:=h.me i hi;have hwl:=h.wlen hi;have hc:=b8Z (D i).Written (D i).Me;have hi':=hi;unfold I3 at hi';obtain⟨r1,r2,r3,r4,r5⟩:=hr
 have hk:s9 (X7 (D i) r):=by
  unfold s9 X7;refine⟨⟨⟨by dsimp only;omega,by dsimp only;omega⟩,by dsimp only;omega,by dsimp only;omega⟩,⟨by dsimp only;omega,by dsimp only;omega⟩,r2,r3,r4, ?_⟩;have:r.Kind≠0:=by omega
  simp [this,r5]
 have hx:P1 (D i).Written (X7 (D i) r):=⟨by omega,by unfold X7;rfl⟩;obtain⟨hno,he⟩:=b9u hb.w hk hx;have hws:L8 (D i).Box (D i).Written (X7 (D i) r)=(⟨(D i).Box.Thread,(D i).Box.Loose++a0F (C5 (X7 (D i) r)) ((D i).Written.length:Int)⟩,(D i).Written++ [X7 (D i) r],0):=by unfold L8;rw [if_neg hno,if_pos he]
 have hpre:∃t,((D i).Written++ [X7 (D i) r]).take (f i)=O4 D f i++t:=⟨[],by rw [List.take_append_of_le_length hb.f,List.append_nil];rfl⟩;refine⟨⟨(D i).Me,(L8 (D i).Box (D i).Written (X7 (D i) r)).1,(L8 (D i).Box (D i).Written (X7 (D i) r)).2.1,(D i).Known⟩,X7 (D i) r, ?_,hme, ?_⟩
 · unfold noteS;rw [if_pos (h.valid hi),if_pos he]
 · rw [hws];refine⟨h.up hi (hb.more hk hx) hme hpre (fun y hy=> ?_) (h.kn i hi) ?_,fun m hm=>hm.up hpre⟩
   · rcases List.mem_append.1 hy with hy|hy
     · exact h.dep i hi y hy
     · have:=List.mem_singleton.1 hy;subst this;exact⟨by show I3 (D i).Me;rw [hme];exact hi,fun hne=>absurd hme hne⟩
   · dsimp only;rw [a0Y];split<;>omega
theorem Inv.tell (h:Inv D f n) (hi:I3 i) {to:Int} (ht:I3 to) (hne:to≠i):∃d m,tellS (D i) to=(d,m,0)∧d.Written=(D i).Written∧m=⟨i,to,L5 (D i).Written, []⟩∧Inv (uq D i d) (uq f i (D i).Written.length) n∧X9 (uq D i d) (uq f i (D i).Written.length) m∧
 ∀m,X9 D f m→X9 (uq D i d) (uq f i (D i).Written.length) m:=by
 have hb:=h.bx i hi;have hme:=h.me i hi;have hpre:∃t,(D i).Written.take (D i).Written.length=O4 D f i++t:=⟨(D i).Written.drop (f i),by unfold O4;rw [List.take_append_drop,List.take_length]⟩;refine⟨⟨(D i).Me,⟨(D i).Box.Thread++(D i).Box.Loose, []⟩,(D i).Written,(D i).Known⟩,⟨(D i).Me,to,L5 (D i).Written, []⟩, ?_,rfl,by rw [hme], ?_, ?_,fun m hm=>X9.up (d:=⟨(D i).Me,⟨(D i).Box.Thread++(D i).Box.Loose, []⟩,(D i).Written,(D i).Known⟩) hpre hm⟩
 · unfold tellS;rw [if_pos (h.valid hi),if_pos ⟨ht.dep,by rw [hme];exact hne⟩]
 · exact h.up (k:=0) hi hb.bound hme hpre (h.dep i hi) (h.kn i hi) (by dsimp only;omega)
 · refine⟨by dsimp only;rw [hme];exact hi,ht,by dsimp only;rw [hme];exact fun e=>hne e.symm,by simp,(fun r hr=>by cases hr),fun x hx=> ?_⟩;dsimp only;rw [b5t _ hx,hme];unfold O4;rw [M8,M8,List.take_length];omega
theorem Inv.rest (h:Inv D f n) (hi:I3 i) (picks:List Int):∃d g,restS (D i) picks=(d,0)∧(∃t,d.Written=O4 D f i++t)∧Inv (uq D i d) (uq f i g) n∧∀m,X9 D f m→X9 (uq D i d) (uq f i g) m:=by
 have hb:=h.bx i hi;have hme:=h.me i hi;obtain⟨g,h1,h2,h3⟩:=hb.open_fall picks
 have hw:(D i).Written.take g=O4 D f i++((D i).Written.take g).drop (f i):=by
  unfold O4;have:=List.take_append_drop (f i) ((D i).Written.take g);rw [List.take_take,Nat.min_eq_left h1]at this;exact this.symm
 have hpre:∃t,((D i).Written.take g).take g=O4 D f i++t:=⟨_,by rw [List.take_take,Nat.min_self];exact hw⟩;refine⟨⟨(D i).Me,⟨ofF ((D i).Written.take g), []⟩,(D i).Written.take g,zT⟩,g, ?_,⟨_,hw⟩, ?_,fun m hm=>hm.up hpre⟩
 · unfold restS;rw [if_pos (h.valid hi),h3]
 · refine h.up (k:=0) hi (hb.opened g h2) hme hpre (fun r hr=>h.dep i hi r (List.mem_of_mem_take hr)) (fun k hk x hx=> ?_) ?_
   · have e:G9 (a1K zT k) x=0:=by
      rcases M4 hk with rfl|rfl|rfl|rfl|rfl|rfl<;>rcases M4 hx with rfl|rfl|rfl|rfl|rfl|rfl<;>rfl
     dsimp only;rw [e];omega
   · have:=List.Sublist.countP_le (p:=fun r:b9=>r.At.Depot==i) (List.take_sublist g (D i).Written);unfold cnt;dsimp only;omega
theorem a7J {T:List b9} (hT:a1P T) (hl:T.length≤59):∀(rs:List b9) {b:m9} {w:List b9} {g:Nat},Bx b w g→(∀r∈w,r∈T)→(∀r∈rs,r∈T∧s9 r)→∃b',S5 a5b rs (b,w)= .inl (b',rs.foldl a0K w)∧Bx b' (rs.foldl a0K w) g
 | [],b,w,g,hb,_,_=>⟨b,rfl,hb⟩
 |r::rs,b,w,g,hb,hs,hr=>by
  obtain⟨r1,r2⟩:=hr r List.mem_cons_self;have hr':∀r∈rs,r∈T∧s9 r:=fun x hx=>hr x (List.mem_cons_of_mem _ hx)
  unfold S5 a5b;dsimp only;rw [List.foldl_cons];unfold a0K;by_cases h1:((cnt w r.At.Depot:Nat):Int)<r.At.No
  · rw [if_pos h1,if_pos (.inl h1)];exact a7J hT hl rs hb hs hr'
  · rw [if_neg h1];by_cases h2:r∈w
    · rw [if_pos (b9L hb.w h2),if_pos (.inr h2)];unfold L8;rw [if_pos h2];exact a7J hT hl rs hb hs hr'
    · have hn:=b6b hb.w hT hs hl r1 r2 h1 h2;obtain⟨_,he⟩:=b9u hb.w r2 hn;rw [if_pos he,if_neg (by rw [not_or];exact⟨h1,h2⟩)];unfold L8;rw [if_neg h2,if_pos he]
      exact a7J hT hl rs (hb.more r2 hn) (fun x hx=>by
       rcases List.mem_append.1 hx with hx|hx
       · exact hs x hx
       · rw [List.mem_singleton.1 hx];exact r1) hr'
theorem b5V (d:Int):∀(rs w:List b9),(∀r∈rs,r.At.Depot=d→r∈w)→cnt (rs.foldl a0K w) d=cnt w d
 | [],_,_=>rfl
 |r::rs,w,h=>by
  rw [List.foldl_cons]
  have h1:cnt (a0K w r) d=cnt w d:=by
   unfold a0K;split
   · rfl
   · rename_i hn;rw [not_or]at hn;rw [a0Y,if_neg (fun e=>hn.2 (h r List.mem_cons_self e))];rfl
  rw [b5V d rs (a0K w r) (fun x hx e=> ?_),h1];have:=h x (List.mem_cons_of_mem _ hx) e;unfold a0K;split
  · exact this
  · exact List.mem_append_left _ this
theorem b5N {m:d9} (hm:X9 D f m) (h:Inv D f n) {K:I36} (hK:∀k,w7 k→∀x,w7 x→0≤G9 (a1K K k) x∧G9 (a1K K k) x≤60∧(I3 k→G9 (a1K K k) x≤((cnt (O4 D f k) x:Nat):Int))):
 ∀j,j≤6→∀k,w7 k→∀x,w7 x→0≤G9 (a1K (knK m K j) k) x∧G9 (a1K (knK m K j) k) x≤60∧(I3 k→G9 (a1K (knK m K j) k) x≤((cnt (O4 D f k) x:Nat):Int))
 |0,_=>hK
 |j+1,hj=>by
  intro k hk x hx;have ih:=b5N hm h hK j (by omega);have hj':w7 (j:Int):=by unfold w7;omega
  rw [c6f];unfold kn1;rw [c2u _ _ _ hk];by_cases e:k=m.From
  · subst e;rw [if_pos rfl,c2C _ _ _ hx];by_cases e2:x=(j:Int)
    · subst e2;rw [if_pos rfl];have h1:=ih m.From hk (j:Int) hj';have h2:=hm.h (j:Int) hj';have h3:=b6C h hm.a (j:Int);split
      · exact⟨h2.1,by omega,fun _=>h2.2⟩
      · exact h1
    · rw [if_neg e2];exact ih m.From hk x hx
  · rw [if_neg e];exact ih k hk x hx
theorem Inv.recv (h:Inv D f n) (hn:n≤40) {m:d9} (hm:X9 D f m):∃d ms,recvS (D m.To) m=(d,ms,0)∧d.Written=m.Records.foldl a0K (D m.To).Written∧
 ms=(if((I4 d.Written (G9 m.Have)).take 6).length=0∧d.Written.length=(D m.To).Written.length∧moK false m.Have (L5 d.Written) 6=false then []else [⟨m.To,m.From,L5 d.Written,(I4 d.Written (G9 m.Have)).take 6⟩])∧
 Inv (uq D m.To d) (uq f m.To d.Written.length) n∧(∀x∈ms,X9 (uq D m.To d) (uq f m.To d.Written.length) x)∧
 ∀x,X9 D f x→X9 (uq D m.To d) (uq f m.To d.Written.length) x:=by
 have hi:=hm.b;have hb:=h.bx _ hi;have hme:=h.me _ hi;have hv:=X9.v h hm;have hT:=h.truth_once;have hTl:=h.truth_len;have hrs:∀r∈m.Records,r∈a9M D∧s9 r:=fun r hr=>⟨h.truth_mem hm.a (a5F (hm.r r hr)),hv.2.2.2.2.2 r hr⟩
 --a record that comes is O4 at its own depot
 have hown:∀r∈m.Records,I3 r.At.Depot∧r∈O4 D f r.At.Depot:=fun r hr=>by
  have h1:=hm.r r hr;obtain⟨g1,g2⟩:=h.dep _ hm.a r (a5F h1);refine⟨g1, ?_⟩;by_cases e:r.At.Depot=m.From
  · rw [e];exact h1
  · exact g2 e
 obtain⟨b',h1,h2⟩:=a7J hT (by omega) m.Records hb (fun r hr=>h.truth_mem hi hr) hrs;obtain⟨g1,g2,t,g3⟩:=a6H hT (by omega) m.Records hb.w (fun r hr=>h.truth_mem hi hr) hrs
 have hcn:=b5V m.To m.Records (D m.To).Written (fun r hr e=>by
  have:=(hown r hr).2;rw [e]at this;exact a5F this)
 generalize hW:m.Records.foldl a0K (D m.To).Written=w' at*
 have hpre:∃t,w'.take w'.length=O4 D f m.To++t:=by
  refine⟨(D m.To).Written.drop (f m.To)++t, ?_⟩;unfold O4;rw [List.take_length,g3,←List.append_assoc,List.take_append_drop]
 refine⟨⟨(D m.To).Me,⟨b'.Thread++b'.Loose, []⟩,w',knK m (D m.To).Known 6⟩,_, ?_,rfl,rfl, ?_, ?_,fun x hx=>hx.up hpre⟩
 · unfold recvS;rw [if_pos (h.valid hi),if_pos ⟨hv,hme.symm⟩,h1,hme]
 · refine h.up (k:=0) hi h2.bound hme hpre (fun r hr=> ?_) (b5N hm h (h.kn _ hi) 6 (Nat.le_refl _)) (by dsimp only;omega);rcases g2 r hr with h3|h3
   · exact h.dep _ hi r h3
   · exact⟨(hown r h3).1,fun _=>(hown r h3).2⟩
 · intro x hx;split at hx
   · cases hx
   · have:=List.mem_singleton.1 hx;subst this;refine⟨hi,hm.a,fun e=>hm.ne e.symm,List.length_take_le _ _,fun r hr=> ?_,fun x hx=> ?_⟩
     · have:=(b8t.1 (List.mem_of_mem_take hr)).1;unfold O4;rw [M8,M8,List.take_length];exact this
     · dsimp only;rw [b5t _ hx];unfold O4;rw [M8,M8,List.take_length];omega
end
end Go.Proofs.YtggdlgclohnbaaaGreatDoor
namespace Go.Proofs.YtggdlgclohnbaaaGreatDoor
open Go Go.RowKit Go.Sx
theorem a3b (D:Int→c8) {i:Int} (h:I3 i):idx [D 0,D 1,D 2] i=some (D i):=by
 rcases h.cases with rfl|rfl|rfl<;>rfl
theorem a8L (D:Int→c8) (i:Int) (y:c8):((if(i==0)=true then y else D 0),(if(i==1)=true then y else D 1),(if(i==2)=true then y else D 2))=(uq D i y 0,uq D i y 1,uq D i y 2):=by
 rw [b6O i 0,b6O i 1,b6O i 2];rfl
theorem b9P {me b:Int} (h:I3 me) (hb:0≤b∧b≤1):I3 ((W ((W (me+1))+b)).tmod 3)∧(W ((W (me+1))+b)).tmod 3≠me:=by
 have hb':b=0∨b=1:=by omega
 unfold I3;rcases h.cases with rfl|rfl|rfl<;>rcases hb' with rfl|rfl<;>decide
theorem Inv.more {D:Int→c8} {f:Int→Nat} {n m:Nat} (h:Inv D f n) (hm:n≤m):Inv D f m:=⟨h.bx,h.me,h.dep,h.kn,Nat.le_trans h.tot hm⟩
theorem c4b (n:N5) (h:c9l n):∃r,a2V n=some r∧b9C r:=by
 obtain⟨t,h1,h2⟩:=c3g n.2.2.2.2 h.2.2.2.2;unfold a2V;rw [a3v n.2.1 9 h.2.1 (by omega),Option.bind_some,a3v n.2.2.1 50 h.2.2.1 (by omega),Option.bind_some,a3v n.2.2.2.1 50 h.2.2.2.1 (by omega),Option.bind_some,h1,Option.bind_some];refine⟨_,rfl, ?_⟩;have a1:=Int.emod_nonneg n.2.1 (b:=9) (by omega);have a2:=Int.emod_lt_of_pos n.2.1 (b:=9) (by omega);have b1:=Int.emod_nonneg n.2.2.1 (b:=50) (by omega);have b2:=Int.emod_lt_of_pos n.2.2.1 (b:=50) (by omega);have c1:=Int.emod_nonneg n.2.2.2.1 (b:=50) (by omega);have c2:=Int.emod_lt_of_pos n.2.2.2.1 (b:=50) (by omega);refine⟨?_,⟨by dsimp only;omega,by dsimp only;omega⟩,⟨by dsimp only;omega,by dsimp only;omega⟩,h2,rfl⟩;dsimp only;rw [a6B (by omega)];omega
structure St (D:Int→c8) (f:Int→Nat) (l:List d9) (n:Nat):Prop where
 inv:Inv D f n
 ms:∀m∈l,X9 D f m
 len:l.length≤n
theorem St.more {D:Int→c8} {f:Int→Nat} {ms:List d9} {n m:Nat} (h:St D f ms n) (hm:n≤m):St D f ms m:=⟨h.inv.more hm,h.ms,Nat.le_trans h.len hm⟩
theorem c2r {x:Int} {m:Nat} (h:0<m):0≤x % (m:Int)∧x % (m:Int)<(m:Int):=⟨Int.emod_nonneg _ (by omega),Int.emod_lt_of_pos _ (by omega)⟩
theorem c9J (x:Int):I3 (x % 3):=by unfold I3;omega
theorem c7y (x:Int):0≤x % 2∧x % 2≤1:=by omega
theorem b9r {α:Type} {l:List α} {a b:Nat} {x:α} (h:x∈l.take a++l.drop b):x∈l:=by
 rcases List.mem_append.1 h with h|h
 · exact List.mem_of_mem_take h
 · exact List.mem_of_mem_drop h
def a4O (i:Int):c8:=⟨i,⟨[], []⟩, [],zT⟩
theorem b6I {k x:Int} (hk:w7 k) (hx:w7 x):G9 (a1K zT k) x=0:=by
 rcases M4 hk with rfl|rfl|rfl|rfl|rfl|rfl<;>rcases M4 hx with rfl|rfl|rfl|rfl|rfl|rfl<;>rfl
theorem c5Q:St a4O (fun _=>0) [] 0:=by
 refine⟨⟨fun i _=>Bx.nil,fun i _=>rfl,(fun i _ r hr=>nomatch hr),fun i _ k hk x hx=> ?_,by simp [a4O,cnt]⟩,(fun m hm=>nomatch hm),by simp⟩;show 0≤G9 (a1K zT k) x∧_;rw [show G9 (a1K (a4O i).Known k) x=0 from b6I hk hx,b6I hk hx];omega
end Go.Proofs.YtggdlgclohnbaaaGreatDoor
namespace Go.Proofs.YtggdlgclohnbaaaGreatDoor
open Go Go.RowKit Go.Sx
theorem c2g (l:List Z8) (Y2:List d9) (k:Nat) (hk:k<l.length) (hk14:k<14) (hy:Z8.G l[k]) {D:Int→c8} {f:Int→Nat} {ms:List d9} (h:St D f ms k):
 ∃D' f' ms',H7 l (Y2,(k:Int),(D 0,D 1,D 2),ms)=some (.inl (Y2,((k+1:Nat):Int),(D' 0,D' 1,D' 2),ms'))∧St D' f' ms' (k+1):=by
 obtain⟨hkd,hde,hto,hrec,hpk⟩:=hy;have hrb:reachBytes≤9223372036854775800:=by decide
 have pk1:b2j l[k].Picks:=fun x hx=>hpk.2.2 x hx
 have pk2:l[k].Picks.length≤9223372036854775800:=by omega
 have hme:=c9J l[k].Depot;have hme':=hme;unfold I3 at hme';have hlen:=h.len;unfold H7;dsimp only;rw [if_pos (by simp only [decide_eq_true_eq];omega),if_pos (by simp only [decide_eq_true_eq];omega),V3 hk,Option.bind_some,a3v _ 3 hde (by omega),Option.bind_some,a3v _ 8 hkd (by omega),Option.bind_some];generalize l[k].Depot % 3=me at hme hme';by_cases h3:l[k].Kind % 8=3
 · rw [if_pos (by simpa using h3)]
   obtain⟨t1,t2⟩:=b9P hme (c7y l[k].To);rw [q9 (by omega),a3b D hme,Option.bind_some,a3v _ 2 hto (by omega),Option.bind_some,b7C _ _ (h.inv.valid hme).sz];obtain⟨d,m,e1,_,_,e2,e3,e4⟩:=h.inv.tell hme t1 t2;rw [e1,Option.bind_some];dsimp only;rw [if_neg (by decide),q9 (by omega)];simp only [Option.bind_some];rw [q9 (by simp only [List.length_cons,List.length_nil];omega),a8L,W_s (by omega)];refine⟨_,_,_,rfl,e2.more (Nat.le_succ k),fun x hx=> ?_,by simp only [List.length_append,List.length_cons,List.length_nil];omega⟩;rcases List.mem_append.1 hx with hx|hx
   · exact e4 x (h.ms x hx)
   · rw [List.mem_singleton.1 hx];exact e3
 rw [if_neg (by simpa using h3)]
 by_cases h4:l[k].Kind % 8=4
 · rw [if_pos (by simpa using h4)]
   obtain⟨t1,t2⟩:=b9P hme (c7y l[k].To);rw [q9 (by omega),a3b D hme,Option.bind_some,a3v _ 2 hto (by omega),Option.bind_some,b7C _ _ (h.inv.valid hme).sz];obtain⟨d,m,e1,_,_,e2,e3,e4⟩:=h.inv.tell hme t1 t2;rw [e1,Option.bind_some];dsimp only;rw [if_neg (by decide),q9 (by omega)];simp only [Option.bind_some];rw [q9 (by simp only [List.length_cons,List.length_nil];omega),a8L,W_s (by omega)];refine⟨_,_,_,rfl,e2.more (Nat.le_succ k),fun x hx=> ?_,by simp only [List.length_append,List.length_cons,List.length_nil];omega⟩;rcases List.mem_append.1 hx with hx|hx
   · exact e4 x (h.ms x hx)
   · rw [List.mem_singleton.1 hx];exact e3
 rw [if_neg (by simpa using h4)]
 by_cases h5:l[k].Kind % 8=5
 · rw [if_pos (by simpa using h5)]
   by_cases h0:ms.length=0
   · rw [if_pos (by simpa using h0),W_s (by omega)]
     exact⟨_,_,_,rfl,h.more (Nat.le_succ k)⟩
   · obtain⟨q1,q2⟩:=c2r (x:=l[k].To) (m:=ms.length) (by omega);rw [if_neg (by simp only [beq_iff_eq];omega),a3v _ (ms.length:Int) hto (by omega),Option.bind_some];obtain⟨q,hq⟩:∃q:Nat,l[k].To % (ms.length:Int)=(q:Int):=⟨(l[k].To % (ms.length:Int)).toNat,by omega⟩;rw [hq]at q1 q2⊢;have hql:q<ms.length:=by omega
     rw [V3 hql,Option.bind_some,Option.bind_some];have hm:=h.ms ms[q] (List.getElem_mem hql);have hi:=hm.b;have hi':=hi;unfold I3 at hi';rw [if_neg (by simp only [decide_eq_true_eq];omega),if_neg (by simp only [decide_eq_true_eq];omega),q9 (by omega),a3b D hi,Option.bind_some,a9T _ _ (h.inv.valid hi).sz (X9.v h.inv hm).sz];obtain⟨d,Y5,e1,_,eb,e2,e3,e4⟩:=h.inv.recv (by omega) hm;have hbl:Y5.length≤1:=by rw [eb];split<;>simp
     rw [e1,Option.bind_some];dsimp only;rw [if_neg (by decide),if_neg (by simp only [decide_eq_true_eq];omega),q9 (by omega)];simp only [Option.bind_some];rw [a8L,W_s (k:=k) (by omega)];by_cases hpar:l[k].Depot.tmod 2=0
     · have c1:sub ms 0 ((q:Int)).toNat=ms.take q:=by unfold sub;rw [Int.toNat_natCast,List.drop_zero,Nat.sub_zero]
       have c2:sub ms (((q+1:Nat):Int)).toNat ms.length=ms.drop (q+1):=by unfold sub;rw [Int.toNat_natCast,List.take_of_length_le (by simp)]
       rw [if_pos (by simpa using hpar),q9 (by omega),W_s (k:=q) (by omega)]
       rw [q9 (by omega),q9 (by simp only [List.length_nil,Int.toNat_natCast];omega),c1,c2,q9 (by simp only [Int.toNat_natCast,List.length_take];omega),q9 (by simp only [List.length_append,List.length_take,List.length_drop];omega)];refine⟨_,_,_,rfl,e2.more (Nat.le_succ k),fun x hx=> ?_,by simp only [List.length_append,List.length_take,List.length_drop];omega⟩;rcases List.mem_append.1 hx with hx|hx
       · exact e4 x (h.ms x (b9r hx))
       · exact e3 x hx
     · rw [if_neg (by simpa using hpar),q9 (by omega)]
       refine⟨_,_,_,rfl,e2.more (Nat.le_succ k),fun x hx=> ?_,by simp only [List.length_append];omega⟩;rcases List.mem_append.1 hx with hx|hx
       · exact e4 x (h.ms x hx)
       · exact e3 x hx
 rw [if_neg (by simpa using h5)]
 by_cases h6:l[k].Kind % 8=6
 · rw [if_pos (by simpa using h6)]
   by_cases h0:ms.length=0
   · rw [if_pos (by simpa using h0),W_s (by omega)]
     exact⟨_,_,_,rfl,h.more (Nat.le_succ k)⟩
   · obtain⟨q1,q2⟩:=c2r (x:=l[k].To) (m:=ms.length) (by omega);rw [if_neg (by simp only [beq_iff_eq];omega),a3v _ (ms.length:Int) hto (by omega),Option.bind_some];obtain⟨q,hq⟩:∃q:Nat,l[k].To % (ms.length:Int)=(q:Int):=⟨(l[k].To % (ms.length:Int)).toNat,by omega⟩;rw [hq]at q1 q2⊢;have hql:q<ms.length:=by omega
     rw [V3 hql,Option.bind_some,Option.bind_some];have hm:=h.ms ms[q] (List.getElem_mem hql);have hi:=hm.b;have hi':=hi;unfold I3 at hi';rw [if_neg (by simp only [decide_eq_true_eq];omega),if_neg (by simp only [decide_eq_true_eq];omega),q9 (by omega),a3b D hi,Option.bind_some,a9T _ _ (h.inv.valid hi).sz (X9.v h.inv hm).sz];obtain⟨d,Y5,e1,_,eb,e2,e3,e4⟩:=h.inv.recv (by omega) hm;have hbl:Y5.length≤1:=by rw [eb];split<;>simp
     rw [e1,Option.bind_some];dsimp only;rw [if_neg (by decide),if_neg (by simp only [decide_eq_true_eq];omega),q9 (by omega)];simp only [Option.bind_some];rw [a8L,W_s (k:=k) (by omega)];by_cases hpar:l[k].Depot.tmod 2=0
     · have c1:sub ms 0 ((q:Int)).toNat=ms.take q:=by unfold sub;rw [Int.toNat_natCast,List.drop_zero,Nat.sub_zero]
       have c2:sub ms (((q+1:Nat):Int)).toNat ms.length=ms.drop (q+1):=by unfold sub;rw [Int.toNat_natCast,List.take_of_length_le (by simp)]
       rw [if_pos (by simpa using hpar),q9 (by omega),W_s (k:=q) (by omega)]
       rw [q9 (by omega),q9 (by simp only [List.length_nil,Int.toNat_natCast];omega),c1,c2,q9 (by simp only [Int.toNat_natCast,List.length_take];omega),q9 (by simp only [List.length_append,List.length_take,List.length_drop];omega)];refine⟨_,_,_,rfl,e2.more (Nat.le_succ k),fun x hx=> ?_,by simp only [List.length_append,List.length_take,List.length_drop];omega⟩;rcases List.mem_append.1 hx with hx|hx
       · exact e4 x (h.ms x (b9r hx))
       · exact e3 x hx
     · rw [if_neg (by simpa using hpar),q9 (by omega)]
       refine⟨_,_,_,rfl,e2.more (Nat.le_succ k),fun x hx=> ?_,by simp only [List.length_append];omega⟩;rcases List.mem_append.1 hx with hx|hx
       · exact e4 x (h.ms x hx)
       · exact e3 x hx
 rw [if_neg (by simpa using h6)]
 by_cases h7:l[k].Kind % 8=7
 · rw [if_pos (by simpa using h7)]
   rw [q9 (by omega),a3b D hme,Option.bind_some,a9Y _ _ (h.inv.valid hme).sz pk1 pk2];obtain⟨d,g,e1,_,e2,e4⟩:=h.inv.rest hme l[k].Picks;rw [e1,Option.bind_some];dsimp only;rw [if_neg (by decide),q9 (by omega)];simp only [Option.bind_some];rw [a8L,W_s (by omega)];exact⟨_,_,_,rfl,e2.more (Nat.le_succ k),fun x hx=>e4 x (h.ms x hx),by omega⟩
 rw [if_neg (by simpa using h7)]
 obtain⟨r,r1,r2⟩:=c4b l[k].Record hrec;rw [q9 (by omega),a3b D hme,Option.bind_some,r1,Option.bind_some,c3f _ _ (h.inv.valid hme).sz (by have:=r2.2.2.2.1.1;omega)];obtain⟨d,x,e1,ex,e2,e4⟩:=h.inv.note (by omega) hme r2;rw [e1,Option.bind_some];dsimp only;rw [if_neg (by decide),if_neg (by simp [ex]),q9 (by omega)];simp only [Option.bind_some];rw [a8L,W_s (by omega)];exact⟨_,_,_,rfl,e2,fun x hx=>e4 x (h.ms x hx),by omega⟩
end Go.Proofs.YtggdlgclohnbaaaGreatDoor
namespace Go.Proofs.YtggdlgclohnbaaaGreatDoor
open Go Go.RowKit Go.Sx
theorem b5q {R:Type} {body:Int→Option (Sum Int (Sum Int R))} (n:Nat) (hn:n≤9223372036854775800) (h:∀i:Nat,i<n→body (i:Int)=some (.inl ((i+1:Nat):Int))) (he:body (n:Int)=some (.inr (.inl (n:Int)))):q8 body 0=some (.inl (n:Int)):=by
 have key:=a3M n (by omega) (fun _=>(none:Option R)) 0 (Nat.zero_le _) (fun i _ h2=>h i h2) he;have key:q8 body 0=_:=key;rw [key,a2o _ _ (fun _ _ _=>rfl)];simp
theorem c4z:q8 R2 (0,(zD,zD,zD))=some (.inl (3,(a4O 0,a4O 1,a4O 2))):=by
 have key:=a2j (body:=R2) (fun k=>match k with|0=>(0,(zD,zD,zD))|1=>(1,(a4O 0,zD,zD))|2=>(2,(a4O 0,a4O 1,zD))|_=>(3,(a4O 0,a4O 1,a4O 2))) 3 (by omega) (.inl (3,(a4O 0,a4O 1,a4O 2))) (fun k hk=>by
  have:k=0∨k=1∨k=2:=by omega
  rcases this with rfl|rfl|rfl<;>rfl) rfl
 exact key
theorem c1g (l:List Z8) (hl:l.length≤9223372036854775800) (hy:∀y∈l,Z8.G y):∃D f ms,a2a l=some ((D 0,D 1,D 2),true)∧St D f ms 14:=by
 obtain⟨e,h1,D,f,ms,Y2,i,he,h2⟩:=a3J (body:=H7 l) (fun st=>∃(D:Int→c8) (f:Int→Nat) (ms Y2:List d9) (k:Nat),st=(Y2,(k:Int),(D 0,D 1,D 2),ms)∧St D f ms k∧k≤14∧k≤l.length) (fun st=>15-st.2.1.toNat)
  (fun e=>∃(D:Int→c8) (f:Int→Nat) (ms Y2:List d9) (i:Int),e= .inl (Y2,i,(D 0,D 1,D 2),ms)∧St D f ms 14) (by
  rintro st ⟨D,f,ms,Y2,k,rfl,h,hk14,hkl⟩;rcases Nat.lt_or_ge k l.length with hlt|hge
  · rcases Nat.lt_or_ge k 14 with h14|h14
    · right;obtain⟨D',f',ms',e1,e2⟩:=c2g l Y2 k hlt h14 (hy _ (List.getElem_mem hlt)) h;exact⟨_,e1,⟨D',f',ms',Y2,k+1,rfl,e2,by omega,by omega⟩,by dsimp only;omega⟩
    · left;refine⟨.inl (Y2,(k:Int),(D 0,D 1,D 2),ms), ?_,D,f,ms,Y2,(k:Int),rfl,h.more hk14⟩;unfold H7;dsimp only;rw [if_pos (by simp only [decide_eq_true_eq];omega),if_neg (by simp only [decide_eq_true_eq];omega)]
  · left;refine⟨.inl (Y2,(k:Int),(D 0,D 1,D 2),ms), ?_,D,f,ms,Y2,(k:Int),rfl,h.more hk14⟩;unfold H7;dsimp only;rw [if_neg (by simp only [decide_eq_true_eq];omega)]) ([],0,(a4O 0,a4O 1,a4O 2), []) ⟨a4O,fun _=>0, [], [],0,rfl,c5Q,by omega,by omega⟩ (by unfold a2h;simp only [Int.toNat_zero];omega)
 subst he;refine⟨D,f,ms, ?_,h2⟩;unfold a2a;have h0:q8 R2 (0,((⟨0,(⟨[], []⟩:m9), [],zT⟩:c8),(⟨0,(⟨[], []⟩:m9), [],zT⟩:c8),(⟨0,(⟨[], []⟩:m9), [],zT⟩:c8)))=_:=c4z;rw [h0,Option.bind_some];dsimp only;rw [h1,Option.bind_some]
theorem b2y {l:List b9} (h:Written l):V0 l=some (⟨y8 l⟩,0):=by
 have:=h.len;unfold V0 w8;rw [areWritten_eq l (by omega) (fun r hr=>by have:=P2 (h.rec hr);omega),Option.bind_some,if_neg (by simp [h]),q9 (by omega)];rfl
theorem c1L {w v:List b9} (p:v.Perm w):L5 v=L5 w:=by
 unfold L5;rw [a2U p,a2U p,a2U p,a2U p,a2U p,a2U p]
theorem b6h {l:List b9} (h:Written l):a0B ⟨y8 l⟩=some (L5 l,0):=by
 have hl:=h.len;have hs:(y8 l).length=l.length:=(O5 l).length_eq;have hr:∀r∈y8 l,s9 r:=fun r hr=>h.rec ((O5 l).mem_iff.1 hr)
 unfold a0B;rw [isBook_eq ⟨y8 l⟩ (by dsimp only;omega) (fun r hr'=>by have:=P2 (hr r hr');omega),Option.bind_some,if_neg (by simp [a9E h])];dsimp only;rw [a3q _ (by omega) (fun r hr'=>a0N (hr r hr')),Option.bind_some,c1L (O5 l)]
end Go.Proofs.YtggdlgclohnbaaaGreatDoor
namespace Go.Proofs.YtggdlgclohnbaaaGreatDoor
open Go Go.Sx
def RS:b9:=⟨⟨2,0⟩,5,10,12,⟨0,0⟩,⟨#[97,32,108,97,109,112,32,111,110,32,116,104,101,32,113,117,97,121]⟩⟩
def TS:ByteArray:=⟨#[50,32,48,32,53,32,49,48,32,49,50,32,48,32,48,32,97,32,108,97,109,112,32,111,110,32,116,104,101,32,113,117,97,121]⟩
def T0:ByteArray:=⟨#[50,32,48,32,53,32,49,48,32,49,50,32,48,32,48,32,97,32,108,97,109,112,32,111]⟩
def T1:ByteArray:=⟨#[110,32,116,104,101,32,113,117,97,121]⟩
def C0 (no:Int):e8:=⟨no,0,2,24,T0⟩
def C1 (no:Int):e8:=⟨no,1,2,10,T1⟩
theorem a6R:s9 RS:=by decide+kernel
theorem b8f (u:Nat) (h:u<10):Lib.itoa (u:Int)= [UInt8.ofNat (48+u)]:=by
 rw [Lib.itoa_nonneg,Lib.decDigits,dif_pos h]
theorem c3d (u:Nat) (h:10≤u∧u<100):Lib.itoa (u:Int)= [UInt8.ofNat (48+u / 10),UInt8.ofNat (48+u % 10)]:=by
 rw [Lib.itoa_nonneg,Lib.decDigits,dif_neg (by omega),Lib.decDigits,dif_pos (by omega)];rfl
theorem b8C:C5 RS=TS:=by
 have h0:=b8f 0 (by omega);have h2:=b8f 2 (by omega);have h5:=b8f 5 (by omega);have h10:=c3d 10 (by omega);have h12:=c3d 12 (by omega);apply ByteArray.ext;apply Array.ext';rw [c0T];unfold a0w a0X RS;simp only [List.flatMap_cons,List.flatMap_nil];rw [show(2:Int)=((2:Nat):Int) from rfl,show(0:Int)=((0:Nat):Int) from rfl,show(5:Int)=((5:Nat):Int) from rfl,show(10:Int)=((10:Nat):Int) from rfl,show(12:Int)=((12:Nat):Int) from rfl,h0,h2,h5,h10,h12];decide+kernel
theorem b0M (no:Int):a0F (C5 RS) no= [C0 no,C1 no]:=by
 rw [b8C];have e0:a3D TS 0=T0:=by decide+kernel
 have e1:a3D TS 1=T1:=by decide+kernel
 have hz:TS.size=34:=by decide+kernel
 have s0:T0.size=24:=by decide+kernel
 have s1:T1.size=10:=by decide+kernel
 have hr:List.range (A2 34)= [0,1]:=by decide+kernel
 unfold a0F;rw [hz,hr];simp only [List.map_cons,List.map_nil,a0z,e0,e1,hz,s0,s1,C0,C1];rfl
theorem c6W:a0G RS=some (TS,0):=by
 unfold a0G;rw [N8 RS (by have:=P2 a6R;omega),Option.bind_some,if_neg (by simp [a6R]),a6b a6R,b8C];rfl
theorem c2x:a1B RS 3=some ([C0 3,C1 3],0):=by
 unfold a1B;rw [N8 RS (by have:=P2 a6R;omega),Option.bind_some,if_neg (by simp [a6R]),a2m,Option.bind_some,if_neg (by decide),a6u a6R,b0M];rfl
theorem c0K:y8 []= []:=List.eq_nil_of_length_eq_zero (a0h [])
theorem c5e:Q5 ⟨[], []⟩ []=some true:=by
 unfold Q5;rw [areWritten_eq [] (by simp) (by simp),Option.bind_some,if_pos (by simp [Written.nil]),a8g _ (by simp),Option.bind_some,c2i [] (by simp) (by simp),Option.bind_some];dsimp only;rw [b6E _ _ (by simp)];simp [ofF,ofK]
theorem c6J:∃b,S9 ⟨[]⟩ RS=some (b,0):=by
 have hb:K9 ⟨[]⟩=some true:=by
  have:q8 (B2 ⟨[]⟩) (0,(-1),0)=some (.inl (0,-1,0)):=a2j (body:=B2 ⟨[]⟩) (fun _=>((0:Int),(-1:Int),(0:Int))) 0 (by omega) _ (fun k hk=>by omega) (by unfold B2;dsimp only;rw [if_neg (by simp)]);unfold K9;rw [this];rfl
 have hf:W6 ⟨[]⟩ RS.At=some (0,false):=by decide+kernel
 unfold S9;rw [hb,Option.bind_some,if_neg (by decide),N8 RS (by have:=P2 a6R;omega),Option.bind_some,if_neg (by simp [a6R]),hf,Option.bind_some];dsimp only;rw [if_neg (by decide),a3q [] (by simp) (by simp),Option.bind_some];have e:idx [(L5 []).1,(L5 []).2.1,(L5 []).2.2.1,(L5 []).2.2.2.1,(L5 []).2.2.2.2.1,(L5 []).2.2.2.2.2] RS.At.Depot=some 0:=by decide+kernel
 rw [e,Option.bind_some,if_neg (by decide),if_neg (by decide)];unfold j0;rw [q9 (by simp),Option.bind_some,q9 (by simp)];unfold w8;rw [q9 (by simp)];exact⟨_,rfl⟩
theorem c2k:a1z ⟨[], []⟩ [] RS=some (⟨[], [C0 0,C1 0]⟩, [RS],0):=by
 obtain⟨b,hb⟩:=c6J;have hc:r6 [] RS=some false:=by decide+kernel
 unfold a1z J2;rw [c5e,Option.bind_some,if_neg (by decide),hc,Option.bind_some,if_neg (by decide)];unfold w8;rw [q9 (by simp),Option.bind_some,c0K,hb,Option.bind_some];dsimp only;rw [if_neg (by decide)];unfold B8 j6 j0;rw [q9 (by simp),Option.bind_some,q9 (by simp),Option.bind_some,Option.bind_some];dsimp only;rw [show((([]:List b9).length:Nat):Int)=0 from rfl,a6u a6R,b0M,Option.bind_some,q9 (by simp),Option.bind_some,q9 (by simp)];rfl
theorem b9D:c0v ⟨[], [C0 0,C1 0]⟩:=⟨by simp,by simp,fun c hc=>by
 simp only [List.mem_cons,List.not_mem_nil,or_false]at hc;rcases hc with rfl|rfl
 · show T0.size≤_;decide+kernel
 · show T1.size≤_;decide+kernel⟩
theorem b7r {l:List Int} (h:(l.all fun x=>decide (0≤x∧x≤100))=true):b2j l:=fun x hx=>by
 have:=of_decide_eq_true (List.all_eq_true.1 h x hx);omega
theorem c9i:B1 ⟨[], [C0 0,C1 0]⟩ [2,0]=some ⟨[], [C0 0,C1 0]⟩:=by
 rw [a4e _ _ b9D (b7r (by decide)) (by simp)];decide+kernel
theorem c8M:B1 ⟨[], [C0 0,C1 0]⟩ [3,0]=some ⟨[], [C1 0,C0 0]⟩:=by
 rw [a4e _ _ b9D (b7r (by decide)) (by simp)];decide+kernel
theorem c8i:B1 ⟨[], [C0 0,C1 0]⟩ [2,0,0,0]=some ⟨[], [C0 0]⟩:=by
 rw [a4e _ _ b9D (b7r (by decide)) (by simp)];decide+kernel
theorem c8u:B1 ⟨[], [C0 0,C1 0]⟩ [2,0,1,9]=some ⟨[], [C0 0,⟨0,1,2,10,⟨#[110,32,116,104,101,32,113,117,97]⟩⟩]⟩:=by
 rw [a4e _ _ b9D (b7r (by decide)) (by simp)];decide+kernel
theorem c9c:B1 ⟨[C0 0,C1 0], []⟩ [0,0]=some ⟨[C0 0,C1 0], []⟩:=by
 rw [a4e _ _ ⟨by simp,by simp,by simp⟩ (b7r (by decide)) (by simp)];decide+kernel
theorem b1f {l:List e8} (h0:a4g l 0=some TS) (h1:a4g l 1=none):a4W l= [RS]:=by
 have hd:decF TS=some RS:=by rw [←b8C];exact b2f a6R
 have hn:P1 [] RS:=by decide+kernel
 unfold a4W;rw [show(61:Nat)=59+1+1 from rfl,a4f];rw [show((([]:List b9).length:Nat):Int)=0 from rfl,h0];dsimp only;rw [hd];dsimp only;rw [if_pos hn,a4f];rw [show((([]++ [RS]:List b9).length:Nat):Int)=1 from rfl,h1];rfl
theorem b4c {l:List e8} (h0:a4g l 0=none):a4W l= []:=by
 unfold a4W;rw [show(61:Nat)=60+1 from rfl,a4f];rw [show((([]:List b9).length:Nat):Int)=0 from rfl,h0]
theorem b7U:ofF [RS]= [C0 0,C1 0]:=by
 unfold ofF ofK ofK;rw [b0M];rfl
theorem c8X:B4 ⟨[], [C0 0,C1 0]⟩=some (⟨[C0 0,C1 0], []⟩, [RS]):=by
 rw [a3W _ (by simp),b1f (by decide+kernel) (by decide+kernel),b7U]
theorem c7i:B4 ⟨[], [C1 0,C0 0]⟩=some (⟨[C0 0,C1 0], []⟩, [RS]):=by
 rw [a3W _ (by simp),b1f (by decide+kernel) (by decide+kernel),b7U]
theorem c8l:B4 ⟨[], [C0 0]⟩=some (⟨[], []⟩, []):=by
 rw [a3W _ (by simp),b4c (by decide+kernel)];rfl
theorem c9f:B4 ⟨[], [C0 0,⟨0,1,2,10,⟨#[110,32,116,104,101,32,113,117,97]⟩⟩]⟩=some (⟨[], []⟩, []):=by
 rw [a3W _ (by simp),b4c (by decide+kernel)];rfl
theorem c8m:B4 ⟨[C0 0,C1 0], []⟩=some (⟨[C0 0,C1 0], []⟩, [RS]):=by
 rw [a3W _ (by simp),b1f (by decide+kernel) (by decide+kernel),b7U]
theorem c5r:N1 ⟨[], [C0 0,C1 0]⟩=some ⟨[C0 0,C1 0], []⟩:=by
 unfold N1;rw [a8g _ (by simp)];rfl
theorem c5G:a4q=some true:=by
 unfold a4q;rw [show(⟨(⟨2,0⟩:o5),5,10,12,(⟨0,0⟩:o5),(⟨#[97,32,108,97,109,112,32,111,110,32,116,104,101,32,113,117,97,121]⟩:ByteArray)⟩:b9)=RS from rfl];rw [c6W,Option.bind_some];dsimp only;rw [c2x,Option.bind_some];dsimp only;rw [c2k,Option.bind_some];dsimp only;rw [c9i,Option.bind_some,c8X,Option.bind_some];dsimp only;rw [c8M,Option.bind_some,c7i,Option.bind_some];dsimp only;rw [c8i,Option.bind_some,c8l,Option.bind_some];dsimp only;rw [c8u,Option.bind_some,c9f,Option.bind_some];dsimp only;rw [c5r,Option.bind_some,c9c,Option.bind_some,c8m,Option.bind_some];dsimp only;rw [if_pos (by decide),if_pos (by decide),if_pos (by decide),if_pos (by decide),if_pos (by decide),if_pos (by decide),if_pos (by decide)];rw [show idx [C0 3,C1 3] 0=some (C0 3) from rfl,Option.bind_some,show idx [C0 3,C1 3] 1=some (C1 3) from rfl];rw [if_pos (by rw [a4m];decide+kernel),Option.bind_some,if_pos (by rw [a4m];decide+kernel),if_pos (by rw [a4m];decide+kernel)];rw [if_pos (by decide),if_pos (by decide),if_pos (by decide),if_pos (by decide),if_pos (by decide),if_pos (by decide)];rfl
end Go.Proofs.YtggdlgclohnbaaaGreatDoor
namespace Go.Proofs.YtggdlgclohnbaaaGreatDoor
open Go Go.RowKit Go.Sx
theorem b7B {D:Int→c8} {f:Int→Nat} {n:Nat} (h:Inv D f n) {i:Int} (hi:I3 i) (a b:List b9) (ha:∃t,a=O4 D f i++t) (hb:∃t,b=O4 D f i++t) {k:Int} (hk:I3 k):q8 (E2 (D 0,D 1,D 2) i (L5 a) (L5 b) k) 0=some (.inl 6):=by
 refine b5q 6 (by omega) (fun j hj=> ?_) (by unfold E2;rw [if_neg (by decide)]);have hj':w7 (j:Int):=by unfold w7;omega
 have hi':=hi;have hk':=hk;unfold I3 at hi' hk';obtain⟨t,rfl⟩:=ha;obtain⟨u,rfl⟩:=hb;have hb1:=(h.kn k hk i hi.dep (j:Int) hj').2.2 hi;have c1:=a6V (O4 D f i) t (j:Int);have c2:=a6V (O4 D f i) u (j:Int);have e1:idx [(D k).Known.1,(D k).Known.2.1,(D k).Known.2.2.1,(D k).Known.2.2.2.1,(D k).Known.2.2.2.2.1,(D k).Known.2.2.2.2.2] i=_:=c5Z (D k).Known hi.dep;have e2:=c5k (a1K (D k).Known i) hj';unfold a5i at e2;unfold E2
 rw [if_pos (by simp only [decide_eq_true_eq];omega),q9 (by omega),q9 (by omega),q9 (by omega),a3b D hk,Option.bind_some,e1,Option.bind_some,e2,Option.bind_some,q9 (by omega),a5H _ hj',Option.bind_some,if_neg (by simp only [decide_eq_true_eq];omega),
  q9 (by omega),q9 (by omega),q9 (by omega),Option.bind_some,e1,Option.bind_some,e2,Option.bind_some,q9 (by omega),a5H _ hj',Option.bind_some,if_neg (by simp only [decide_eq_true_eq];omega),W_s (by omega)]
theorem a9i (x0:(List Z8)) (x1:(List Int)) (h0:(x0.length*88≤reachBytes∧x0.length≤maxLen∧∀y:Z8,y∈x0→Z8.G y)) (h1:(x1.length*8≤reachBytes∧x1.length≤maxLen∧∀y:Int,y∈x1→InK .i64 y)):Y1 x0 x1=some true:=by
 have hrb:reachBytes≤9223372036854775800:=by decide
 have hl:x0.length≤9223372036854775800:=by omega
 have p1:b2j x1:=fun x hx=>h1.2.2 x hx
 have p2:x1.length≤9223372036854775800:=by omega
 obtain⟨D,f,ms,e1,hst⟩:=c1g x0 hl h0.2.2;have hv:=hst.inv;unfold Y1;rw [c5G,Option.bind_some,e1,Option.bind_some];dsimp only;rw [if_neg (by decide),if_neg (by decide)]
 have key:q8 (F1 x1 (D 0,D 1,D 2)) 0=some (.inl ((3:Nat):Int)):=by
  refine b5q 3 (by omega) (fun i hi=> ?_) (by unfold F1;rw [if_neg (by decide)]);have hi3:I3 (i:Int):=by unfold I3;omega
  have hb:=hv.bx _ hi3;obtain⟨d,g,r1,⟨t,rt⟩,r2,_⟩:=hv.rest hi3 x1
  have hdw:Written d.Written:=by
   have:=(r2.bx _ hi3).w;rwa [M8]at this
  unfold F1;rw [if_pos (by simp only [decide_eq_true_eq];omega),q9 (by omega),a3b D hi3,Option.bind_some,a9Y _ _ (hv.valid hi3).sz p1 p2,r1,Option.bind_some];dsimp only;rw [q9 (by omega),Option.bind_some,b2y hb.w,Option.bind_some];dsimp only;rw [b2y hdw,Option.bind_some];dsimp only;rw [b6h hb.w,Option.bind_some];dsimp only;rw [b6h hdw,Option.bind_some];dsimp only;rw [if_neg (by decide),if_neg (by decide),if_neg (by decide),if_neg (by decide),if_neg (by decide)]
  have k12:q8 (E3 (D 0,D 1,D 2) (i:Int) (L5 (D (i:Int)).Written) (L5 d.Written)) 0=some (.inl ((3:Nat):Int)):=by
   refine b5q 3 (by omega) (fun k hk=> ?_) (by unfold E3;rw [if_neg (by decide)]);have hk3:I3 (k:Int):=by unfold I3;omega
   unfold E3;rw [if_pos (by simp only [decide_eq_true_eq];omega),b7B hv hi3 _ _ ⟨(D (i:Int)).Written.drop (f i),by unfold O4;rw [List.take_append_drop]⟩ ⟨t,rt⟩ hk3,Option.bind_some,W_s (by omega)]
  rw [k12,Option.bind_some,W_s (by omega)]
 rw [key,Option.bind_some]
end Go.Proofs.YtggdlgclohnbaaaGreatDoor
