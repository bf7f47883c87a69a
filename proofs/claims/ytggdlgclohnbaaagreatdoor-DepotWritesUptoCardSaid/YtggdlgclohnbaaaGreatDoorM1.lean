/- What may be read at the types of the statement's parameters; plain facts. -/
import Derived.Test.YtggdlgclohnbaaaGreatDoorL2
import Derived.Test.YtggdlgclohnbaaaGreatDoorRows
set_option linter.unusedVariables false
set_option linter.unusedSimpArgs false
namespace Go.Proofs.YtggdlgclohnbaaaGreatDoor
open Go Go.RowKit Go.Sx
def c8.G (x:c8):Prop:=InK .i64 x.No∧InK .i64 x.Part∧InK .i64 x.Parts∧InK .i64 x.Size∧x.Text.size≤reachBytes
theorem c7M:A4 Tryz.prog 53 c8.c c8.G:=
 (A4.struct Tryz.underlying53 (G7.cons (s:=1) (A4.int Tryz.underlying3) (G7.cons (s:=1) (A4.int Tryz.underlying3) (G7.cons (s:=1) (A4.int Tryz.underlying3) (G7.cons (s:=1) (A4.int Tryz.underlying3) (G7.last (s:=1) (A4.str Tryz.underlying9) rfl (by kernel_rfl) rfl) rfl (by kernel_rfl)) rfl (by kernel_rfl)) rfl (by kernel_rfl)) rfl (by kernel_rfl)) (by kernel_rfl)).iso (fun x=>(⟨x.1,x.2.1,x.2.2.1,x.2.2.2.1,x.2.2.2.2⟩:c8)) (fun _=>rfl) (fun _ h=>h)
theorem c5n:A4 Tryz.prog 22 (fun l:(List c8)=> [.lst 5 l.length (l.flatMap c8.c)]) (fun l=>(l.length*48≤reachBytes∧l.length≤maxLen∧∀y:c8,y∈l→c8.G y)):=
 A4.slice Tryz.underlying22 c7M (by kernel_rfl) (by kernel_rfl) (fun _=>rfl) (fun _=>rfl) (by decide)
def l7.G (x:l7):Prop:=(x.Thread.length*48≤reachBytes∧x.Thread.length≤maxLen∧∀y:c8,y∈x.Thread→c8.G y)∧(x.Loose.length*48≤reachBytes∧x.Loose.length≤maxLen∧∀y:c8,y∈x.Loose→c8.G y)
theorem c7h:A4 Tryz.prog 24 l7.c l7.G:=
 (A4.struct Tryz.underlying24 (G7.cons (s:=1) c5n (G7.last (s:=1) c5n rfl (by kernel_rfl) rfl) rfl (by kernel_rfl)) (by kernel_rfl)).iso (fun x=>(⟨x.1,x.2⟩:l7)) (fun _=>rfl) (fun _ h=>h)
def o6.G (x:o6):Prop:=InK .i64 x.Depot∧InK .i64 x.No
theorem c5m:A4 Tryz.prog 36 o6.c o6.G:=
 (A4.struct Tryz.underlying36 (G7.cons (s:=1) (A4.int Tryz.underlying3) (G7.last (s:=1) (A4.int Tryz.underlying3) rfl (by kernel_rfl) rfl) rfl (by kernel_rfl)) (by kernel_rfl)).iso (fun x=>(⟨x.1,x.2⟩:o6)) (fun _=>rfl) (fun _ h=>h)
def b9.G (x:b9):Prop:=o6.G x.At∧InK .i64 x.Kind∧InK .i64 x.Day∧InK .i64 x.Known∧o6.G x.Of∧x.Text.size≤reachBytes
theorem c5s:A4 Tryz.prog 38 b9.c b9.G:=
 (A4.struct Tryz.underlying38 (G7.cons (s:=2) c5m (G7.cons (s:=1) (A4.int Tryz.underlying3) (G7.cons (s:=1) (A4.int Tryz.underlying3) (G7.cons (s:=1) (A4.int Tryz.underlying3) (G7.cons (s:=2) c5m (G7.last (s:=1) (A4.str Tryz.underlying9) rfl (by kernel_rfl) rfl) rfl (by kernel_rfl)) rfl (by kernel_rfl)) rfl (by kernel_rfl)) rfl (by kernel_rfl)) rfl (by kernel_rfl)) (by kernel_rfl)).iso (fun x=>(⟨x.1,x.2.1,x.2.2.1,x.2.2.2.1,x.2.2.2.2.1,x.2.2.2.2.2⟩:b9)) (fun _=>rfl) (fun _ h=>h)
theorem c7W:A4 Tryz.prog 27 (fun l:(List b9)=> [.lst 8 l.length (l.flatMap b9.c)]) (fun l=>(l.length*72≤reachBytes∧l.length≤maxLen∧∀y:b9,y∈l→b9.G y)):=
 A4.slice Tryz.underlying27 c5s (by kernel_rfl) (by kernel_rfl) (fun _=>rfl) (fun _=>rfl) (by decide)
end Go.Proofs.YtggdlgclohnbaaaGreatDoor
namespace Go.Proofs.YtggdlgclohnbaaaGreatDoor
open Go Go.Sx
theorem a2z {z:Int} (h: -9223372036854775808≤z∧z≤9223372036854775807):W z=z:=b5i h
theorem W_s {k:Nat} (h:k<9223372036854775807):W ((k:Int)+1)=((k+1:Nat):Int):=c5Z h
def a0E {α σ R:Type} (f:σ→α→Sum σ R):List α→σ→Sum σ R
 | [],s=> .inl s
 |x::l,s=>match f s x with| .inl s'=>a0E f l s'| .inr r=> .inr r
theorem a1T {α σ S E R:Type} {body:S→Option (Sum S E)} (l:List α) (hl:l.length≤9223372036854775807) (enc:Nat→σ→S) (f:σ→α→Sum σ R) (out:R→E) (fin:σ→E) (P:List α→σ→Prop)
 (h:∀pre x post s,l=pre++x::post→P pre s→body (enc pre.length s)=some (match f s x with| .inl s'=> .inl (enc (pre.length+1) s')| .inr r=> .inr (out r))∧∀s',f s x= .inl s'→P (pre++ [x]) s')
 (he:∀s,P l s→body (enc l.length s)=some (.inr (fin s))) (s0:σ) (h0:P [] s0):
 w6 body (enc 0 s0)=some (match a0E f l s0 with| .inl s=>fin s| .inr r=>out r):=by
 have key:∀(post pre:List α) (s:σ) (n:Nat),l=pre++post→P pre s→post.length<n→P2 body n (enc pre.length s)=some (match a0E f post s with| .inl s=>fin s| .inr r=>out r):=by
  intro post
  induction post with
  |nil=>
   intro pre s n hp hs hn;cases n with
   |zero=>omega
   |succ n=>
    simp only [List.append_nil]at hp;subst hp;simp only [P2,he s hs,a0E]
  |cons x post ih=>
   intro pre s n hp hs hn;cases n with
   |zero=>omega
   |succ n=>
    obtain⟨h1,h2⟩:=h pre x post s hp hs;simp only [P2,h1,a0E];cases hf:f s x with
    |inl s'=>
     have:=ih (pre++ [x]) s' n (by simp [hp]) (h2 s' hf) (by simp at hn;omega);simpa using this
    |inr r=>rfl
 exact key l [] s0 a1K rfl h0 (by unfold a1K;omega)
theorem a5N {α:Type} {pre post:List α} {x:α}:idx (pre++x::post) (pre.length:Int)=some x:=by
 unfold idx;simp
theorem b0t {α:Type} {pre post:List α} {x:α}:((pre.length:Int)<((pre++x::post).length:Int)):=by simp;omega
theorem b1p {α β S E:Type} {body:S→Option (List β×Sum S E)} (l:List α) (hl:l.length≤9223372036854775807) (enc:Nat→S) (em:α→List β) (fin:E)
 (h:∀pre x post,l=pre++x::post→body (enc pre.length)=some (em x, .inl (enc (pre.length+1))))
 (he:body (enc l.length)=some ([], .inr fin)):b1b body (enc 0)=some (l.flatMap em,fin):=by
 have key:∀(post pre:List α) (n:Nat),l=pre++post→post.length<n→a2T body n (enc pre.length)=some (post.flatMap em,fin):=by
  intro post
  induction post with
  |nil=>
   intro pre n hp hn;cases n with
   |zero=>omega
   |succ n=>
    simp only [List.append_nil]at hp;subst hp;simp only [a2T,he,List.flatMap_nil]
  |cons x post ih=>
   intro pre n hp hn;cases n with
   |zero=>omega
   |succ n=>
    have:=ih (pre++ [x]) n (by simp [hp]) (by simp at hn;omega);simp only [N0,P0,a0a,R6]at this;simp only [a2T,h pre x post hp,this,L3]
 exact key l [] a1K rfl (by unfold a1K;omega)
def b2v {R:Type} (q:Nat→Option R):Nat→Nat→Sum Nat R
 |k,0=> .inl k
 |k,m+1=>match q k with|none=>b2v q (k+1) m|some r=> .inr r
theorem b3X {R:Type} {body:Int→Option (Sum Int (Sum Int R))} (n:Nat) (hn:n≤9223372036854775807) (q:Nat→Option R) (k:Nat) (hk:k≤n)
 (h:∀i,k≤i→i<n→body (i:Int)=some (match q i with|none=> .inl ((i+1:Nat):Int)|some r=> .inr (.inr r)))
 (he:body (n:Int)=some (.inr (.inl (n:Int)))):
 w6 body (k:Int)=some (match b2v q k (n-k)with| .inl j=> .inl (j:Int)| .inr r=> .inr r):=by
 have key:∀(m k N:Nat),k+m=n→m<N→(∀i,k≤i→i<n→body (i:Int)=some (match q i with|none=> .inl ((i+1:Nat):Int)|some r=> .inr (.inr r)))→
  P2 body N (k:Int)=some (match b2v q k m with| .inl j=> .inl (j:Int)| .inr r=> .inr r):=by
  intro m
  induction m with
  |zero=>
   intro k N hkm hN _;cases N with
   |zero=>omega
   |succ N=>
    have:k=n:=by omega
    subst this;simp only [P2,he,b2v]
  |succ m ih=>
   intro k N hkm hN hb;cases N with
   |zero=>omega
   |succ N=>
    simp only [P2,hb k (u0 _) (by omega),b2v];cases hq:q k with
    |none=>exact ih (k+1) N (by omega) (by omega) (fun i h1 h2=>hb i (by omega) h2)
    |some r=>rfl
 exact key (n-k) k a1K (by omega) (by unfold a1K;omega) h
theorem a8A {R:Type} {q:Nat→Option R}:∀(m k:Nat),(∀i,k≤i→i<k+m→q i=none)→b2v q k m= .inl (k+m)
 |0,k,_=>rfl
 |m+1,k,h=>by
  simp only [b2v,h k (u0 _) (by omega)];rw [a8A m (k+1) (fun i h1 h2=>h i (by omega) (by omega))];congr 1;omega
theorem a8x {R:Type} {q:Nat→Option R}:∀(m k i:Nat),k≤i→i<k+m→q i≠none→∃j r,k≤j∧j<k+m∧q j=some r∧b2v q k m= .inr r
 |0,k,i,h1,h2,_=>by omega
 |m+1,k,i,h1,h2,h3=>by
  cases hq:q k with
  |some r=>exact⟨k,r,u0 _,by omega,hq,by simp only [b2v,hq]⟩
  |none=>
   have:k≠i:=fun e=>h3 (e▸hq)
   obtain⟨j,r,a,b,c,d⟩:=a8x m (k+1) i (by omega) (by omega) h3;exact⟨j,r,by omega,by omega,c,by simp only [b2v,hq,d]⟩
theorem c1w {body:Int→Option (Sum Int (Sum Int Bool))} (n:Nat) (hn:n≤9223372036854775807) (q:Nat→Prop) [DecidablePred q] (k:Nat) (hk:k≤n)
 (h:∀i,k≤i→i<n→body (i:Int)=some (if q i then .inl ((i+1:Nat):Int)else .inr (.inr false)))
 (he:body (n:Int)=some (.inr (.inl (n:Int)))) (ans:Bool) (hb:ans=true↔∀i,k≤i→i<n→q i):
 (w6 body (k:Int)).bind (fun e=>match e with| .inl _=>some true| .inr r=>some r)=some ans:=by
 rw [b3X n hn (fun i=>if q i then none else some false) k hk (fun i h1 h2=>by rw [h i h1 h2];by_cases hq:q i<;>simp [hq]) he]
 by_cases hall:∀i,k≤i→i<n→q i
 · rw [a8A _ _ (fun i h1 h2=>by simp [hall i h1 (by omega)])];simp only [j3,hb.2 hall]
 · have:∃i,k≤i∧i<n∧¬q i:=by
    refine b5U fun hn2=>hall fun i h1 h2=>b5U fun h3=>hn2 ⟨i,h1,h2,h3⟩
   obtain⟨i,h1,h2,h3⟩:=this;obtain⟨j,r,a,b,c,d⟩:=a8x (q:=fun i=>if q i then none else some false) (n-k) k i h1 (by omega) (by simp [h3])
   have hr:r=false:=by
    by_cases hqj:q j
    · simp [hqj]at c
    · simpa [hqj]using c.symm
   rw [d,hr];have:ans=false:=by cases ans with|true=>exact absurd (hb.1 rfl) hall|false=>rfl
   simp only [j3,this]
theorem b3u {body:Int→Option (Sum Int (Sum Int Bool))} (n:Nat) (hn:n≤9223372036854775807) (q:Nat→Prop) (k:Nat) (hk:k≤n)
 (h:∀i,k≤i→i<n→(q i∧body (i:Int)=some (.inl ((i+1:Nat):Int)))∨(¬q i∧body (i:Int)=some (.inr (.inr false))))
 (he:body (n:Int)=some (.inr (.inl (n:Int)))) (ans:Bool) (hb:ans=true↔∀i,k≤i→i<n→q i):
 (w6 body (k:Int)).bind (fun e=>match e with| .inl _=>some true| .inr r=>some r)=some ans:=by
 letI:DecidablePred q:=fun _=>Classical.propDecidable _
 exact c1w n hn q k hk (fun i h1 h2=>by rcases h i h1 h2 with⟨a,b⟩|⟨a,b⟩<;>simp only [b,a,C6,G4]) he ans hb
theorem A6 {α:Type} {p:Prop} [Decidable p] {k:Option α} (h:p):gd p k=k:=e9 h
def b2J (u:Nat):List UInt8:=if u<10 then []else Lib.decDigits (u / 10)
theorem b0g (u:Nat):Lib.decDigits u=b2J u++ [UInt8.ofNat (48+u % 10)]:=by
 unfold b2J;rw [Lib.decDigits];by_cases h:u<10
 · simp [h,Nat.mod_eq_of_lt h]
 · simp [h]
theorem c1R {u:Nat} (h:¬u<10):b2J u=b2J (u / 10)++ [UInt8.ofNat (48+u / 10 % 10)]:=by
 conv=>lhs;unfold b2J
 rw [i6 h,b0g]
theorem c3p (u:Nat) (h:u<256):a1x [IntKind.u8.wrap (u:Int)]=⟨#[UInt8.ofNat u]⟩:=by
 have:IntKind.u8.wrap (u:Int)=u:=by
  have e:IntKind.u8.wrap (u:Int)=(u:Int) % 256:=by simp [IntKind.wrap,IntKind.bits,IntKind.signed]
  rw [e];omega
 rw [this];rfl
theorem a3L (n:Int) (h0:0≤n) (h1:n≤1000000):M4 n=some (O2 n):=by
 obtain⟨u,rfl⟩:=Int.eq_ofNat_of_zero_le h0
 have hb:∀v:Nat,v≤1000000→a1x [IntKind.u8.wrap (W (48+(v:Int).tmod 10))]=⟨#[UInt8.ofNat (48+v % 10)]⟩:=fun v hv=>by
  have e:(v:Int).tmod 10=((v % 10:Nat):Int):=by rw [Int.tmod_eq_emod_of_nonneg (by omega)];rfl
  rw [e,a2z (by omega),show(48:Int)+((v % 10:Nat):Int)=((48+v % 10:Nat):Int) by omega];exact c3p _ (by omega)
 obtain⟨e,he,v,t,rfl,hv,ht⟩:=a6d (body:=a0V) (fun s=>∃(v:Nat) (t:List UInt8),s=((v:Int),⟨t.toArray⟩)∧v≤u∧Lib.decDigits u=b2J v++t∧t.length≤20+u-v) (fun s=>s.1.toNat)
  (fun e=>∃(v:Nat) (t:List UInt8),e=((v:Int),⟨t.toArray⟩)∧v<10∧Lib.decDigits u=t) (by
  rintro⟨_,_⟩ ⟨v,t,hs,hv,ht,htl⟩;cases hs;unfold a0V;by_cases hlt:v<10
  · left;refine⟨_,by dsimp only;rw [i6 (by simp only [D0];omega)],v,t,rfl,hlt, ?_⟩;rw [ht];simp [b2J,hlt]
  · right
    have e1:W ((v:Int).tdiv 10)=((v / 10:Nat):Int):=by
     rw [Int.tdiv_eq_ediv_of_nonneg (by omega),a2z (by omega)];rfl
    dsimp only;rw [e9 (by simp only [D0];omega),e1,hb _ (by omega)];refine⟨_,by rw [A6 (by simp [ByteArray.size];omega)],⟨v / 10,UInt8.ofNat (48+v / 10 % 10)::t, ?_,by omega, ?_, ?_⟩, ?_⟩
    · congr 1
    · rw [ht,c1R hlt];simp
    · simp;omega
    · simp;omega) ((u:Int),⟨#[UInt8.ofNat (48+u % 10)]⟩) ⟨u, [UInt8.ofNat (48+u % 10)],rfl,u0 _,b0g u,by simp only [List.length_singleton];omega⟩ (show((u:Int)).toNat<a1K by unfold a1K;omega)
 unfold M4;rw [hb u (by omega),he];simp only [j3,O2,Lib.itoa_nonneg,ht]
theorem a5K (n lo hi:Int):z6 n lo hi=some (decide (lo≤n∧n≤hi)):=by
 unfold z6;by_cases h:lo≤n<;>simp [h]
theorem c5q (n lo hi:Int):a1d n lo hi=some (decide (lo≤n∧n≤hi)):=by
 unfold a1d;by_cases h:lo≤n<;>simp [h]
def a2g (x:o6):Prop:=(0≤x.Depot∧x.Depot≤5)∧0≤x.No∧x.No≤9999
instance (x : o6) : Decidable (a2g x) := inferInstanceAs (Decidable (_ ∧ _))
theorem c0E (x:o6):R8 x=some (decide (a2g x)):=by
 unfold R8 a1z;simp only [a5K,j3];unfold a2g;by_cases h:0≤x.Depot∧x.Depot≤5
 · simp only [h,X8,C6,P1,a2e]
 · simp only [h,a0w,M5,G4,a3F]
theorem c0V (x:o6):a0g x=some (decide (a2g x)):=by
 unfold a0g;simp only [c5q,j3];unfold a2g;by_cases h:0≤x.Depot∧x.Depot≤5
 · simp only [h,X8,C6,P1,a2e]
 · simp only [h,a0w,M5,G4,a3F]
def a4c (s:ByteArray):Prop:=s.size≤160∧∀c∈s.data.toList,32≤c.toNat∧c.toNat≤126
instance (s : ByteArray) : Decidable (a4c s) := inferInstanceAs (Decidable (_ ∧ _))
theorem a0R (s:ByteArray):s.size=s.data.toList.length:=by rw [a4B];rfl
theorem c0P (s:ByteArray) (hs:s.size≤9223372036854775807):a0l s=some (decide (a4c s)):=by
 unfold a0l;rw [A6 hs];simp only [j3];have hlen:(D5 s).length=s.size:=by unfold D5;rw [a9c,←a0R]
 have key:=b3X (body:=L2 (D5 s)) (D5 s).length (by omega) (fun i=>match s.data.toList[i]? with|some c=>if 32≤c.toNat∧c.toNat≤126 then none else some false|none=>none) 0 (J4 _) (fun i _ hi=>by
  unfold L2;have hi':i<s.data.toList.length:=by rw [←a0R];omega
  rw [e9 (by simpa using hi),U8 hi,j3,M6 hi']
  have e:(D5 s)[i]=((s.data.toList[i]).toNat:Int):=by simp [D5]
  rw [e,W_s (by omega)];simp only;by_cases h1:(s.data.toList[i]).toNat<32
  · rw [e9 (by simp only [D0];omega),i6 (by omega)]
  · by_cases h2:(s.data.toList[i]).toNat>126
    · rw [i6 (by simp only [D0];omega),e9 (by simp only [D0];omega),i6 (by omega)]
    · rw [i6 (by simp only [D0];omega),i6 (by simp only [D0];omega),e9 (by omega)]) (by unfold L2;rw [i6 (by simp)])
 rw [show((0:Int))=((0:Nat):Int) from rfl,key];by_cases hall:∀c∈s.data.toList,32≤c.toNat∧c.toNat≤126
 · rw [a8A _ _ fun i _ hi=>by
    have hi':i<s.data.toList.length:=by rw [←a0R];omega
    rw [M6 hi'];exact e9 (hall _ (a2C hi'))]
   simp only [j3];congr 1;rw [decide_eq_decide];exact⟨fun h=>⟨by omega,hall⟩,fun h=>by have:=h.1;omega⟩
 · obtain⟨c,hc,hbad⟩:∃c∈s.data.toList,¬(32≤c.toNat∧c.toNat≤126):=by
    refine b5U fun h=>hall fun c hc=>b5U fun h2=>h ⟨c,hc,h2⟩
   obtain⟨i,hi,rfl⟩:=b3g hc
   obtain⟨j,r,_,hj,hq,e⟩:=a8x (q:=fun i=>match s.data.toList[i]? with|some c=>if 32≤c.toNat∧c.toNat≤126 then none else some false|none=>none) ((D5 s).length-0) 0 i (J4 _) (by rw [hlen,a0R];omega) (by
    rw [M6 hi];simp only;rw [i6 hbad];simp)
   have hr:r=false:=by
    split at hq
    · split at hq<;>simp at hq;exact hq
    · cases hq
   rw [e,hr];have:¬a4c s:=fun h=>hall h.2
   simp [this]
theorem b7S (s:ByteArray) (hs:s.size≤9223372036854775807):a1N s=some (decide (a4c s)):=by
 unfold a1N;by_cases h160:s.size≤160
 · rw [i6 (by simp only [D0];omega)]
   have key:=b3u (body:=P3 s) s.size (by omega) (fun i=>∀c,s.data.toList[i]?=some c→32≤c.toNat∧c.toNat≤126) 0 (J4 _) (fun i _ hi=>by
    unfold P3;have hi':i<s.data.toList.length:=by rw [←a0R];omega
    rw [e9 (by simpa using hi),U8 hi',j3,j3,W_s (by omega)]
    have hq:(∀c,s.data.toList[i]?=some c→32≤c.toNat∧c.toNat≤126)↔32≤(s.data.toList[i]).toNat∧(s.data.toList[i]).toNat≤126:=by
     rw [M6 hi'];simp
    rw [hq];by_cases h1:(s.data.toList[i]).toNat<32
    · right;rw [e9 (by simp only [D0];omega)];exact⟨by omega,rfl⟩
    · by_cases h2:(s.data.toList[i]).toNat>126
      · right;rw [i6 (by simp only [D0];omega),e9 (by simp only [D0];omega)];exact⟨by omega,rfl⟩
      · left;rw [i6 (by simp only [D0];omega),i6 (by simp only [D0];omega)];exact⟨by omega,rfl⟩) (by unfold P3;rw [i6 (by simp)]) (decide (a4c s)) (by
    rw [decide_eq_true_iff];constructor
    · rintro⟨_,h⟩ i _ _ c hc;exact h c (a7K hc)
    · intro h;refine⟨h160,fun c hc=> ?_⟩;obtain⟨i,hi,rfl⟩:=b3g hc;exact h i (J4 _) (by rw [a0R];exact hi) _ (M6 hi))
   exact key
 · rw [e9 (by simp only [D0];omega)];have:¬a4c s:=fun h=>h160 h.1
   simp [this]
def w8 (r:b9):Prop:=a2g r.At∧(0≤r.Kind∧r.Kind≤60)∧(0≤r.Day∧r.Day≤100000)∧(0≤r.Known∧r.Known≤100000)∧a4c r.Text∧
 (if r.Kind=0 then r.Day=0∧r.Text=⟨#[]⟩∧a2g r.Of∧r.Of.Depot=r.At.Depot∧r.Of.No<r.At.No else r.Of=⟨0,0⟩)
instance (r : b9) : Decidable (w8 r) := by unfold w8; infer_instance
theorem a4d (a b:ByteArray):(a.toList==b.toList)=decide (a=b):=by
 rw [a9C,P6,decide_eq_true_iff];constructor
 · intro h;have h2:a.data.toList=b.data.toList:=by rw [ByteArray.toList_eq,ByteArray.toList_eq]at h;exact h
   exact a9t (F9 h2)
 · intro h;rw [h]
theorem O3 (r:b9) (hs:r.Text.size≤9223372036854775807):o9 r=some (decide (w8 r)):=by
 unfold o9 V6;simp only [a5K,c0E,c0P _ hs,j3,a4d];unfold w8;by_cases h1:a2g r.At
 · by_cases h2:0≤r.Kind∧r.Kind≤60
   · by_cases h3:0≤r.Day∧r.Day≤100000
     · by_cases h4:0≤r.Known∧r.Known≤100000
       · by_cases h5:a4c r.Text
         · simp only [h1,h2,h3,h4,h5,X8,a2n,M5,G4,P1,a2e];by_cases hk:r.Kind=0
           · simp only [hk,beq_self_eq_true,C6];by_cases h6:r.Day=0
             · by_cases h7:r.Text=⟨#[]⟩
               · by_cases h8:a2g r.Of
                 · by_cases h9:r.Of.Depot=r.At.Depot<;>simp [h6,h7,h8,h9]
                 · simp [h6,h7,h8]
               · simp [h6,h7]
             · simp [h6]
           · have:(r.Kind==0)=false:=by simpa using hk
             simp only [this,hk,M5,G4];congr 1;rw [a9C];simp only [y6,P6,D0];constructor
             · rintro⟨a,b⟩;cases hof:r.Of;simp_all
             · intro h;rw [h];simp
         · simp [h1,h2,h3,h4,h5]
       · simp only [h1,h2,h3,h4,X8,a0w,a2n,a5C,M5,G4,C6,P1,a3F,and_false,a2e]
     · simp only [h1,h2,h3,X8,a0w,a2n,a5C,M5,G4,C6,P1,a3F,and_false,a2e]
   · simp only [h1,h2,X8,a0w,a2n,a5C,M5,G4,C6,P1,a3F,and_false,a2e]
 · simp [h1]
theorem a1X (r:b9) (hs:r.Text.size≤9223372036854775807):G3 r=some (if w8 r then 0 else 80):=by
 unfold G3;simp only [c5q,c0V,b7S _ hs,j3,a4d];unfold w8;by_cases h1:a2g r.At
 · by_cases h2:0≤r.Kind∧r.Kind≤60
   · by_cases h3:0≤r.Day∧r.Day≤100000
     · by_cases h4:0≤r.Known∧r.Known≤100000
       · by_cases h5:a4c r.Text
         · simp only [h1,h2,h3,h4,h5,X8,a2n,M5,G4,P1,a2e];by_cases hk:r.Kind=0
           · simp only [hk,beq_self_eq_true,C6];by_cases h6:r.Day=0
             · by_cases h7:r.Text=⟨#[]⟩
               · by_cases h8:a2g r.Of
                 · by_cases h9:r.Of.Depot=r.At.Depot
                   · by_cases h10:r.Of.No<r.At.No
                     · have:¬(r.Of.No≥r.At.No):=by omega
                       simp [h6,h7,h8,h9,h10,this]
                     · have:r.Of.No≥r.At.No:=by omega
                       simp [h6,h7,h8,h9,h10,this]
                   · simp [h6,h7,h8,h9]
                 · simp [h6,h7,h8]
               · simp [h6,h7]
             · simp [h6]
           · have:(r.Kind==0)=false:=by simpa using hk
             simp only [this,hk,M5,G4];by_cases ho:r.Of=⟨0,0⟩
             · simp [ho]
             · have:((r.Of.Depot==0)&&(r.Of.No==0))=false:=by
                cases hb:((r.Of.Depot==0)&&(r.Of.No==0))with
                |false=>rfl
                |true=>
                 simp only [y6,P6]at hb;exact absurd (by cases hof:r.Of;rw [hof]at hb;simp_all) ho
               simp [this,ho]
         · simp [h1,h2,h3,h4,h5]
       · simp only [h1,h2,h3,h4,X8,a0w,a2n,a5C,M5,G4,C6,P1,a3F,and_false,a2e]
     · simp only [h1,h2,h3,X8,a0w,a2n,a5C,M5,G4,C6,P1,a3F,and_false,a2e]
   · simp only [h1,h2,X8,a0w,a2n,a5C,M5,G4,C6,P1,a3F,and_false,a2e]
 · simp [h1]
def R0 (c:c8):Prop:=(0≤c.No∧c.No≤59)∧(1≤c.Parts∧c.Parts≤10)∧(0≤c.Part∧c.Part≤c.Parts-1)∧(1≤c.Size∧c.Size≤24)∧(c.Text.size:Int)=c.Size
instance (c : c8) : Decidable (R0 c) := by unfold R0; infer_instance
theorem b7p (c:c8):V8 c=some (decide (R0 c)):=by
 unfold V8;simp only [a5K,j3];unfold R0;by_cases h1:0≤c.No∧c.No≤59
 · by_cases h2:1≤c.Parts∧c.Parts≤10
   · rw [a2z (z:=c.Parts-1) (by omega)];by_cases h3:0≤c.Part∧c.Part≤c.Parts-1
     · by_cases h4:1≤c.Size∧c.Size≤24
       · simp only [h1,h2,h3,h4,X8,C6,P1,a2e];congr 1
       · simp only [h1,h2,h3,h4,X8,a0w,C6,M5,G4,P1,a2e,a3F]
     · simp only [h1,h2,h3,X8,a0w,C6,M5,G4,P1,a2e,a3F]
   · simp only [h1,h2,X8,a0w,C6,M5,G4,P1,a2e,a3F]
 · simp only [h1,a0w,M5,G4,a3F]
theorem D9 (n:Int) (h0:0≤n) (h1:n≤1000000):(O2 n).size≤21:=by
 have:=Lib.itoa_length_le n (by omega) (by omega);unfold O2;rw [a0R];simpa using this
theorem a8g {r:b9} (h:w8 r):∀n∈a0o r,0≤n∧n≤100000:=by
 obtain⟨⟨⟨a1,a2⟩,a3,a4⟩,⟨b1,b2⟩,⟨c1,c2⟩,⟨d1,d2⟩,_,hif⟩:=h
 have hof:(0≤r.Of.Depot∧r.Of.Depot≤5)∧0≤r.Of.No∧r.Of.No≤9999:=by
  split at hif
  · exact hif.2.2.1
  · rw [hif];simp
 intro n hn;simp only [a0o,o5,a9h,or_false]at hn;rcases hn with rfl|rfl|rfl|rfl|rfl|rfl|rfl<;>omega
theorem a0X {r:b9} (h:w8 r):r.Text.size≤160:=h.2.2.2.2.1.1
theorem a6e {r:b9} (h:w8 r):F1 r=some (Z2 r):=by
 unfold F1;exact A6 ⟨fun n hn=>by have:=a8g h n hn;omega,by have:=a0X h;omega⟩
theorem b9n (r:b9):Z2 r=O2 r.At.Depot++⟨#[32]⟩++O2 r.At.No++⟨#[32]⟩++O2 r.Kind++⟨#[32]⟩++O2 r.Day++⟨#[32]⟩++O2 r.Known++⟨#[32]⟩++O2 r.Of.Depot++⟨#[32]⟩++O2 r.Of.No++⟨#[32]⟩++r.Text:=by
 apply a9t;apply F9;simp [Z2,Z1,a0o,O2]
theorem c4n {r:b9} (h:w8 r):a3T r=some (Z2 r):=by
 have hn:=a8g h;simp only [a0o,o5,a9h,or_false,forall_eq_or_imp,forall_eq]at hn;obtain⟨n1,n2,n3,n4,n5,n6,n7⟩:=hn;have t1:=a3L r.At.Depot n1.1 (by omega);have t2:=a3L r.At.No n2.1 (by omega);have t3:=a3L r.Kind n3.1 (by omega);have t4:=a3L r.Day n4.1 (by omega);have t5:=a3L r.Known n5.1 (by omega);have t6:=a3L r.Of.Depot n6.1 (by omega);have t7:=a3L r.Of.No n7.1 (by omega);have s1:=D9 r.At.Depot n1.1 (by omega);have s2:=D9 r.At.No n2.1 (by omega);have s3:=D9 r.Kind n3.1 (by omega);have s4:=D9 r.Day n4.1 (by omega);have s5:=D9 r.Known n5.1 (by omega);have s6:=D9 r.Of.Depot n6.1 (by omega);have s7:=D9 r.Of.No n7.1 (by omega);have hs:(⟨#[32]⟩:ByteArray).size=1:=rfl;have ht:=a0X h;rw [b9n];unfold a3T;rw [t1,j3,t2,t3,t4,t5,t6,t7];simp only [j3];generalize O2 r.At.Depot=x1 at s1⊢;generalize O2 r.At.No=x2 at s2⊢;generalize O2 r.Kind=x3 at s3⊢;generalize O2 r.Day=x4 at s4⊢;generalize O2 r.Known=x5 at s5⊢;generalize O2 r.Of.Depot=x6 at s6⊢;generalize O2 r.Of.No=x7 at s7⊢;generalize r.Text=x8 at ht⊢;clear t1 t2 t3 t4 t5 t6 t7 n1 n2 n3 n4 n5 n6 n7 h;generalize (⟨#[32]⟩:ByteArray)=sp at hs⊢
 iterate 14 rw [A6 (by simp only [ByteArray.size_append,hs];omega)]
def DV (l:List UInt8):Nat:=l.foldl (fun a c=>10*a+(c.toNat-48)) 0
theorem b9L (l:List UInt8) (c:UInt8):DV (l++ [c])=10*DV l+(c.toNat-48):=by simp [DV]
def Dig (c:UInt8):Prop:=48≤c.toNat∧c.toNat≤57
theorem c2k {k:Nat} (h:k<10):(UInt8.ofNat (48+k)).toNat=48+k:=by simp;omega
theorem b9J (u:Nat):(∀c∈Lib.decDigits u,Dig c)∧DV (Lib.decDigits u)=u∧Lib.decDigits u≠ []:=by
 induction u using Nat.strongRecOn with
 |_ u ih=>
  rw [b0g];have h10:u % 10<10:=Nat.mod_lt _ (by omega);have hl:=c2k h10;unfold b2J;by_cases h:u<10
  · rw [e9 h];refine⟨fun c hc=> ?_, ?_,by simp⟩
    · simp only [Y7,a1n]at hc;subst hc;unfold Dig;omega
    · rw [b9L,hl];simp [DV];omega
  · rw [i6 h];obtain⟨i1,i2,_⟩:=ih (u / 10) (by omega);refine⟨fun c hc=> ?_, ?_,by simp⟩
    · rcases B2.1 hc with hc|hc
      · exact i1 c hc
      · simp only [a1n]at hc;subst hc;unfold Dig;omega
    · rw [b9L,hl,i2];omega
theorem a0Q {S E:Type} {body:S→Option (Sum S E)} (st:Nat→S) (n:Nat) (hn:n≤9223372036854775807) (fin:E) (h:∀k,k<n→body (st k)=some (.inl (st (k+1)))) (he:body (st n)=some (.inr fin)):w6 body (st 0)=some fin:=by
 have key:∀(m k N:Nat),k+m=n→m<N→P2 body N (st k)=some fin:=by
  intro m
  induction m with
  |zero=>
   intro k N hk hN;cases N with
   |zero=>omega
   |succ N=>
    obtain rfl:k=n:=by omega
    simp only [P2,he]
  |succ m ih=>
   intro k N hk hN;cases N with
   |zero=>omega
   |succ N=>
    simp only [P2,h k (by omega)];exact ih (k+1) N (by omega) (by omega)
 exact key n 0 a1K (by omega) (by unfold a1K;omega)
theorem c0Q (r:b9):(Z2 r).data.toList=Z1 (a0o r)++r.Text.data.toList:=by
 unfold Z2;rw [ByteArray.data_append];simp
theorem a0Z {r:b9} (h:w8 r):(Z2 r).size≤400:=by
 have hn:=a8g h;simp only [a0o,o5,a9h,or_false,forall_eq_or_imp,forall_eq]at hn;obtain⟨n1,n2,n3,n4,n5,n6,n7⟩:=hn;have s1:=D9 r.At.Depot n1.1 (by omega);have s2:=D9 r.At.No n2.1 (by omega);have s3:=D9 r.Kind n3.1 (by omega);have s4:=D9 r.Day n4.1 (by omega);have s5:=D9 r.Known n5.1 (by omega);have s6:=D9 r.Of.Depot n6.1 (by omega);have s7:=D9 r.Of.No n7.1 (by omega);have hs:(⟨#[32]⟩:ByteArray).size=1:=rfl;have ht:=a0X h;rw [b9n];generalize O2 r.At.Depot=x1 at s1⊢;generalize O2 r.At.No=x2 at s2⊢;generalize O2 r.Kind=x3 at s3⊢;generalize O2 r.Day=x4 at s4⊢;generalize O2 r.Known=x5 at s5⊢;generalize O2 r.Of.Depot=x6 at s6⊢;generalize O2 r.Of.No=x7 at s7⊢;generalize r.Text=x8 at ht⊢;generalize (⟨#[32]⟩:ByteArray)=sp at hs⊢;simp only [ByteArray.size_append,hs];omega
def zR:b9:=⟨⟨0,0⟩,0,0,0,⟨0,0⟩,⟨#[]⟩⟩
theorem b5M:∀(d post:List UInt8),(∀c∈d,c≠32)→Lib.indexByte (d++32::post) 32=d.length
 | [],post,_=>by simp [Lib.indexByte]
 |c::d,post,h=>by
  have ih:=b5M d post fun x hx=>h x (A9 _ hx)
  have hc:=h c F5;simp only [S0,Lib.indexByte,ih];rw [i6 (by simpa using hc),i6 (by simp)]
  simp
theorem b1t:∀(l:List UInt8) (acc:Nat) (c:UInt8),Lib.parseUint10 acc (l++ [c])=match Lib.parseUint10 acc l with| .ok a=>Lib.parseUint10 a [c]|e=>e
 | [],acc,c=>rfl
 |x::l,acc,c=>by
  simp only [S0,Lib.parseUint10];split
  · split
    · rfl
    · split
      · rfl
      · exact b1t l _ c
  · rfl
theorem c0e (u:Nat) (hu:u<1000000000000000000):Lib.parseUint10 0 (Lib.decDigits u)= .ok u:=by
 induction u using Nat.strongRecOn with
 |_ u ih=>
  have h10:u % 10<10:=Nat.mod_lt _ (by omega);have hl:=c2k h10;rw [b0g,b1t]
  have hp:Lib.parseUint10 0 (b2J u)= .ok (u / 10):=by
   unfold b2J;by_cases h:u<10
   · rw [e9 h,Nat.div_eq_of_lt h];rfl
   · rw [i6 h];exact ih _ (by omega) (by omega)
  rw [hp];simp only [Lib.parseUint10,hl];rw [e9 (by omega),i6 (by omega),i6 (by omega)];congr 1;omega
theorem c1O (u:Nat) (hu:u<1000000000000000000):Lib.atoiAll (Lib.decDigits u)= .ok (u:Int):=by
 obtain⟨d1,_,d3⟩:=b9J u;have hp:=c0e u hu;cases hd:Lib.decDigits u with
 |nil=>exact absurd hd d3
 |cons c r=>
  have hc:Dig c:=d1 c (by rw [hd];exact F5);unfold Dig at hc;unfold Lib.atoiAll Lib.parseMag;rw [hd]at hp;simp only;rw [i6 (show¬(c.toNat=43∨c.toNat=45) by omega),i6 (by simp),hp];simp only;rw [i6 (by omega),i6 (by omega),i6 (by omega)]
theorem c4K (s:ByteArray) (u:Nat) (hu:u<1000000000000000000) (post:List UInt8) (hs:s.data.toList=Lib.decDigits u++32::post):b2G s=some ((u:Int),⟨post.toArray⟩):=by
 obtain⟨d1,_,d3⟩:=b9J u;have hi:=b5M (Lib.decDigits u) post fun c hc e=>by have:=d1 c hc;subst e;unfold Dig at this;simp at this
 have hsz:=a0R s;have hlen:=l8 List.length hs;simp only [N0,P0]at hlen;unfold b2G a5a;rw [hs,hi,e9 (by omega)]
 have e1:(s.extract 0 (Lib.decDigits u).length).data.toList=Lib.decDigits u:=by
  rw [ByteArray.data_extract];simp only [Array.toList_extract,List.extract_eq_take_drop,hs,List.drop_zero,a4O,List.take_left]
 have e2:s.extract ((Lib.decDigits u).length+1) s.size=⟨post.toArray⟩:=by
  apply a9t;apply F9;rw [ByteArray.data_extract];simp only [Array.toList_extract,List.extract_eq_take_drop,hs];rw [show(Lib.decDigits u).length+1=(Lib.decDigits u++ [32]).length by simp,show Lib.decDigits u++32::post=(Lib.decDigits u++ [32])++post by simp,List.drop_left,b1a (by simp;omega)]
 simp only [a7g,e1,c1O u hu,e2]
theorem b9s {r:b9} (h:w8 r):∀k,k≤7→a5b k (Z2 r)=some ((a0o r).take k,⟨(Z1 ((a0o r).drop k)++r.Text.data.toList).toArray⟩)
 |0,_=>by
  simp only [a5b,a9J,List.drop_zero];congr 2
 |k+1,hk=>by
  have hk':k<(a0o r).length:=hk;have hn:=a8g h _ (a2C hk');obtain⟨u,hu⟩:=Int.eq_ofNat_of_zero_le hn.1;simp only [a5b,b9s h k (by omega)]
  have:=c4K ⟨(Z1 ((a0o r).drop k)++r.Text.data.toList).toArray⟩ u (by omega) (Z1 ((a0o r).drop (k+1))++r.Text.data.toList) (by
   rw [b3T hk',hu];simp only [Z1,L3,Lib.itoa_nonneg];simp)
  rw [this];simp only;rw [a4A hk',hu]
theorem b4V {r:b9} (h:w8 r):F3 (Z2 r)=some (r,true):=by
 have hz:=a0Z h;unfold F3;rw [A6 (by omega),b9s h 7 (u0 _)];have e1:(a0o r).take 7=a0o r:=rfl
 have e2:(⟨(Z1 ((a0o r).drop 7)++r.Text.data.toList).toArray⟩:ByteArray)=r.Text:=by
  apply a9t;apply F9;simp [a0o,Z1]
 have e3:b0U (a0o r) r.Text=r:=rfl;simp only [e1,e2,e3];rw [O3 r (by have:=a0X h;omega),j3,e9 (by simpa using h),a6e h,j3,a4d]
 simp
theorem c5U (s:ByteArray) (hs:s.size≤281474976710656) (h:∀r,w8 r→Z2 r≠s):F3 s=some (zR,false):=by
 unfold F3;rw [A6 hs];cases hd:a5b 7 s with
 |none=>rfl
 |some p=>
  obtain⟨l,t⟩:=p;have ht:=(a4W hd).2;simp only;have hT:(b0U l t).Text.size≤9223372036854775807:=by show t.size≤_;omega
  rw [O3 _ hT,j3];by_cases hok:w8 (b0U l t)
  · rw [e9 (by simpa using hok),a6e hok,j3,a4d]
    have:=h _ hok;rw [i6 (by simpa using this)];rfl
  · rw [i6 (by simpa using hok)];rfl
def J6 (n:Nat):Nat:=(n+23) / 24
def a8q (s:ByteArray) (i:Nat):ByteArray:=s.extract (24*i) (min s.size (24*(i+1)))
def b5D (s:ByteArray) (no:Int) (i:Nat):c8:=⟨no,(i:Int),((J6 s.size:Nat):Int),((a8q s i).size:Int),a8q s i⟩
def a1B (s:ByteArray) (no:Int):List c8:=(List.range (J6 s.size)).map (b5D s no)
theorem a0x (s:ByteArray) (no:Int):(a1B s no).length=J6 s.size:=by simp [a1B]
theorem a1i {n:Nat} (h:n≤400):J6 n≤17:=by unfold J6;omega
theorem b3i {r:b9} (h:w8 r) (no:Int):a1p r no=some (a1B (Z2 r) no):=by
 have hz:=a0Z h;unfold a1p;rw [c4n h,j3];generalize Z2 r=s at hz⊢;have hP:J6 s.size≤17:=a1i hz
 have eP:W ((W ((W ((s.size:Int)+24))-1)).tdiv 24)=((J6 s.size:Nat):Int):=by
  rw [a2z (z:=(s.size:Int)+24) (by omega),a2z (z:=(s.size:Int)+24-1) (by omega),Int.tdiv_eq_ediv_of_nonneg (by omega)];unfold J6;rw [a2z (by omega)];omega
 have key:=a0Q (body:=N3 no s) (fun k=>(((List.range k).map (b5D s no)),(k:Int))) (J6 s.size) (by omega) (((List.range (J6 s.size)).map (b5D s no)),((J6 s.size:Nat):Int)) (fun k hk=>by
  have hk24:24*k<s.size:=by unfold J6 at hk;omega
  unfold N3;dsimp only;rw [eP,e9 (by simp only [D0];omega)];have e1:W ((k:Int)*24)=((24*k:Nat):Int):=by rw [a2z (by omega)];omega
  have e2:W (W ((k:Int)+1)*24)=((24*(k+1):Nat):Int):=by rw [W_s (by omega),a2z (by omega)];omega
  have e3:(if((24*(k+1):Nat):Int)<(s.size:Int)then((24*(k+1):Nat):Int)else(s.size:Int))=((min s.size (24*(k+1)):Nat):Int):=by
   split<;>omega
  rw [e1,e2,e3,A6 (by omega),a7g,a7g,A6 (by simp;omega),W_s (by omega)];congr 3;rw [List.range_succ,List.map_append];rfl) (by
  unfold N3;dsimp only;rw [eP,i6 (by simp)])
 have key2:w6 (N3 no s) ([],0)=_:=key;rw [key2,j3];rfl
theorem b7H (l:List UInt8):(l.map fun b=>(b.toNat:Int)).map (fun n=>UInt8.ofNat n.toNat)=l:=by
 rw [List.map_map]
 conv=>rhs;rw [←List.map_id l]
 apply List.map_congr_left;intro c _;simp
theorem c0r (s:ByteArray) (a b:Nat):a1x (sub (D5 s) a b)=s.extract a b:=by
 apply a9t;apply F9;unfold a1x D5 sub;rw [ByteArray.data_extract,←List.map_drop,←List.map_take];simp only [b7H,Array.toList_extract,List.extract_eq_take_drop]
theorem b6W (s:ByteArray) (a b:Nat) (h:b≤s.size):(sub (D5 s) a b).length=b-a:=by
 have:(D5 s).length=s.size:=by unfold D5;rw [a9c,←a0R]
 unfold sub;simp;omega
theorem c0w {n:Nat} {pre post:List Nat} {x:Nat} (h:List.range n=pre++x::post):x=pre.length∧pre.length<n:=by
 have h1:(List.range n)[pre.length]?=some x:=by rw [h];simp
 have h2:=I5.1 h1;obtain⟨g1,g2⟩:=h2;simp at g1 g2;exact⟨g2.symm,g1⟩
theorem c1M (s:ByteArray) (hz:s.size≤400):D2 (D5 s) 24=some ((List.range (J6 s.size)).map fun i=>sub (D5 s) (24*i) (min s.size (24*(i+1))),()):=by
 have hb:(D5 s).length=s.size:=by unfold D5;rw [a9c,←a0R]
 have hP:J6 s.size≤17:=a1i hz;unfold D2
 have key:=b1p (body:=s9 (D5 s) 24) (List.range (J6 s.size)) (by simp;omega) (fun k=>((24*k:Nat):Int)) (fun i=> [sub (D5 s) (24*i) (min s.size (24*(i+1)))]) ((24*J6 s.size:Nat):Int) (fun pre x post hx=>by
  obtain⟨rfl,hlt⟩:=c0w hx;generalize pre.length=k at hlt⊢;have hk24:24*k<s.size:=by unfold J6 at hlt;omega
  unfold s9;rw [e9 (by simp only [D0];omega),A6 (by omega),j3,a7g];have hl:(sub (D5 s) (24*k) (D5 s).length).length=s.size-24*k:=by rw [hb];exact b6W s _ _ (u0 _)
  have e:W (((24*k:Nat):Int)+(if((sub (D5 s) (24*k) (D5 s).length).length:Int)<24 then((sub (D5 s) (24*k) (D5 s).length).length:Int)else 24))=((min s.size (24*(k+1)):Nat):Int):=by
   rw [hl];split
   · rw [a2z (by omega)];omega
   · rw [a2z (by omega)];omega
  rw [e,A6 (by omega),j3,a7g];have e2:W (((24*k:Nat):Int)+24)=((24*(k+1):Nat):Int):=by rw [a2z (by omega)];omega
  rw [e2];rfl) (by
  unfold s9;rw [List.length_range,i6 (by simp only [D0];unfold J6;omega)])
 have key2:b1b (s9 (D5 s) 24) 0=_:=key;rw [key2];simp [b2U,List.flatMap_singleton']
 induction List.range (J6 s.size)with
 |nil=>rfl
 |cons x l ih=>simp [ih]
def b4Q (no:Int):Nat→List (List Int)→List c8
 |_, []=> []
 |k,y::l=>⟨no,(k:Int),0,(y.length:Int),a1x y⟩::b4Q no (k+1) l
theorem c2M (no:Int):∀(l:List (List Int)) (acc:List c8),acc.length+l.length≤1000→J5 (U3 no) l acc=some (.inl (acc++b4Q no acc.length l))
 | [],acc,_=>by simp [J5,b4Q]
 |y::l,acc,h=>by
  simp only [P0]at h;simp only [J5,U3];rw [A6 (by simp;omega)];simp only;rw [c2M no l _ (by simp;omega)];simp [b4Q]
theorem a9W (no:Int):∀(l:List (List Int)) (k:Nat),(b4Q no k l).length=l.length
 | [],_=>rfl
 |y::l,k=>by simp [b4Q,a9W no l]
theorem b9G (no:Int):∀(l:List (List Int)) (k i:Nat) (h:i<l.length),(b4Q no k l)[i]?=some ⟨no,((k+i:Nat):Int),0,(l[i].length:Int),a1x l[i]⟩
 |y::l,k,0,h=>by simp [b4Q]
 |y::l,k,i+1,h=>by
  simp only [b4Q,List.getElem?_cons_succ,List.getElem_cons_succ];rw [b9G no l (k+1) i (by simpa using h)]
  congr 2;omega
theorem c5a (v:List c8) (hv:v.length≤1000):w6 (I0 v) (0,v)=some ((v.length:Int),v.map fun c=>⟨c.No,c.Part,(v.length:Int),c.Size,c.Text⟩):=by
 have key:=a0Q (body:=I0 v) (fun k=>((k:Int),(v.take k).map (fun c=>(⟨c.No,c.Part,(v.length:Int),c.Size,c.Text⟩:c8))++v.drop k)) v.length (by omega) ((v.length:Int),v.map fun c=>⟨c.No,c.Part,(v.length:Int),c.Size,c.Text⟩) (fun k hk=>by
  unfold I0;dsimp only;rw [e9 (by simp only [D0];omega)];have hlen:((v.take k).map (fun c=>(⟨c.No,c.Part,(v.length:Int),c.Size,c.Text⟩:c8))++v.drop k).length=v.length:=by simp;omega
  have hidx:idx ((v.take k).map (fun c=>(⟨c.No,c.Part,(v.length:Int),c.Size,c.Text⟩:c8))++v.drop k) (k:Int)=some v[k]:=by
   rw [U8 (by omega)];rw [List.getElem_append_right (by simp;omega)];simp [a1j (a2P hk)]
  rw [hidx,j3,j3,W_s (by omega),hlen,a7g];congr 3;rw [List.set_append_right _ _ (by simp;omega)];simp only [a9c,a1G,a1j (a2P hk),Nat.sub_self];rw [b3T hk,List.set_cons_zero,a4A hk,List.map_append,a2N];rfl) (by
  unfold I0;dsimp only;rw [i6 (by simp),a6n,List.drop_length,List.append_nil])
 rw [a9J,List.drop_zero,a6q,Y7]at key;exact key
theorem a5R {r:b9} (h:w8 r) (no:Int):Q1 r no=some (a1B (Z2 r) no):=by
 have hz:=a0Z h;unfold Q1 L8;rw [a6e h,j3];generalize Z2 r=s at hz⊢;have hP:J6 s.size≤17:=a1i hz;rw [A6 (by omega),j3,i6 (by decide),j3];dsimp only;rw [c1M s hz,j3];dsimp only;rw [c2M no _ _ (by simp;omega),j3];dsimp only;rw [c5a _ (by simp [a9W];omega),j3];dsimp only;congr 1;apply List.ext_getElem?;intro i;simp only [Y7,List.getElem?_map,a0a];by_cases hi:i<J6 s.size
 · rw [b9G no _ 0 i (by simpa using hi)]
   simp only [a1B,List.getElem?_map,List.getElem_map,List.getElem_range,List.getElem?_range hi,a3j,a9W,a9c,List.length_range,R6];congr 1;unfold b5D;have hb:=c0r s (24*i) (min s.size (24*(i+1)));have hl:=b6W s (24*i) (min s.size (24*(i+1))) (by omega);have hl2:(a8q s i).size=min s.size (24*(i+1))-24*i:=by unfold a8q;rw [ByteArray.size_extract];omega
   rw [hb,hl,hl2];rfl
 · rw [a7s (by simp [a9W];omega),a7s (by rw [a0x];omega)];rfl
theorem b7g (a b:c8):((a.No==b.No)&&((a.Part==b.Part)&&((a.Parts==b.Parts)&&((a.Size==b.Size)&&(a.Text.toList==b.Text.toList)))))=decide (a=b):=by
 rw [a9C,a4d];simp only [y6,P6,D0];cases a;cases b;simp
theorem b0e (a b:b9):((a.At.Depot==b.At.Depot)&&((a.At.No==b.At.No)&&((a.Kind==b.Kind)&&((a.Day==b.Day)&&((a.Known==b.Known)&&((a.Of.Depot==b.Of.Depot)&&((a.Of.No==b.Of.No)&&(a.Text.toList==b.Text.toList))))))))=decide (a=b):=by
 rw [a9C,a4d];simp only [y6,P6,D0];obtain⟨⟨a1,a2⟩,a3,a4,a5,⟨a6,a7⟩,a8⟩:=a;obtain⟨⟨b1,b2⟩,b3,b4,b5,⟨b6,b7⟩,b8⟩:=b;simp [and_assoc]
theorem c3n (a b:o6):((a.Depot==b.Depot)&&(a.No==b.No))=decide (a=b):=by
 rw [a9C];simp only [y6,P6,D0];cases a;cases b;simp
theorem b2X {α:Type} [DecidableEq α] {body:(Bool×Int)→Option (Sum (Bool×Int) (Bool×Int))} (a b:List α) (hl:a.length≤9223372036854775800)
 (h1:∀(i:Nat) (hi:i<a.length) (hj:i<b.length),body (true,(i:Int))=some (.inl (decide (a[i]=b[i]),((i+1:Nat):Int))))
 (h2:∀i:Nat,body (false,(i:Int))=some (.inr (false,(i:Int)))) (h3:body (true,(a.length:Int))=some (.inr (true,(a.length:Int)))):
 Option.bind (w6 body (((a.length:Int)==(b.length:Int)),0)) (fun(x:Bool×Int)=>match x with|(same,_)=>some same)=some (decide (a=b)):=by
 by_cases hab:a.length=b.length
 · obtain⟨e,he,i,rfl⟩:=a6d (body:=body) (fun st=>∃(i:Nat),i≤a.length∧st.2=(i:Int)∧(st.1=true→a.take i=b.take i)∧(st.1=false→a≠b)) (fun st=>2*a.length+2-(2*st.2.toNat+if st.1 then 0 else 1))
    (fun e=>∃i:Int,e=(decide (a=b),i)) (by
    rintro⟨s,_⟩ ⟨i,hi,rfl,ht,hf⟩;cases s with
    |false=>
     left;refine⟨_,h2 i,i, ?_⟩;have:=hf rfl;simp [this]
    |true=>
     have ht:=ht rfl;rcases Nat.lt_or_ge i a.length with h|h
     · right;refine⟨_,h1 i h (by omega),⟨i+1,h,rfl,fun hd=> ?_,fun hd e=> ?_⟩, ?_⟩
       · rw [a4A h,a4A (by omega),ht,of_decide_eq_true hd]
       · subst e;simp at hd
       · simp only [a7g];split<;>simp<;>omega
     · left;obtain rfl:i=a.length:=by omega
       refine⟨_,h3,(a.length:Int), ?_⟩
       have:a=b:=by
        rw [a6n,hab,a6n]at ht;exact ht
       simp [this]) (((a.length:Int)==(b.length:Int)),0) ⟨0,J4 _,rfl,fun _=>rfl,fun h=>by rw [hab]at h;simp at h⟩ (by unfold a1K;simp only;omega)
   rw [he];rfl
 · have e:((a.length:Int)==(b.length:Int))=false:=by rw [beq_eq_false_iff_ne];omega
   rw [e]
   have:w6 body (false,0)=some (false,0):=by
    have:=a0Q (body:=body) (fun _=>(false,(0:Int))) 0 (by omega) (false,0) (fun k hk=>by omega) (h2 0);exact this
   rw [this];have hne:a≠b:=fun e=>hab (by rw [e])
   simp [hne]
theorem a3Q (a b:List c8) (hl:a.length≤9223372036854775800):K4 a b=some (decide (a=b)):=by
 unfold K4;refine b2X a b hl (fun i hi hj=> ?_) (fun i=> ?_) ?_
 · unfold I7;dsimp only;rw [e9 (by simp only [D0];omega),e9 rfl,U8 hi,U8 hj,j3,j3,b7g,W_s (by omega)]
 · unfold I7;dsimp only;split<;>rfl
 · unfold I7;dsimp only;rw [i6 (by simp)]
theorem b1y (a b:List b9) (hl:a.length≤9223372036854775800):Q3 a b=some (decide (a=b)):=by
 unfold Q3;refine b2X a b hl (fun i hi hj=> ?_) (fun i=> ?_) ?_
 · unfold E9;dsimp only;rw [e9 (by simp only [D0];omega),e9 rfl,U8 hi,U8 hj,j3,j3,b0e,W_s (by omega)]
 · unfold E9;dsimp only;split<;>rfl
 · unfold E9;dsimp only;rw [i6 (by simp)]
theorem b7i (a b:List c8) (hl:a.length≤9223372036854775800):A3 a b=some (decide (a=b)):=by
 unfold A3;by_cases hab:a.length=b.length
 · rw [i6 (by simp [hab])];refine b3u a.length (by omega) (fun i=>a[i]?=b[i]?) 0 (J4 _) (fun i _ hi=> ?_) ?_ _ ?_
   · unfold w9;rw [e9 (by simp only [D0];omega),U8 hi,U8 (show i<b.length by omega),j3,j3,b7g,W_s (by omega),M6 hi,M6 (show i<b.length by omega)];by_cases h:a[i]=b[i]'(by omega)
     · left;refine⟨by rw [h], ?_⟩;rw [i6 (by simp [h])]
     · right;refine⟨by simpa using h, ?_⟩;rw [e9 (by simp [h])]
   · unfold w9;rw [i6 (by simp)]
   · rw [decide_eq_true_iff];constructor
     · intro h i _ _;rw [h]
     · intro h;apply List.ext_getElem?;intro i;by_cases hi:i<a.length
       · exact h i (J4 _) hi
       · rw [a7s (by omega),a7s (by omega)]
 · rw [e9 (by simpa using (by omega:(a.length:Int)≠(b.length:Int)))]
   have:a≠b:=fun e=>hab (by rw [e])
   simp [this]
abbrev I6:=Int×Int×Int×Int×Int×Int
def cnt (l:List b9) (d:Int):Nat:=l.countP fun r=>r.At.Depot==d
def a4G (l:List b9):I6:=((cnt l 0:Nat),(cnt l 1:Nat),(cnt l 2:Nat),(cnt l 3:Nat),(cnt l 4:Nat),(cnt l 5:Nat))
def b8H (t:I6):List Int:= [t.1,t.2.1,t.2.2.1,t.2.2.2.1,t.2.2.2.2.1,t.2.2.2.2.2]
def Y0 (d:Int):Prop:=0≤d∧d≤5
theorem b3O {d:Int} (h:Y0 d):d=0∨d=1∨d=2∨d=3∨d=4∨d=5:=by unfold Y0 at h;omega
theorem b9p (d:Int):cnt [] d=0:=rfl
theorem a2k (l:List b9) (r:b9) (d:Int):cnt (l++ [r]) d=cnt l d+if r.At.Depot=d then 1 else 0:=by
 unfold cnt;rw [List.countP_append];by_cases h:r.At.Depot=d<;>simp [h]
theorem c5C (l:List b9) (d:Int):cnt l d≤l.length:=List.countP_le_length
theorem a5O (l:List b9) {d:Int} (h:Y0 d):idx (b8H (a4G l)) d=some ((cnt l d:Nat):Int):=by
 rcases b3O h with rfl|rfl|rfl|rfl|rfl|rfl<;>rfl
theorem b4L (l:List b9) (hl:l.length≤1000000) (hd:∀r∈l,Y0 r.At.Depot):a1c l=some (a4G l):=by
 have key:=a1T (body:=N1 l) (R:=Unit) l (by omega) (fun k (s:I6)=>((k:Int),s.1,s.2.1,s.2.2.1,s.2.2.2.1,s.2.2.2.2.1,s.2.2.2.2.2)) (fun s x=> .inl ((if x.At.Depot=0 then s.1+1 else s.1),(if x.At.Depot=1 then s.2.1+1 else s.2.1),(if x.At.Depot=2 then s.2.2.1+1 else s.2.2.1),(if x.At.Depot=3 then s.2.2.2.1+1 else s.2.2.2.1),(if x.At.Depot=4 then s.2.2.2.2.1+1 else s.2.2.2.2.1),(if x.At.Depot=5 then s.2.2.2.2.2+1 else s.2.2.2.2.2))) (fun _=>((0:Int),(0:Int),(0:Int),(0:Int),(0:Int),(0:Int),(0:Int))) (fun s=>((l.length:Int),s.1,s.2.1,s.2.2.1,s.2.2.2.1,s.2.2.2.2.1,s.2.2.2.2.2)) (fun pre s=>s=a4G pre) (by
  rintro pre x post s hp rfl;have hx:Y0 x.At.Depot:=hd x (by rw [hp];simp);have hpl:pre.length<l.length:=by rw [hp];simp
  have hb:∀d,cnt pre d≤pre.length:=c5C pre;constructor
  · unfold N1;dsimp only;rw [e9 (by simp only [D0];omega)];have hi:idx l ((pre.length:Nat):Int)=some x:=by rw [hp];exact a5N
    rw [hi,j3,A6 (by unfold Y0 at hx;omega)];have e:=a5O pre hx;unfold b8H at e;rw [e,j3,A6 (by unfold Y0 at hx;omega),j3];have hw:W ((cnt pre x.At.Depot:Nat)+1)=((cnt pre x.At.Depot:Nat):Int)+1:=a2z (by have:=hb x.At.Depot;omega);rw [hw,W_s (by omega)];simp only [j3,a4G];rcases b3O hx with h|h|h|h|h|h<;>rw [h]<;>rfl
  · intro s' hs';simp only [Sum.inl.injEq]at hs';subst hs';unfold a4G;simp only [a2k];refine Prod.ext ?_ (Prod.ext ?_ (Prod.ext ?_ (Prod.ext ?_ (Prod.ext ?_ ?_))))<;>(dsimp only;split<;>simp)) (by
  rintro s _;unfold N1;dsimp only;rw [i6 (by simp)]) (0,0,0,0,0,0) (by simp [a4G,cnt])
 unfold a1c;have key2:w6 (N1 l) (0,0,0,0,0,0,0)=_:=key;rw [key2]
 have hrun:∀(post pre:List b9),a0E (R:=Unit) (fun(s:I6) (x:b9)=> .inl ((if x.At.Depot=0 then s.1+1 else s.1),(if x.At.Depot=1 then s.2.1+1 else s.2.1),(if x.At.Depot=2 then s.2.2.1+1 else s.2.2.1),(if x.At.Depot=3 then s.2.2.2.1+1 else s.2.2.2.1),(if x.At.Depot=4 then s.2.2.2.2.1+1 else s.2.2.2.2.1),(if x.At.Depot=5 then s.2.2.2.2.2+1 else s.2.2.2.2.2))) post (a4G pre)= .inl (a4G (pre++post)):=by
  intro post
  induction post with
  |nil=>intro pre;simp [a0E]
  |cons x post ih=>
   intro pre;simp only [a0E];rw [show pre++x::post=(pre++ [x])++post by simp,←ih (pre++ [x])];congr 1;unfold a4G;simp only [a2k];refine Prod.ext ?_ (Prod.ext ?_ (Prod.ext ?_ (Prod.ext ?_ (Prod.ext ?_ ?_))))<;>(dsimp only;split<;>simp)
 have h0:((0,0,0,0,0,0):I6)=a4G []:=by simp [a4G,cnt]
 have hr:=hrun l [];rw [←h0]at hr;rw [hr];rfl
theorem b5f (l:List b9) (hl:l.length≤1000000) (hd:∀r∈l,Y0 r.At.Depot):a0J l=some (a4G l):=b4L l hl hd
theorem Z7 {r:b9} (h:w8 r):Y0 r.At.Depot:=h.1.1
def N8 (l:List b9) (r:b9):Prop:=l.length<60∧((cnt l r.At.Depot:Nat):Int)=r.At.No
instance (l : List b9) (r : b9) : Decidable (N8 l r) := by unfold N8; infer_instance
theorem b9o (l:List b9) (r:b9) (hl:l.length≤1000000) (hd:∀r∈l,Y0 r.At.Depot) (hr:Y0 r.At.Depot):Z4 l r=some (decide (N8 l r)):=by
 unfold Z4 N8;by_cases h:l.length<60
 · rw [e9 (by simp only [D0];omega),b4L l hl hd,j3];have e:=a5O l hr;unfold b8H at e;rw [e,j3];simp only [h,P1];congr 1
 · rw [i6 (by simp only [D0];omega)];simp [h]
theorem c2B (l:List b9) (r:b9) (hl:l.length≤1000000) (hd:∀r∈l,Y0 r.At.Depot) (hs:r.Text.size≤9223372036854775807):a4a l r=some (decide (w8 r∧N8 l r)):=by
 unfold a4a;rw [a1X r hs,j3];by_cases hok:w8 r
 · rw [e9 hok,e9 (by decide)];by_cases h:l.length<60
   · rw [e9 (by simp only [D0];omega),b5f l hl hd,j3];have e:=a5O l (Z7 hok);unfold b8H at e;rw [e,j3];congr 1;rw [a9C];simp only [P6,D0,N8,h,hok,P1];exact eq_comm
   · rw [i6 (by simp only [D0];omega)];have:¬N8 l r:=fun q=>h q.1
     simp [this]
 · rw [i6 hok,i6 (by decide)];simp [hok]
def Written (l:List b9):Prop:=∀(i:Nat) (r:b9),l[i]?=some r→w8 r∧N8 (l.take i) r
theorem Written.len {l:List b9} (h:Written l):l.length≤60:=by
 rcases Nat.lt_or_ge 60 l.length with hl|hl
 · have:=(h 60 l[60] (M6 hl)).2.1;simp at this;omega
 · exact hl
theorem Written.rec {l:List b9} (h:Written l) {r:b9} (hr:r∈l):w8 r:=by
 obtain⟨i,hi,rfl⟩:=b3g hr;exact(h i _ (M6 hi)).1
theorem Written.dep {l:List b9} (h:Written l) {r:b9} (hr:r∈l):Y0 r.At.Depot:=Z7 (h.rec hr)
theorem Written.nil:Written []:=fun i r h=>by simp at h
theorem Written.snoc {l:List b9} (h:Written l) {r:b9} (hr:w8 r) (hn:N8 l r):Written (l++ [r]):=by
 intro i x hx;rcases Nat.lt_trichotomy i l.length with h1|h1|h1
 · rw [a8Y h1]at hx;have:=h i x hx;rwa [b3P (a2P h1)]
 · subst h1;simp at hx;subst hx;simpa using ⟨hr,hn⟩
 · rw [a7s (by simp;omega)]at hx;cases hx
theorem a8h {body:Int→Option (Sum Int (Sum Int Bool))} (l:List b9) (hl:l.length≤9223372036854775800) (ans:Bool) (ha:ans=true↔Written l)
 (h:∀(i:Nat) (hi:i<l.length),(∀r∈l.take i,w8 r)→i≤60→body (i:Int)=some (if w8 l[i]∧N8 (l.take i) l[i]then .inl ((i+1:Nat):Int)else .inr (.inr false)))
 (he:body (l.length:Int)=some (.inr (.inl (l.length:Int)))):(w6 body 0).bind (fun e=>match e with| .inl _=>some true| .inr r=>some r)=some ans:=by
 obtain⟨e,h1,h2⟩:=a6d (body:=body) (fun st=>∃i:Nat,st=(i:Int)∧i≤l.length∧Written (l.take i)) (fun st=>l.length-st.toNat) (fun e=>match e with| .inl _=>Written l| .inr r=>r=false∧¬Written l) (by
  rintro _ ⟨i,rfl,hi,hw⟩;rcases Nat.lt_or_ge i l.length with hlt|hge
  · have hlen:=hw.len;have hb:=h i hlt (fun r hr=>hw.rec hr) (by simp at hlen;omega);by_cases hok:w8 l[i]∧N8 (l.take i) l[i]
    · right;rw [e9 hok]at hb;refine⟨_,hb,⟨i+1,rfl,hlt, ?_⟩, ?_⟩
      · rw [a4A hlt];exact hw.snoc hok.1 hok.2
      · simp only [a7g];omega
    · left;rw [i6 hok]at hb;exact⟨_,hb,rfl,fun hw2=>hok (hw2 i _ (M6 hlt))⟩
  · left;obtain rfl:i=l.length:=by omega
    refine⟨_,he, ?_⟩;rw [a6n]at hw;exact hw) 0 ⟨0,rfl,J4 _,by rw [a9J];exact Written.nil⟩ (by unfold a1K;simp only [Int.toNat_zero];omega)
 rw [h1];cases e with
 |inl _=>simp only [j3];rw [ha.2 h2]
 |inr r=>
  obtain⟨rfl,h2⟩:=h2;have:ans=false:=by cases ans with|false=>rfl|true=>exact absurd (ha.1 rfl) h2
  simp only [j3];rw [this]
open Classical in theorem areWritten_eq (l : List b9) (hl : l.length ≤ 9223372036854775800) (hs : ∀ r ∈ l, r.Text.size ≤ 9223372036854775807) : O8 l = some (decide (Written l)) := by
  unfold O8;refine a8h l hl _ (by simp) (fun i hi hpre h60 => ?_) ?_
  · unfold J1;rw [e9 (by simp only [D0]; omega), U8 hi, j3, O3 _ (hs _ (a2C hi)), j3];by_cases hok : w8 l[i]
    · rw [i6 (by simp [hok]), A6 (by omega), j3];have e : sub l 0 ((i : Int)).toNat = l.take i := by unfold sub; simp
      rw [e, b9o _ _ (by simp; omega) (fun r hr => Z7 (hpre r hr)) (Z7 hok), j3, W_s (by omega)];by_cases hn : N8 (l.take i) l[i] <;> simp [hok, hn]
    · rw [e9 (by simp [hok])];simp [hok]
  · unfold J1;rw [i6 (by simp)]
open Classical in theorem AreWritten_eq (l : List b9) (hl : l.length ≤ 9223372036854775800) (hs : ∀ r ∈ l, r.Text.size ≤ 9223372036854775807) : U0 l = some (decide (Written l)) := by
  unfold U0;refine a8h l hl _ (by simp) (fun i hi hpre h60 => ?_) ?_
  · unfold M7;rw [e9 (by simp only [D0]; omega), A6 (by omega), j3, U8 hi, j3];have e : sub l 0 ((i : Int)).toNat = l.take i := by unfold sub; simp
    rw [e, c2B _ _ (by simp; omega) (fun r hr => Z7 (hpre r hr)) (hs _ (a2C hi)), j3, W_s (by omega)];by_cases hn : w8 l[i] ∧ N8 (l.take i) l[i]
    · rw [i6 (by simp [hn]), e9 hn]
    · rw [e9 (by simp only [a4p, decide_eq_false_iff_not]; exact hn), i6 hn]
  · unfold M7;rw [i6 (by simp)]
open Classical in noncomputable def decF (t : ByteArray) : Option b9 := if h : ∃ r, w8 r ∧ Z2 r = t then some (Classical.choose h) else none
theorem c4u {r q:b9} (hr:w8 r) (hq:w8 q) (h:Z2 r=Z2 q):r=q:=by
 have h1:=b4V hr;rw [h,b4V hq]at h1;simp only [M9,a2a,and_true]at h1;exact h1.symm
theorem a5F {t:ByteArray} {r:b9} (h:decF t=some r):w8 r∧Z2 r=t:=by
 unfold decF at h;split at h
 · rename_i hx;cases h;exact Classical.choose_spec hx
 · cases h
theorem b5u {r:b9} (h:w8 r):decF (Z2 r)=some r:=by
 have hx:∃q,w8 q∧Z2 q=Z2 r:=⟨r,h,rfl⟩;unfold decF;rw [dif_pos hx];congr 1;have:=Classical.choose_spec hx;exact c4u this.1 h this.2
theorem c0U {t:ByteArray} (h:decF t=none):∀r,w8 r→Z2 r≠t:=fun r hr e=>by
 subst e;rw [b5u hr]at h;cases h
theorem c1q (t:ByteArray) (ht:t.size≤281474976710656):F3 t=some (match decF t with|some r=>(r,true)|none=>(zR,false)):=by
 cases h:decF t with
 |none=>exact c5U t ht (c0U h)
 |some r=>obtain⟨h1,rfl⟩:=a5F h;exact b4V h1
def a3a (l:List c8) (no p q:Int):Option c8:=l.find? fun c=>decide (R0 c∧c.No=no∧c.Part=p∧(q=0∨c.Parts=q))
theorem a9E {l:List c8} {no p q:Int} {c:c8} (h:a3a l no p q=some c):R0 c∧c.No=no∧c.Part=p∧(q=0∨c.Parts=q):=by
 have:=List.find?_some h;exact of_decide_eq_true this
def a5S (l:List c8) (no q:Int):Nat→Int→Option ByteArray
 |0,_=>some ⟨#[]⟩
 |n+1,i=>match a3a l no i q with
  |none=>none
  |some c=>match a5S l no q n (i+1)with
   |none=>none
   |some t=>some (c.Text++t)
def b2f (l:List c8) (no:Int):Option ByteArray:=match a3a l no 0 0 with
 |none=>none
 |some c=>a5S l no c.Parts c.Parts.toNat 0
noncomputable def a5y (l:List c8):Nat→List b9→List b9
 |0,out=>out
 |n+1,out=>match b2f l (out.length:Int)with
  |none=>out
  |some t=>match decF t with
   |none=>out
   |some r=>if N8 out r then a5y l n (out++ [r])else out
noncomputable def a9a (l:List c8):List b9:=a5y l 61 []
theorem a6p (l:List c8):∀(n:Nat) (out:List b9),Written out→Written (a5y l n out)
 |0,out,h=>h
 |n+1,out,h=>by
  simp only [a5y];split
  · exact h
  · split
    · exact h
    · rename_i r hr;split
      · rename_i hn;exact a6p l n _ (h.snoc (a5F hr).1 hn)
      · exact h
theorem b2z (l:List c8):Written (a9a l):=a6p l 61 [] Written.nil
def ofK:Int→List b9→List c8
 |_, []=> []
 |k,r::l=>a1B (Z2 r) k++ofK (k+1) l
def ofF (l:List b9):List c8:=ofK 0 l
theorem b0Y:∀(l m:List b9) (k:Int),ofK k (l++m)=ofK k l++ofK (k+l.length) m
 | [],m,k=>by simp [ofK]
 |r::l,m,k=>by
  simp only [S0,ofK,b0Y l m (k+1),a2N,P0];rw [show k+1+(l.length:Int)=k+((l.length+1:Nat):Int) by omega]
theorem b1w (l:List b9) (r:b9):ofF (l++ [r])=ofF l++a1B (Z2 r) (l.length:Int):=by
 unfold ofF;rw [b0Y];simp [ofK]
theorem a7m:∀(l:List b9) (k:Int),(∀r∈l,w8 r)→(ofK k l).length≤17*l.length
 | [],_,_=>by simp [ofK]
 |r::l,k,h=>by
  have h1:=a7m l (k+1) fun x hx=>h x (A9 _ hx)
  have h2:=a1i (a0Z (h r F5));simp only [ofK,N0,P0,a0x];omega
theorem c1Q (l:List b9) (h:∀r∈l,w8 r) (hl:l.length≤1000):a2i l=some (ofF l):=by
 have key:=a0Q (body:=P9 l) (fun k=>(ofF (l.take k),(k:Int))) l.length (by omega) (ofF l,(l.length:Int)) (fun k hk=>by
  unfold P9;dsimp only;have hlen:=a7m (l.take k) 0 fun r hr=>h r (a3k hr)
  have hp:=a1i (a0Z (h l[k] (a2C hk)));rw [e9 (by simp only [D0];omega),U8 hk,j3,a5R (h _ (a2C hk)),j3,A6 (by unfold ofF;rw [a0x];simp at hlen;omega),W_s (by omega)];congr 3;rw [a4A hk,b1w];simp [a1j (a2P hk)]) (by
  unfold P9;dsimp only;rw [i6 (by simp),a6n])
 unfold a2i;rw [a9J]at key;have key2:w6 (P9 l) ([],0)=_:=key;rw [key2];rfl
theorem c5X (l:List b9) (h:∀r∈l,w8 r) (hl:l.length≤1000):a5W l=some (ofF l):=by
 have key:=a0Q (body:=U4 l) (fun k=>(ofF (l.take k),(k:Int))) l.length (by omega) (ofF l,(l.length:Int)) (fun k hk=>by
  unfold U4;dsimp only;have hlen:=a7m (l.take k) 0 fun r hr=>h r (a3k hr)
  have hp:=a1i (a0Z (h l[k] (a2C hk)));rw [e9 (by simp only [D0];omega),U8 hk,j3,b3i (h _ (a2C hk)),j3,A6 (by unfold ofF;rw [a0x];simp at hlen;omega),W_s (by omega)];congr 3;rw [a4A hk,b1w];simp [a1j (a2P hk)]) (by
  unfold U4;dsimp only;rw [i6 (by simp),a6n])
 unfold a5W;rw [a9J]at key;have key2:w6 (U4 l) ([],0)=_:=key;rw [key2];rfl
theorem c3Z (t:ByteArray):(⟨#[]⟩:ByteArray)++t=t:=by
 apply a9t;apply F9;rw [ByteArray.data_append];simp
theorem c4e (t:ByteArray):t++(⟨#[]⟩:ByteArray)=t:=by
 apply a9t;apply F9;rw [ByteArray.data_append];simp
theorem c8k (b:l7) (h:(b.Thread.length+b.Loose.length)*48≤140737488355328):a7t b=some (b.Thread++b.Loose):=by
 unfold a7t;rw [A6 (by simp;omega),A6 (by simp;omega)];rfl
theorem b0s (b:l7) (h:(b.Thread.length+b.Loose.length)*48≤140737488355328):X4 b=some (b.Thread++b.Loose):=by
 unfold X4 D4
 have k1:w6 (j5 [b.Thread,b.Loose]) (0,0)=some (((b.Thread.length+b.Loose.length:Nat):Int),2):=
  a0Q (body:=j5 [b.Thread,b.Loose]) (fun k=>match k with|0=>(0,0)|1=>((b.Thread.length:Int),1)|_=>(((b.Thread.length+b.Loose.length:Nat):Int),2)) 2 (by omega) _ (fun k hk=>by
   match k,hk with
   |0,_=>
    show j5 [b.Thread,b.Loose] (0,0)=some (.inl ((b.Thread.length:Int),1));unfold j5;dsimp only;rw [e9 (by simp),show idx [b.Thread,b.Loose] 0=some b.Thread from rfl,j3,a2z (z:=(0:Int)+(b.Thread.length:Int)) (by omega),i6 (by simp only [D0];omega),show W ((0:Int)+1)=1 from rfl,Int.zero_add]
   |1,_=>
    show j5 [b.Thread,b.Loose] ((b.Thread.length:Int),1)=some (.inl (((b.Thread.length+b.Loose.length:Nat):Int),2));unfold j5;dsimp only;rw [e9 (by simp),show idx [b.Thread,b.Loose] 1=some b.Loose from rfl,j3,a2z (z:=(b.Thread.length:Int)+(b.Loose.length:Int)) (by omega),i6 (by simp only [D0];omega),show W ((1:Int)+1)=2 from rfl];rfl) (by
   show j5 [b.Thread,b.Loose] (((b.Thread.length+b.Loose.length:Nat):Int),2)=some (.inr (((b.Thread.length+b.Loose.length:Nat):Int),2));unfold j5;dsimp only;rw [i6 (by simp)])
 have k2:w6 (j4 [b.Thread,b.Loose]) (0,([]:List c8))=some (2,b.Thread++b.Loose):=
  a0Q (body:=j4 [b.Thread,b.Loose]) (fun k=>match k with|0=>(0, [])|1=>(1,b.Thread)|_=>(2,b.Thread++b.Loose)) 2 (by omega) _ (fun k hk=>by
   match k,hk with
   |0,_=>
    show j4 [b.Thread,b.Loose] (0, [])=some (.inl (1,b.Thread));unfold j4;dsimp only;rw [e9 (by simp),show idx [b.Thread,b.Loose] 0=some b.Thread from rfl,j3,A6 (by simp;omega),show W ((0:Int)+1)=1 from rfl,Y7]
   |1,_=>
    show j4 [b.Thread,b.Loose] (1,b.Thread)=some (.inl (2,b.Thread++b.Loose));unfold j4;dsimp only;rw [e9 (by simp),show idx [b.Thread,b.Loose] 1=some b.Loose from rfl,j3,A6 (by omega),show W ((1:Int)+1)=2 from rfl]) (by
   show j4 [b.Thread,b.Loose] (2,b.Thread++b.Loose)=some (.inr (2,b.Thread++b.Loose));unfold j4;dsimp only;rw [i6 (by simp)])
 rw [k1,j3];dsimp only;rw [A6 (by omega),k2];rfl
theorem c3h (b:l7) (h:(b.Thread.length+b.Loose.length)*48≤140737488355328):S9 b=some ((b.Thread++b.Loose).filter (fun c=>decide (R0 c)),()):=by
 unfold S9;rw [b0s b h,j3];have hl:(b.Thread++b.Loose).length≤9223372036854775800:=by rw [N0];omega
 generalize b.Thread++b.Loose=l at hl
 have key:=b1p (body:=E2 l) l (by omega) (fun k=>(k:Int)) (fun c=>if R0 c then [c]else []) (l.length:Int) (fun pre x post hx=>by
  unfold E2;rw [e9 (by rw [hx];simp only [D0];exact b0t),show idx l ((pre.length:Nat):Int)=some x from by rw [hx];exact a5N,j3,b7p,j3];have hlt:pre.length<l.length:=by rw [hx];simp
  rw [W_s (by omega)];by_cases hw:R0 x
  · simp [hw,emit]
  · simp [hw]) (by
  unfold E2;rw [i6 (by simp)])
 have key2:b1b (E2 l) 0=_:=key;rw [key2];simp only [b2U,List.append_nil];congr 2
 induction l with
 |nil=>rfl
 |cons x l ih=>
  simp only [L3,List.filter_cons];clear key key2
  have ih':List.flatMap (fun c=>if R0 c then [c]else []) l=List.filter (fun c=>decide (R0 c)) l:=by
   clear ih hl
   induction l with
   |nil=>rfl
   |cons y l ih=>simp only [L3,List.filter_cons,ih];by_cases hy:R0 y<;>simp [hy]
  rw [ih'];by_cases hx:R0 x<;>simp [hx]
section
variable {K V : Type} [DecidableEq K]
theorem b2R (l:List (K×V)) (k:K) (v:V) (j:K):z8 (a4H l k v) j=if j=k then some v else z8 l j:=by
 induction l with
 |nil=>simp [a4H,z8]
 |cons p l ih=>
  obtain⟨a,x⟩:=p;simp only [a4H];by_cases h:k=a
  · subst h;simp only [C6,z8];by_cases hj:j=k<;>simp [hj]
  · rw [i6 h];simp only [z8];by_cases hj:j=a
    · subst hj;rw [e9 rfl,e9 rfl,i6 (fun e=>h e.symm)]
    · rw [i6 hj,i6 hj,ih]
end
def plc (c:c8):A1:=⟨c.No,c.Part,c.Parts⟩
theorem b8W:∀(ws:List c8) (a:List (A1×ByteArray)) (b:List (Int×Int)),∃a' b',J5 K6 ws (a,b)=some (.inl (a',b'))∧
 (∀p,z8 a' p=(z8 a p).or ((ws.find? fun c=>decide (plc c=p)).map (·.Text)))∧(∀k,z8 b' k=(z8 b k).or ((ws.find? fun c=>decide (c.No=k∧c.Part=0)).map (·.Parts)))
 | [],a,b=>⟨a,b,rfl,fun p=>by simp,fun k=>by simp⟩
 |c::ws,a,b=>by
  have hstep:∃a1 b1,K6 (a,b) c=some (.inl (a1,b1))∧(∀p,z8 a1 p=(z8 a p).or (if plc c=p then some c.Text else none))∧(∀k,z8 b1 k=(z8 b k).or (if c.No=k∧c.Part=0 then some c.Parts else none)):=by
   unfold K6;dsimp only
   have ha:∀p,(z8 a (plc c)).isSome=false→z8 (a4H a (plc c) c.Text) p=(z8 a p).or (if plc c=p then some c.Text else none):=fun p h=>by
    rw [b2R];by_cases hp:p=plc c
    · subst hp;rw [e9 rfl,e9 rfl];cases hm:z8 a (plc c)with
      |none=>rfl
      |some v=>rw [hm]at h;cases h
    · rw [i6 hp,i6 (fun e=>hp e.symm)];simp
   have ha2:∀p,(z8 a (plc c)).isSome=true→z8 a p=(z8 a p).or (if plc c=p then some c.Text else none):=fun p h=>by
    by_cases hp:plc c=p
    · subst hp;cases hm:z8 a (plc c)with
      |none=>rw [hm]at h;cases h
      |some v=>rfl
    · rw [i6 hp];simp
   have hb:∀k,(z8 b c.No).isSome=false→c.Part=0→z8 (a4H b c.No c.Parts) k=(z8 b k).or (if c.No=k∧c.Part=0 then some c.Parts else none):=fun k h h0=>by
    rw [b2R];by_cases hp:k=c.No
    · subst hp;rw [e9 rfl,e9 ⟨rfl,h0⟩];cases hm:z8 b c.No with
      |none=>rfl
      |some v=>rw [hm]at h;cases h
    · rw [i6 hp,i6 (fun e=>hp e.1.symm)];simp
   have hb2:∀k,((z8 b c.No).isSome=true∨c.Part≠0)→z8 b k=(z8 b k).or (if c.No=k∧c.Part=0 then some c.Parts else none):=fun k h=>by
    by_cases hp:c.No=k∧c.Part=0
    · rcases h with h|h
      · rw [hp.1]at h;cases hm:z8 b k with
        |none=>rw [hm]at h;cases h
        |some v=>rfl
      · exact absurd hp.2 h
    · rw [i6 hp];simp
   have e:(⟨c.No,c.Part,c.Parts⟩:A1)=plc c:=rfl;rw [e];cases h1:(z8 a (plc c)).isSome with
   |false=>
    rw [e9 (by decide)];cases h2:(z8 b c.No).isSome with
    |false=>
     rw [e9 (by decide)];by_cases h0:c.Part=0
     · rw [e9 (by simpa using h0)]
       exact⟨_,_,rfl,fun p=>ha p h1,fun k=>hb k h2 h0⟩
     · rw [i6 (by simpa using h0)]
       exact⟨_,_,rfl,fun p=>ha p h1,fun k=>hb2 k (.inr h0)⟩
    |true=>
     rw [i6 (by decide)];exact⟨_,_,rfl,fun p=>ha p h1,fun k=>hb2 k (.inl h2)⟩
   |true=>
    rw [i6 (by decide)];cases h2:(z8 b c.No).isSome with
    |false=>
     rw [e9 (by decide)];by_cases h0:c.Part=0
     · rw [e9 (by simpa using h0)]
       exact⟨_,_,rfl,fun p=>ha2 p h1,fun k=>hb k h2 h0⟩
     · rw [i6 (by simpa using h0)]
       exact⟨_,_,rfl,fun p=>ha2 p h1,fun k=>hb2 k (.inr h0)⟩
    |true=>
     rw [i6 (by decide)];exact⟨_,_,rfl,fun p=>ha2 p h1,fun k=>hb2 k (.inl h2)⟩
  obtain⟨a1,b1,h1,h2,h3⟩:=hstep;obtain⟨a2,b2,h4,h5,h6⟩:=b8W ws a1 b1;refine⟨a2,b2,by simp only [J5,h1];exact h4,fun p=> ?_,fun k=> ?_⟩
  · rw [h5,h2,Option.or_assoc];congr 1;simp only [List.find?_cons];by_cases hp:plc c=p<;>simp [hp]
  · rw [h6,h3,Option.or_assoc];congr 1;simp only [List.find?_cons];by_cases hp:c.No=k∧c.Part=0<;>simp [hp]
theorem a9I {α:Type} (p q:α→Bool) (l:List α):(l.filter p).find? q=l.find? fun x=>p x&&q x:=by
 induction l with
 |nil=>rfl
 |cons x l ih=>
  simp only [List.filter_cons,List.find?_cons];by_cases hp:p x=true
  · simp [hp,List.find?_cons,ih]
  · simp [hp,ih]
structure c5G (l:List c8) (A:List (A1×ByteArray)) (B:List (Int×Int)):Prop where
 a:∀k i q:Int,q≠0→z8 A ⟨k,i,q⟩=(a3a l k i q).map (·.Text)
 b:∀k:Int,z8 B k=(a3a l k 0 0).map (·.Parts)
theorem c4k (l:List c8):∃A B,J5 K6 (l.filter fun c=>decide (R0 c)) (([]:List (A1×ByteArray)),([]:List (Int×Int)))=some (.inl (A,B))∧c5G l A B:=by
 obtain⟨A,B,h1,h2,h3⟩:=b8W (l.filter fun c=>decide (R0 c)) [] [];refine⟨A,B,h1,⟨fun k i q hq=> ?_,fun k=> ?_⟩⟩
 · rw [h2];simp only [z8,Option.none_or,a9I];unfold a3a;congr 2;funext c;rw [a9C];simp only [y6,D0,plc,A1.mk.injEq,hq,false_or]
 · rw [h3];simp only [z8,Option.none_or,a9I];unfold a3a;congr 2;funext c;rw [a9C];simp
theorem c1Z {l:List c8} {A:List (A1×ByteArray)} {B:List (Int×Int)} (hM:c5G l A B) (k P:Int) (hP:(z8 B k).getD 0=P) (hP0:P≠0) (hP10:P≤10):
 ∀(n:Nat) (i:Int) (s:ByteArray) (fine:Bool) (N:Nat),0≤i→i+n=P→s.size+24*n≤24*20→n<N→
  ∃s' fine' i',P2 (B1 A B k) N (s,fine,i)=some (s',fine',i')∧s'.size≤24*20∧(fine=false→fine'=false)∧(fine=true→match a5S l k P n i with|some t=>fine'=true∧s'=s++t|none=>fine'=false)
 |0,i,s,fine,N,h0,hi,hs,hN=>by
  cases N with
  |zero=>omega
  |succ N=>
   refine⟨s,fine,i, ?_,by omega,fun h=>h,fun h=>⟨h,(c4e s).symm⟩⟩;simp only [P2];unfold B1;dsimp only;rw [hP,i6 (by simp only [D0];omega)]
 |n+1,i,s,fine,N,h0,hi,hs,hN=>by
  cases N with
  |zero=>omega
  |succ N=>
   have ha:=hM.a k i P hP0
   have hsz:((z8 A ⟨k,i,P⟩).getD ⟨#[]⟩).size≤24:=by
    rw [ha];cases hp:a3a l k i P with
    |none=>exact J4 _
    |some c=>
     have hw:=(a9E hp).1;unfold R0 at hw;simp only [a3j,Option.getD_some];omega
   have hb:B1 A B k (s,fine,i)=some (.inl (s++(z8 A ⟨k,i,P⟩).getD ⟨#[]⟩,fine&&(z8 A ⟨k,i,P⟩).isSome,i+1)):=by
    unfold B1;dsimp only;rw [hP,e9 (by simp only [D0];omega),A6 (by omega),a2z (z:=i+1) (by omega)];cases fine<;>rfl
   simp only [P2,hb];obtain⟨s',fine',i',h1,h2,h3,h4⟩:=c1Z hM k P hP hP0 hP10 n (i+1) (s++(z8 A ⟨k,i,P⟩).getD ⟨#[]⟩) (fine&&(z8 A ⟨k,i,P⟩).isSome) N (by omega) (by omega) (by rw [ByteArray.size_append];omega) (by omega);refine⟨s',fine',i',h1,h2,fun hf=>h3 (by rw [hf];rfl),fun hf=> ?_⟩;simp only [a5S];cases hp:a3a l k i P with
   |none=>
    dsimp only;exact h3 (by rw [ha,hp];simp)
   |some c=>
    have h5:=h4 (by rw [hf,ha,hp];rfl);dsimp only;cases hg:a5S l k P n (i+1)with
    |none=>rw [hg]at h5;exact h5
    |some t=>
     rw [hg]at h5;refine⟨h5.1, ?_⟩;rw [h5.2,ha,hp];simp only [a3j,Option.getD_some];rw [ByteArray.append_assoc]
theorem b7B {l:List c8} {A:List (A1×ByteArray)} {B:List (Int×Int)} (hM:c5G l A B) (out:List b9) (hw:Written out):
 K5 A B (out,(out.length:Int))=some (match b2f l (out.length:Int)with
  |none=> .inr (out,(out.length:Int))
  |some t=>match decF t with
   |none=> .inr (out,(out.length:Int))
   |some r=>if N8 out r then .inl (out++ [r],((out.length+1:Nat):Int))else .inr (out,(out.length:Int))):=by
 have hlen:=hw.len;have hdep:∀r∈out,Y0 r.At.Depot:=fun r hr=>hw.dep hr
 have hb:=hM.b (out.length:Int);unfold K5;dsimp only;unfold b2f;cases hp:a3a l (out.length:Int) 0 0 with
 |none=>
  rw [hp]at hb;have hP:(z8 B (out.length:Int)).getD 0=0:=by rw [hb];rfl
  have hloop:w6 (B1 A B (out.length:Int)) (⟨#[]⟩,decide ((z8 B (out.length:Int)).getD 0>0),0)=some (⟨#[]⟩,false,0):=by
   rw [hP]
   exact a0Q (body:=B1 A B (out.length:Int)) (fun _=>((⟨#[]⟩:ByteArray),false,(0:Int))) 0 (by omega) _ (fun k hk=>by omega) (by
    unfold B1;dsimp only;rw [hP,i6 (by decide)])
  rw [hloop,j3];dsimp only;rw [e9 (by decide)]
 |some c0=>
  obtain⟨hw0,g1,g2,_⟩:=a9E hp;have hw1:=hw0;unfold R0 at hw1;rw [hp]at hb;have hP:(z8 B (out.length:Int)).getD 0=c0.Parts:=by rw [hb];rfl
  obtain⟨P,hPn⟩:∃P:Nat,c0.Parts=P:=⟨c0.Parts.toNat,by omega⟩;obtain⟨s',fine',i',h1,h2,_,h4⟩:=c1Z hM (out.length:Int) c0.Parts hP (by omega) (by omega) P 0 ⟨#[]⟩ true a1K (by omega) (by omega) (by show 0+24*P≤_;omega) (by unfold a1K;omega);have h4:=h4 rfl;have hfine:decide ((z8 B (out.length:Int)).getD 0>0)=true:=by rw [hP];simp only [D0];omega
  have hloop:w6 (B1 A B (out.length:Int)) (⟨#[]⟩,decide ((z8 B (out.length:Int)).getD 0>0),0)=some (s',fine',i'):=by rw [hfine];exact h1
  rw [hloop,j3];dsimp only;rw [show c0.Parts.toNat=P by omega];cases hg:a5S l (out.length:Int) c0.Parts P 0 with
  |none=>
   rw [hg]at h4;subst h4;dsimp only;rw [e9 (by decide)]
  |some t=>
   rw [hg]at h4;obtain⟨rfl,rfl⟩:=h4;rw [c3Z]at h2⊢;dsimp only;rw [i6 (by decide),c1q t (by omega),j3];cases hd:decF t with
   |none=>
    dsimp only;rw [e9 (by decide)]
   |some r=>
    obtain⟨hr,he⟩:=a5F hd;dsimp only;rw [i6 (by decide),b9o out r (by omega) hdep (Z7 hr),j3];by_cases hn:N8 out r
    · rw [i6 (by simp [hn]),A6 (by simp;omega),e9 hn,W_s (by omega)]
    · rw [e9 (by simp [hn]),i6 hn]
theorem a4S (b:l7) (h:(b.Thread.length+b.Loose.length)*48≤140737488355328):B3 b=some (⟨ofF (a9a (b.Thread++b.Loose)), []⟩,a9a (b.Thread++b.Loose)):=by
 unfold B3 a2Y;rw [j3,c3h b h,j3];generalize b.Thread++b.Loose=l;obtain⟨A,B,h1,hM⟩:=c4k l;dsimp only;rw [h1,j3];dsimp only
 have key:∀(n:Nat) (out:List b9) (N:Nat),Written out→61-out.length≤n→n<N→P2 (K5 A B) N (out,(out.length:Int))=some (a5y l n out,((a5y l n out).length:Int)):=by
  intro n
  induction n with
  |zero=>
   intro out N hw hn hN;have:=hw.len;omega
  |succ n ih=>
   intro out N hw hn hN;cases N with
   |zero=>omega
   |succ N=>
    simp only [P2,b7B hM out hw,a5y];cases ht:b2f l (out.length:Int)with
    |none=>rfl
    |some t=>
     dsimp only;cases hd:decF t with
     |none=>rfl
     |some r=>
      dsimp only;by_cases hnx:N8 out r
      · rw [e9 hnx,e9 hnx];have:=ih (out++ [r]) N (hw.snoc (a5F hd).1 hnx) (by simp;omega) (by omega);simp only [N0,List.length_singleton]at this;exact this
      · rw [i6 hnx,i6 hnx]
 have hk:w6 (K5 A B) ([],0)=_:=key 61 [] a1K Written.nil (by simp) (by unfold a1K;omega);rw [hk,j3];dsimp only;have hw:=b2z l;rw [show a5y l 61 []=a9a l from rfl,c1Q _ (fun r hr=>hw.rec hr) (by have:=hw.len;omega)];rfl
def a1o (picks:List Int) (i:Nat):Int:=if picks.length=0 then 0 else picks.getD (i % picks.length) 0
def b9w (l:List Int):Prop:=∀x∈l,-9223372036854775808≤x∧x≤9223372036854775807
theorem c2v {picks:List Int} (h:b9w picks) (i:Nat): -9223372036854775808≤a1o picks i∧a1o picks i≤9223372036854775807:=by
 unfold a1o;by_cases h0:picks.length=0
 · rw [e9 h0];omega
 · rw [i6 h0];have:i % picks.length<picks.length:=Nat.mod_lt _ (by omega);have:=h picks[i % picks.length] (a2C this);simpa [List.getD,M6 ‹_›]using this
theorem c4j {picks:List Int} (h0:picks.length≠0) (i:Nat):idx picks ((i:Int).tmod (picks.length:Int))=some (a1o picks i):=by
 have hlt:i % picks.length<picks.length:=Nat.mod_lt _ (by omega);have e:(i:Int).tmod (picks.length:Int)=((i % picks.length:Nat):Int):=by rw [Int.tmod_eq_emod_of_nonneg (by omega)];rfl
 rw [e,U8 hlt];unfold a1o;rw [i6 h0];simp [List.getD,M6 hlt]
theorem c8Y {x n:Int} (hx: -9223372036854775808≤x∧x≤9223372036854775807) (hn:1≤n∧n≤4611686018427387904):(W (x.tmod n+n)).tmod n=x % n:=by
 have h1:=Int.tmod_lt_of_pos x (show 0<n by omega)
 have h2: -n<x.tmod n:=by
  have:=Int.neg_lt_of_neg_lt (show-(x.tmod n)<n from by rw [←Int.neg_tmod];exact Int.tmod_lt_of_pos _ (by omega));exact this
 rw [a2z (by omega),Int.tmod_eq_emod_of_nonneg (by omega),Int.add_emod_right];have h3:x=n*x.tdiv n+x.tmod n:=(Int.mul_tdiv_add_tmod x n).symm
 conv=>rhs;rw [h3]
 rw [Int.mul_add_emod_self_left]
theorem b5v (picks:List Int) (hp:b9w picks) (i:Nat) (n:Int) (hn:1≤n∧n≤4611686018427387904):Z3 picks (i:Int) n=some (a1o picks i % n):=by
 unfold Z3;by_cases h0:picks.length=0
 · rw [e9 (by simp [h0])];unfold a1o;rw [e9 h0];simp
 · rw [i6 (by simpa using h0),A6 (by omega),c4j h0,j3,A6 (by omega),A6 (by omega),c8Y (c2v hp i) hn]
def b3b (picks:List Int) (i:Nat) (out:List c8) (c:c8):List c8:=
 if a1o picks (2*i) % 4=0 then out
 else if a1o picks (2*i) % 4=3 then c::out
 else if a1o picks (2*i) % 4=1∧0<c.Text.size then out++ [⟨c.No,c.Part,c.Parts,c.Size,c.Text.extract 0 (a1o picks (2*i+1) % c.Text.size).toNat⟩]
 else out++ [c]
def a4r (picks:List Int):Nat→List c8→List c8→List c8
 |_,out, []=>out
 |i,out,c::l=>a4r picks (i+1) (b3b picks i out c) l
theorem c0G (picks:List Int) (i:Nat) (out:List c8) (c:c8):(b3b picks i out c).length≤out.length+1:=by
 unfold b3b;split
 · omega
 · split
   · simp
   · split<;>simp
theorem b3E (picks:List Int):∀(l:List c8) (i:Nat) (out:List c8),(a4r picks i out l).length≤out.length+l.length
 | [],_,_=>by simp [a4r]
 |c::l,i,out=>by
  have h1:=b3E picks l (i+1) (b3b picks i out c);have h2:=c0G picks i out c;simp only [a4r,P0];omega
theorem b0u (picks:List Int):∀(l:List c8) (i:Nat) (out:List c8) (c:c8),a4r picks i out (l++ [c])=b3b picks (i+l.length) (a4r picks i out l) c
 | [],i,out,c=>by simp [a4r]
 |x::l,i,out,c=>by
  simp only [S0,a4r,b0u picks l (i+1),P0];rw [show i+1+l.length=i+(l.length+1) by omega]
def c7C (b:l7) (picks:List Int):l7:=⟨b.Thread,a4r picks 0 [] b.Loose⟩
structure c5p (b:l7):Prop where
 t:b.Thread.length*48≤140737488355328
 l:(b.Loose.length+1)*48≤140737488355328
 s:∀c∈b.Loose,c.Text.size≤281474976710656
theorem c8M (x:Int):0≤x % 4∧x % 4<4:=by omega
theorem a5d (b:l7) (picks:List Int) (h:c5p b) (hp:b9w picks) (hpl:picks.length≤9223372036854775800):B4 b picks=some (c7C b picks):=by
 unfold B4 m9;have ht:=h.t;have hl:=h.l;rw [A6 (by omega),j3]
 have key:=a0Q (body:=J8 b picks) (fun k=>((k:Int),([]:List c8),([]:List c8),([]:List c8),a4r picks 0 [] (b.Loose.take k))) b.Loose.length (by omega) ((b.Loose.length:Int), [], [], [],a4r picks 0 [] b.Loose) (fun k hk=>by
  have hlen:=b3E picks (b.Loose.take k) 0 [];simp only [a0a,a1G,R6]at hlen;have hsn:=b0u picks (b.Loose.take k) 0 [] b.Loose[k];rw [←a4A hk]at hsn;simp only [a1G,a1j (a2P hk),R6]at hsn;have htx:=h.s b.Loose[k] (a2C hk);unfold J8;dsimp only;rw [hsn];generalize hO:a4r picks 0 [] (b.Loose.take k)=out at hlen⊢;have e2:W (2*(k:Int))=((2*k:Nat):Int):=by rw [a2z (by omega)];omega
  rw [e9 (by simp only [D0];omega),U8 hk,j3,e2,b5v picks hp _ 4 (by omega),j3,W_s (by omega)];have hm:=c8M (a1o picks (2*k));unfold b3b;by_cases h0:a1o picks (2*k) % 4=0
  · rw [e9 (by simp [h0]),e9 h0]
  · rw [i6 (by simpa using h0),i6 h0]
    by_cases h3:a1o picks (2*k) % 4=3
    · rw [e9 (by simp [h3]),e9 h3];unfold D3;rw [A6 (by simp),i6 (by simp)];by_cases hz:out.length=0
      · have:out= []:=a2r hz;subst this;rw [e9 (by simp),A6 (by simp)];rfl
      · rw [i6 (by simp only [P6];omega),A6 (by simp;omega)];rfl
    · rw [i6 (by simpa using h3),i6 h3]
      by_cases h1:a1o picks (2*k) % 4=1
      · rw [e9 (by simp [h1])];by_cases hs:0<b.Loose[k].Text.size
        · rw [e9 (by simp only [D0];omega),e9 ⟨h1,hs⟩];have e3:W (((2*k:Nat):Int)+1)=((2*k+1:Nat):Int):=W_s (by omega);have hpos:0≤a1o picks (2*k+1) % (b.Loose[k].Text.size:Int):=Int.emod_nonneg _ (by omega);have hlt:a1o picks (2*k+1) % (b.Loose[k].Text.size:Int)<(b.Loose[k].Text.size:Int):=Int.emod_lt_of_pos _ (by omega);rw [e3,b5v picks hp _ _ (by omega),j3,A6 (by omega)];unfold a1v G6;rw [A6 (by rw [ByteArray.size_extract];omega),j3,j3,A6 (by simp;omega)]
        · rw [i6 (by simp only [D0];omega),i6 (by rintro⟨_,h⟩;exact hs h),A6 (by simp;omega)]
      · rw [i6 (by simpa using h1),i6 (by rintro⟨h,_⟩;exact h1 h),A6 (by simp;omega)]) (by
  unfold J8;dsimp only;rw [i6 (by simp),a6n])
 rw [a9J]at key;have key2:w6 (J8 b picks) (0, [], [], [], [])=_:=key;rw [key2];rfl
def Bef (a b:o6):Prop:=a.Depot<b.Depot∨(a.Depot=b.Depot∧a.No<b.No)
instance (a b : o6) : Decidable (Bef a b) := by unfold Bef; infer_instance
theorem Bef.trans {a b c:o6} (h:Bef a b) (k:Bef b c):Bef a c:=by unfold Bef at*;omega
theorem Bef.irr (a:o6):¬Bef a a:=by unfold Bef;omega
theorem Bef.tri (a b:o6):Bef a b∨a=b∨Bef b a:=by
 obtain⟨a1,a2⟩:=a;obtain⟨b1,b2⟩:=b;unfold Bef;simp only [o6.mk.injEq];omega
def a3Y (l:List b9):Prop:=l.Pairwise fun a b=>Bef a.At b.At
def a4I (l:List b9):Prop:=l.Pairwise fun a b=>a.At≠b.At
theorem a3Y.once {l:List b9} (h:a3Y l):a4I l:=by
 unfold a3Y at h;unfold a4I;exact h.imp fun {a b} (h:Bef a.At b.At) (e:a.At=b.At)=>Bef.irr b.At (e▸h)
theorem b3c:∀ {l m:List b9},a3Y l→a3Y m→(∀r,r∈l↔r∈m)→l=m
 | [], [],_,_,_=>rfl
 | [],y::m,_,_,h=>by have:=(h y).2 F5;cases this
 |x::l, [],_,_,h=>by have:=(h x).1 F5;cases this
 |x::l,y::m,hl,hm,h=>by
  unfold a3Y at hl hm;simp only [b3l]at hl hm
  have e:x=y:=by
   rcases o5.1 ((h x).1 F5)with e|h1
   · exact e
   · rcases o5.1 ((h y).2 F5)with e|h2
     · exact e.symm
     · exact absurd ((hm.1 x h1).trans (hl.1 y h2)) (Bef.irr _)
  subst e;congr 1;refine b3c hl.2 hm.2 fun r=> ?_
  constructor
  · intro hr;rcases o5.1 ((h r).1 (A9 _ hr))with e|h1
    · subst e;exact absurd (hl.1 r hr) (Bef.irr _)
    · exact h1
  · intro hr;rcases o5.1 ((h r).2 (A9 _ hr))with e|h1
    · subst e;exact absurd (hm.1 r hr) (Bef.irr _)
    · exact h1
def a3n (p:List b9) (r:b9):Prop:=w8 r∧(∀y,p.getLast?=some y→Bef y.At r.At)∧((cnt p r.At.Depot:Nat):Int)=r.At.No
def L1 (l:List b9):Prop:=∀(i:Nat) (r:b9),l[i]?=some r→a3n (l.take i) r
def a6W (l:List b9):Prop:=l.length≤60∧L1 l
theorem L1.nil:L1 []:=fun i r h=>by simp at h
theorem a6E {l:List b9} {r:b9}:L1 (l++ [r])↔L1 l∧a3n l r:=by
 constructor
 · intro h;refine⟨fun i x hx=> ?_, ?_⟩
   · obtain⟨hi,rfl⟩:=I5.1 hx;have:=h i l[i] (by rw [a8Y hi,hx]);rwa [b3P (a2P hi)]at this
   · have:=h l.length r (by simp);simpa using this
 · intro⟨h,hr⟩ i x hx;rcases Nat.lt_trichotomy i l.length with h1|h1|h1
   · rw [a8Y h1]at hx;have:=h i x hx;rwa [b3P (a2P h1)]
   · subst h1;simp at hx;subst hx;simpa using hr
   · rw [a7s (by simp;omega)]at hx;cases hx
theorem L1.facts:∀(n:Nat) {l:List b9},l.length=n→L1 l→(∀r∈l,w8 r)∧a3Y l∧∀x,l.getLast?=some x→(∀r∈l,r=x∨Bef r.At x.At)∧((cnt l x.At.Depot:Nat):Int)=x.At.No+1∧∀d,x.At.Depot<d→cnt l d=0
 |0,l,hn,_=>by
  obtain rfl:=List.length_eq_zero_iff.1 hn;exact⟨by simp,List.Pairwise.nil,by simp⟩
 |n+1,l,hn,h=>by
  rcases List.eq_nil_or_concat l with rfl|⟨L,b,rfl⟩
  · simp at hn
  · rw [List.concat_eq_append]at h hn⊢;obtain⟨h1,h2⟩:=a6E.1 h;obtain⟨f1,f2,f3⟩:=L1.facts n (by simpa using hn) h1
    obtain⟨b1,b2,b3⟩:=h2
    have hb:∀r∈L,Bef r.At b.At:=fun r hr=>by
     cases hg:L.getLast? with
     |none=>rw [List.getLast?_eq_none_iff]at hg;subst hg;cases hr
     |some y=>
      rcases(f3 y hg).1 r hr with e|e
      · rw [e];exact b2 y hg
      · exact e.trans (b2 y hg)
    refine⟨fun r hr=> ?_, ?_,fun x hx=> ?_⟩
    · rcases B2.1 hr with hr|hr
      · exact f1 r hr
      · obtain rfl:=a1n.1 hr;exact b1
    · unfold a3Y at f2⊢;rw [List.pairwise_append];exact⟨f2,List.pairwise_singleton _ _,fun a ha c hc=>by obtain rfl:=a1n.1 hc;exact hb a ha⟩
    · rw [List.getLast?_concat]at hx;cases hx;refine⟨fun r hr=> ?_, ?_,fun d hd=> ?_⟩
      · rcases B2.1 hr with hr|hr
        · exact .inr (hb r hr)
        · exact .inl (a1n.1 hr)
      · rw [a2k,e9 rfl];omega
      · rw [a2k,i6 (by omega)];cases hg:L.getLast? with
        |none=>rw [List.getLast?_eq_none_iff]at hg;subst hg;rfl
        |some y=>
         have:=b2 y hg;have:=(f3 y hg).2.2 d (by unfold Bef at this;omega);omega
theorem L1.rec {l:List b9} (h:L1 l) {r:b9} (hr:r∈l):w8 r:=(L1.facts _ rfl h).1 r hr
theorem L1.rise {l:List b9} (h:L1 l):a3Y l:=(L1.facts _ rfl h).2.1
theorem L1.dep {l:List b9} (h:L1 l) {r:b9} (hr:r∈l):Y0 r.At.Depot:=Z7 (h.rec hr)
open Classical in theorem book_loop {S E : Type} {body : S → Option (Sum S E)} (l : List b9) (hl : l.length ≤ 9223372036854775800) (enc : Nat → S) (yes no : E)
    (h : ∀ (i : Nat) (hi : i < l.length), L1 (l.take i) → body (enc i) = some (if a3n (l.take i) l[i] then .inl (enc (i + 1)) else .inr no))
    (he : body (enc l.length) = some (.inr yes)) : w6 body (enc 0) = some (if L1 l then yes else no) := by
  have key := a1T (body := body) l (by omega) (fun k (_ : List b9) => enc k) (fun p x => if a3n p x then .inl (p ++ [x]) else .inr ()) (fun _ : Unit => no) (fun _ => yes) (fun pre s => s = pre ∧ L1 pre)
    (fun pre x post s hp ⟨hs, hb⟩ => by
      subst hs;have hlt : s.length < l.length := by rw [hp]; simp
      have e1 : l.take s.length = s := by rw [hp]; simp
      have e2 : l[s.length] = x := by simp only [hp]; simp
      have := h s.length hlt (by rw [e1]; exact hb);rw [e1, e2] at this;by_cases hk : a3n s x
      · rw [e9 hk] at this ⊢;exact ⟨this, fun s' hs' => by cases hs'; exact ⟨rfl, a6E.2 ⟨hb, hk⟩⟩⟩
      · rw [i6 hk] at this ⊢;exact ⟨this, fun s' hs' => by cases hs'⟩) (fun s _ => he) [] ⟨rfl, L1.nil⟩
  rw [key]
  have run : ∀ (post pre : List b9), L1 pre → a0E (R := Unit) (fun p x => if a3n p x then .inl (p ++ [x]) else .inr ()) post pre = if L1 (pre ++ post) then .inl (pre ++ post) else .inr () := by
    intro post
    induction post with
    | nil => intro pre hp; simp [a0E, hp]
    | cons x post ih =>
      intro pre hp;unfold a0E;by_cases hk : a3n pre x
      · rw [e9 hk];dsimp only;rw [ih _ (a6E.2 ⟨hp, hk⟩)];simp
      · rw [i6 hk]
        have : ¬ L1 (pre ++ x :: post) := fun hb => hk (by
          have := hb pre.length x (by simp);simpa using this)
        rw [i6 this]
  rw [run l [] L1.nil, Y7];by_cases hb : L1 l <;> simp [hb]
def a1I (p:List b9):Int×Int:=match p.getLast? with|none=>(-1,0)|some y=>(y.At.Depot,y.At.No)
theorem b7V (p:List b9) (r:b9):a1I (p++ [r])=(r.At.Depot,r.At.No):=by unfold a1I;rw [List.getLast?_concat]
theorem c0s {p:List b9} {r:b9} (h:L1 p) (hr:w8 r):a3n p r↔(r.At.Depot=(a1I p).1∧r.At.No=(a1I p).2+1)∨((a1I p).1<r.At.Depot∧r.At.No=0):=by
 have hd:=Z7 hr;unfold Y0 at hd;obtain⟨f1,f2,f3⟩:=L1.facts _ rfl h;unfold a3n a1I;cases hg:p.getLast? with
 |none=>
  rw [List.getLast?_eq_none_iff]at hg;subst hg;simp only [b9p,reduceCtorEq,false_implies,implies_true,P1,hr];omega
 |some y=>
  obtain⟨_,g2,g3⟩:=f3 y hg;simp only [M9,forall_eq',hr,P1];unfold Bef;rcases Int.lt_trichotomy r.At.Depot y.At.Depot with h1|h1|h1
  · omega
  · rw [h1];omega
  · have:=g3 _ h1;omega
open Classical in theorem isBook_eq (b : D1) (hl : b.Records.length ≤ 9223372036854775800) (hs : ∀ r ∈ b.Records, r.Text.size ≤ 9223372036854775807) : N6 b = some (decide (a6W b.Records)) := by
  obtain ⟨l⟩ := b;dsimp only at hl hs;unfold N6
  have key := book_loop (body := A2 ⟨l⟩) l hl (fun k => ((k : Int), (a1I (l.take k)).1, (a1I (l.take k)).2)) (.inl ((l.length : Int), (a1I l).1, (a1I l).2)) (.inr false)
    (fun i hi hb => by
      unfold A2;dsimp only;rw [e9 (by simp only [D0]; omega), U8 hi, j3, a4A hi, b7V, O3 _ (hs _ (a2C hi)), W_s (by omega)];by_cases hok : w8 l[i]
      · have hn : 0 ≤ l[i].At.No ∧ l[i].At.No ≤ 9999 := hok.1.2
        have hn2 : (a1I (l.take i)).2 + 1 ≤ 9223372036854775807 ∧ -9223372036854775808 ≤ (a1I (l.take i)).2 + 1 := by
          unfold a1I;cases hg : (l.take i).getLast? with
          | none => decide
          | some y =>
            have : 0 ≤ y.At.No ∧ y.At.No ≤ 9999 := (hb.rec (List.mem_of_getLast? hg)).1.2;dsimp only;omega
        rw [a2z (z := (a1I (l.take i)).2 + 1) ⟨hn2.2, hn2.1⟩];simp only [hok, X8, a2n, j3, M5, G4, P6, D0, a4p, beq_eq_false_iff_ne, ne_eq];have hq := c0s hb hok;by_cases hS : a3n (l.take i) l[i]
        · rw [e9 hS];rcases hq.1 hS with ⟨a1, a2⟩ | ⟨a1, a2⟩
          · rw [e9 a1, e9 a2]; rfl
          · rw [i6 (by omega), e9 a1, i6 (by decide), i6 (fun hh => hh a2)]
        · rw [i6 hS];have hq2 := fun hh => hS (hq.2 hh)
          by_cases a1 : l[i].At.Depot = (a1I (l.take i)).1
          · rw [e9 a1, i6 (fun a2 => hq2 (.inl ⟨a1, a2⟩)), i6 (by omega)];split <;> rfl
          · rw [i6 a1];by_cases a3 : l[i].At.Depot > (a1I (l.take i)).1
            · rw [e9 a3, i6 (by decide), e9 (fun a2 => hq2 (.inr ⟨a3, a2⟩))]
            · rw [i6 a3];split <;> rfl
      · have hS : ¬ a3n (l.take i) l[i] := fun hS => hok hS.1
        simp only [hok, a0w, a5C, j3, C6, hS, G4];split
        · split
          · rfl
          · split <;> rfl
        · split <;> rfl)
    (by unfold A2; dsimp only; rw [i6 (by simp), a6n])
  have e0 : w6 (A2 ⟨l⟩) (0, -1, 0) = _ := key;rw [e0, j3];unfold a6W;by_cases hb : L1 l
  · rw [e9 hb];dsimp only;simp only [hb, and_true];congr 1;by_cases h60 : l.length ≤ 60
    · simp only [h60, X8, D0]; omega
    · simp only [h60, a0w, decide_eq_false_iff_not]; omega
  · rw [i6 hb];simp [hb]
theorem b6n (a b:o6):a1m a b=some (decide (Bef a b)):=by
 unfold a1m Bef;by_cases h1:a.Depot<b.Depot
 · simp [h1]
 · by_cases h2:a.Depot=b.Depot
   · simp [h2]
   · simp [h1,h2]
open Classical in theorem Check_eq (b : D1) (hs : ∀ r ∈ b.Records, r.Text.size ≤ 9223372036854775807) : a2M b = some (if a6W b.Records then 0 else 81) := by
  obtain ⟨l⟩ := b;dsimp only at hs;unfold a2M a6W;by_cases h60 : l.length ≤ 60
  · rw [i6 (by simp only [D0]; omega)]
    have key := book_loop (body := N4 ⟨l⟩) l (by omega) (fun k => (k : Int)) (.inl (l.length : Int)) (.inr 81)
      (fun i hi hb => by
        unfold N4;dsimp only;have hdep : ∀ r ∈ l.take i, Y0 r.At.Depot := fun r hr => hb.dep hr
        have hi60 : i ≤ 60 := by omega
        have es : sub l 0 ((i : Int)).toNat = l.take i := by unfold sub; simp
        rw [e9 (by simp only [D0]; omega), U8 hi, j3, a1X _ (hs _ (a2C hi)), j3, A6 (by omega)];simp only [j3, es];rw [b5f _ (by simp; omega) hdep];simp only [j3];rw [W_s (by omega)];by_cases hok : w8 l[i]
        · rw [i6 (by simp [hok])];have hc := a5O (l.take i) (Z7 hok);rw [b8H] at hc;simp only [hc, j3]
          have hcd : (if (((cnt (l.take i) l[i].At.Depot : Nat) : Int) != l[i].At.No) = true then some (Sum.inr (Sum.inr (81 : Int))) else some (Sum.inl ((i + 1 : Nat) : Int)) : Option (Sum Int (Sum Int Int))) = if ((cnt (l.take i) l[i].At.Depot : Nat) : Int) = l[i].At.No then some (.inl ((i + 1 : Nat) : Int)) else some (.inr (.inr 81)) := by
            by_cases hh : ((cnt (l.take i) l[i].At.Depot : Nat) : Int) = l[i].At.No <;> simp [hh]
          rw [hcd];by_cases h0 : i = 0
          · subst h0;rw [i6 (by simp)];unfold a3n;by_cases hh : ((cnt (l.take 0) l[0].At.Depot : Nat) : Int) = l[0].At.No
            · rw [e9 hh, e9 ⟨hok, by simp, hh⟩]
            · rw [i6 hh, i6 (fun hx => hh hx.2.2)]
          · rw [e9 (by simp only [D0]; omega), a2z (by omega)];have hj : i - 1 < l.length := by omega
            have ej : ((i : Int) - 1) = ((i - 1 : Nat) : Int) := by omega
            have hg : (l.take i).getLast? = some l[i - 1] := by
              rw [List.getLast?_eq_getElem?, a1G, a1j (by omega), a2v, e9 (by omega), M6 hj]
            rw [ej, U8 hj, j3, b6n, j3];unfold a3n;rw [hg];by_cases hbf : Bef l[i - 1].At l[i].At
            · rw [i6 (by simp [hbf])];by_cases hh : ((cnt (l.take i) l[i].At.Depot : Nat) : Int) = l[i].At.No
              · rw [e9 hh, e9 ⟨hok, by intro y hy; cases hy; exact hbf, hh⟩]
              · rw [i6 hh, i6 (fun hx => hh hx.2.2)]
            · rw [e9 (by simp [hbf]), i6 (fun hx => hbf (hx.2.1 _ rfl))]
        · rw [e9 (by simp [hok]), i6 (fun hx => hok hx.1)])
      (by unfold N4; dsimp only; rw [i6 (by simp)])
    have e0 : w6 (N4 ⟨l⟩) 0 = _ := key;rw [e0, j3];by_cases hb : L1 l
    · rw [e9 hb]; simp [hb, h60]
    · rw [i6 hb]; simp [hb]
  · rw [e9 (by simp only [D0]; omega), i6 (fun hx => h60 hx.1)]
theorem ltR (a b:b9):Go.Proofs.ltOf a8a a b=true↔Bef a.At b.At:=by
 unfold Go.Proofs.ltOf Bef;rw [decide_eq_true_iff];unfold a8a
 have hc:∀x y:Int,(a4E x y= -1∧x<y)∨(a4E x y=1∧y<x)∨(a4E x y=0∧x=y):=fun x y=>by
  unfold a4E;by_cases h1:x<y
  · exact .inl ⟨by rw [e9 h1],h1⟩
  · by_cases h2:x>y
    · exact .inr (.inl ⟨by rw [i6 h1,e9 h2],h2⟩)
    · exact .inr (.inr ⟨by rw [i6 h1,i6 h2],by omega⟩)
 rcases hc a.At.Depot b.At.Depot with⟨e1,g1⟩|⟨e1,g1⟩|⟨e1,g1⟩<;>rcases hc a.At.No b.At.No with⟨e2,g2⟩|⟨e2,g2⟩|⟨e2,g2⟩<;>rw [e1,e2]<;>simp [orI]<;>omega
theorem a3Z (l:List b9):(B0 l).Perm l:=by
 obtain⟨⟨h1,_,h3⟩,_⟩:=a4V l;have e1:(a2y l).extract 0 l.toArray.size=a2y l:=by rw [←h1];simp
 have e2:l.toArray.extract 0 l.toArray.size=l.toArray:=by simp
 rw [e1,e2]at h3;simpa [B0]using h3
theorem a4I.perm {l m:List b9} (h:a4I l) (p:l.Perm m):a4I m:=by
 unfold a4I at*;exact(p.pairwise_iff (fun {a b} (h:a.At≠b.At)=>h.symm)).1 h
theorem b0S {l:List b9} (h:a4I l):a3Y (B0 l):=by
 have ho:a4I (B0 l):=h.perm (a3Z l).symm;obtain⟨⟨h1,_,_⟩,h2⟩:=a4V l;unfold a4I at ho;unfold a3Y;rw [b2m]at ho⊢;intro i j hi hj hij;have hne:=ho i j hi hj hij;have hs:(B0 l).length=(a2y l).size:=by simp [B0]
 have hlt:=h2 i j (J4 _) hij (by rw [←h1];omega);have e1:(a2y l)[j]! =(B0 l)[j]:=by simp only [B0];rw [getElem!_pos (a2y l) j (by omega)];simp
 have e2:(a2y l)[i]! =(B0 l)[i]:=by simp only [B0];rw [getElem!_pos (a2y l) i (by omega)];simp
 rw [e1,e2]at hlt;have hn:¬Bef (B0 l)[j].At (B0 l)[i].At:=fun hb=>by rw [(ltR _ _).2 hb]at hlt;cases hlt
 rcases Bef.tri (B0 l)[i].At (B0 l)[j].At with g|g|g
 · exact g
 · exact absurd g hne
 · exact absurd g hn
theorem b1L {l m:List b9} (h:a3Y m) (p:m.Perm l):B0 l=m:=by
 refine b3c (b0S (h.once.perm p)) h fun r=> ?_
 rw [(a3Z l).mem_iff,p.mem_iff]
theorem b8f {l:List b9} (h:a3Y l):B0 l=l:=b1L h (List.Perm.refl _)
def b2F:List b9→b9→List b9
 | [],r=> [r]
 |x::l,r=>if Bef x.At r.At then x::b2F l r else r::x::l
theorem a5I:∀(l:List b9) (r:b9),(b2F l r).Perm (r::l)
 | [],r=>List.Perm.refl _
 |x::l,r=>by
  unfold b2F;split
  · exact((a5I l r).cons x).trans (List.Perm.swap r x l)
  · exact List.Perm.refl _
theorem c1L (l:List b9) (r:b9):(b2F l r).length=l.length+1:=by simpa using (a5I l r).length_eq
theorem b3Y:∀ {l:List b9} {r:b9},a3Y l→(∀x∈l,x.At≠r.At)→a3Y (b2F l r)
 | [],r,_,_=>List.pairwise_singleton _ _
 |x::l,r,h,hn=>by
  unfold a3Y at h;obtain⟨h1,h2⟩:=b3l.1 h;unfold b2F;split
  · rename_i hb;refine b3l.2 ⟨fun y hy=> ?_,b3Y h2 fun y hy=>hn y (A9 _ hy)⟩;rcases o5.1 ((a5I l r).mem_iff.1 hy)with e|hy
    · rw [e];exact hb
    · exact h1 y hy
  · rename_i hb
    have hx:Bef r.At x.At:=by
     rcases Bef.tri r.At x.At with g|g|g
     · exact g
     · exact absurd g.symm (hn x F5)
     · exact absurd g hb
    refine b3l.2 ⟨fun y hy=> ?_,h⟩;rcases o5.1 hy with e|hy
    · rw [e];exact hx
    · exact hx.trans (h1 y hy)
theorem c0L {l:List b9} {r:b9} (h:a3Y l) (hn:∀x∈l,x.At≠r.At):B0 (l++ [r])=b2F l r:=
 b1L (b3Y h hn) ((a5I l r).trans (List.perm_append_comm (l₁:= [r]) (l₂:=l)))
def a6g (l:List b9) (r:b9):Nat:=(l.takeWhile fun x=>decide (Bef x.At r.At)).length
theorem c4T (l:List b9) (r:b9):a6g l r≤l.length:=(List.takeWhile_sublist _).length_le
theorem b1Y:∀(l:List b9) (r:b9),b2F l r=l.take (a6g l r)++ [r]++l.drop (a6g l r)
 | [],r=>rfl
 |x::l,r=>by
  unfold b2F a6g;by_cases hb:Bef x.At r.At
  · rw [e9 hb,List.takeWhile_cons_of_pos (by simpa using hb),b1Y l r]
    simp [a6g]
  · rw [i6 hb,List.takeWhile_cons_of_neg (by simpa using hb)]
    simp
theorem b9r (r:b9):∀(l:List b9) (s:Nat),(match a0E (fun(s:Nat) (x:b9)=>if Bef x.At r.At then .inl (s+1)else(.inr s:Sum Nat Nat)) l s with| .inl s'=>(s':Int)| .inr s'=>(s':Int))=((s+a6g l r:Nat):Int)
 | [],s=>by simp [a0E,a6g]
 |x::l,s=>by
  unfold a0E a6g;by_cases hb:Bef x.At r.At
  · rw [e9 hb,List.takeWhile_cons_of_pos (by simpa using hb)]
    dsimp only;rw [b9r r l (s+1),P0];unfold a6g;congr 1;omega
  · rw [i6 hb,List.takeWhile_cons_of_neg (by simpa using hb)]
    simp
theorem c3L (l:List b9) (r:b9) (hl:l.length≤1000000):a5L l r=some (b2F l r):=by
 unfold a5L
 have key:=a1T (body:=O7 l r) l (by omega) (fun k (_:Nat)=>(k:Int)) (fun(s:Nat) (x:b9)=>if Bef x.At r.At then .inl (s+1)else(.inr s:Sum Nat Nat)) (fun s=>(s:Int)) (fun s=>(s:Int)) (fun pre s=>s=pre.length)
  (fun pre x post s hp hs=>by
   subst hp hs;unfold O7;rw [e9 (by simp only [D0];exact b0t),a5N,j3,b6n,j3,W_s (by simp at hl;omega)];by_cases hb:Bef x.At r.At
   · rw [e9 (by simp [hb]),e9 hb];exact⟨rfl,fun s' hs'=>by cases hs';simp⟩
   · rw [i6 (by simp [hb]),i6 hb];exact⟨rfl,fun s' hs'=>by cases hs'⟩)
  (fun s hs=>by subst hs;unfold O7;rw [i6 (by simp)]) 0 rfl
 have key2:w6 (O7 l r) 0=_:=key
 have key3:w6 (O7 l r) 0=some ((a6g l r:Nat):Int):=by
  rw [key2];have:=b9r r l 0;rw [R6]at this;generalize a0E (fun(s:Nat) (x:b9)=>if Bef x.At r.At then .inl (s+1)else(.inr s:Sum Nat Nat)) l 0=q at this⊢
  cases q<;>exact l8 some this
 rw [key3,j3];have hp:=c4T l r;rw [A6 (by omega),j3,A6 (by omega),j3,b1Y];have e1:sub l 0 ((a6g l r:Nat):Int).toNat=l.take (a6g l r):=by unfold sub;simp
 have e2:sub l ((a6g l r:Nat):Int).toNat l.length=l.drop (a6g l r):=by unfold sub;rw [a7g,b1a (by simp)]
 rw [e1,e2];have l1:(l.take (a6g l r)).length≤1000000:=by simp;omega
 have l2:(l.drop (a6g l r)).length≤1000000:=by simp;omega
 rw [A6 (by simp only [a0a];omega),A6 (by simp only [Y7,P0,a0a];omega),A6 (by simp only [Y7,N0,P0,a0a];omega),Y7]
theorem Written.once {l:List b9} (h:Written l):a4I l:=by
 unfold a4I;rw [b2m];intro i j hi hj hij he;have a:=(h i _ (M6 hi)).2.2;have b:=(h j _ (M6 hj)).2.2;have hd:l[i].At.Depot=l[j].At.Depot:=by rw [he]
 have hn:l[i].At.No=l[j].At.No:=by rw [he]
 have e:cnt (l.take (i+1)) l[i].At.Depot=cnt (l.take i) l[i].At.Depot+1:=by
  rw [a4A hi,a2k,e9 rfl]
 have m:cnt (l.take (i+1)) l[i].At.Depot≤cnt (l.take j) l[i].At.Depot:=by
  have:l.take (i+1)=(l.take j).take (i+1):=by rw [List.take_take,a1j (by omega)]
  rw [this];exact(List.take_sublist _ _).countP_le
 rw [←hd,←hn]at b;omega
theorem b8D (x y:Int):K9 x y=some (if x<y then-1 else if x>y then 1 else 0):=by
 unfold K9 V9;simp only [bne_self_eq_false,j3,M5,G4,D0];by_cases h:x<y
 · simp [h]
 · by_cases h2:x>y<;>simp [h,h2]
theorem c7m (a b:Int):a1R [a,b]=some (if a≠0 then a else b):=by
 unfold a1R
 have key:=a1T (body:=P5 [a,b]) [a,b] (by simp) (fun k (_:Unit)=>(k:Int)) (fun _ (x:Int)=>if x≠0 then(.inr x:Sum Unit Int)else .inl ()) (fun x=> .inr x) (fun _=> .inl 2) (fun _ _=>True)
  (fun pre x post s hp _=>by
   have hlen:pre.length≤1:=by
    have:=l8 List.length hp;simp at this;omega
   rw [hp];unfold P5;rw [e9 (by simp only [D0];exact b0t),a5N,j3,W_s (by omega)];by_cases h:x=0
   · simp [h]
   · simp [h])
  (fun s _=>rfl) () trivial
 have key2:w6 (P5 [a,b]) 0=_:=key;rw [key2];by_cases ha:a=0
 · by_cases hb:b=0
   · simp [a0E,ha,hb]
   · simp [a0E,ha,hb]
 · simp [a0E,ha]
theorem b5L (r:b9) (t:o6):S4 r t=some (if Bef r.At t then-1 else if r.At=t then 0 else 1):=by
 unfold S4 a1D;simp only [b8D,j3,c7m];obtain⟨⟨d,n⟩,_⟩:=r;obtain⟨e,m⟩:=t;unfold Bef;simp only [o6.mk.injEq,M9];rcases Int.lt_trichotomy d e with h1|h1|h1
 · simp [h1]
 · subst h1;rcases Int.lt_trichotomy n m with h2|h2|h2
   · simp [h2]
   · simp [h2]
   · have a:¬n<m:=by omega
     have b:¬n=m:=by omega
     simp [h2,a,b]
 · have a:¬d<e:=by omega
   have b:¬d=e:=by omega
   simp [h1,a,b]
theorem c5Y {z:Int} (h:0≤z∧z≤18446744073709551615):IntKind.u64.wrap z=z:=by
 simp only [IntKind.wrap,IntKind.signed,IntKind.bits];simp;omega
theorem c8J (i j:Nat) (h:i+j≤9223372036854775807):W ((IntKind.u64.wrap (W ((i:Int)+(j:Int)))).fdiv (2^(min (1:Int).toNat IntKind.u64.bits)))=(((i+j) / 2:Nat):Int):=by
 have e:(2:Int)^(min (1:Int).toNat IntKind.u64.bits)=2:=by decide
 rw [e,a2z (z:=(i:Int)+j) (by omega),c5Y (by omega),Int.fdiv_eq_ediv_of_nonneg _ (by omega)];have e2:((i:Int)+j) / 2=(((i+j) / 2:Nat):Int):=by simp
 rw [e2,a2z (by omega)]
theorem c5d (l:List b9) (hl:l.length≤4611686018427387903) (hs:a3Y l) (t:o6):∃i:Nat,U7 ⟨l⟩ t=some ((i:Int),decide (∃v,l[i]?=some v∧v.At=t))∧(∀v,v∈l→v.At=t→l[i]?=some v):=by
 unfold U7 m7;have hlt2:∀(i j:Nat) (hi:i<l.length) (hj:j<l.length),i<j→Bef l[i].At l[j].At:=fun i j hi hj hij=>b2m.1 hs i j hi hj hij
 have hmono:∀(i j:Nat) (hi:i<l.length) (hj:j<l.length),i≤j→Bef l[j].At t→Bef l[i].At t:=by
  intro i j hi hj hij hb;rcases Nat.lt_or_eq_of_le hij with h|h
  · exact(hlt2 i j hi hj h).trans hb
  · subst h;exact hb
 obtain⟨e,h1,i,h2,h3,h4,h5⟩:=a6d (body:=j6 l t) (fun st:Int×Int=>∃i j:Nat,st=((i:Int),(j:Int))∧i≤j∧j≤l.length∧(∀k (hk:k<l.length),k<i→Bef l[k].At t)∧(∀k (hk:k<l.length),j≤k→¬Bef l[k].At t))
  (fun st=>(st.2-st.1).toNat) (fun st=>∃i:Nat,st=((i:Int),(i:Int))∧i≤l.length∧(∀k (hk:k<l.length),k<i→Bef l[k].At t)∧(∀k (hk:k<l.length),i≤k→¬Bef l[k].At t)) (by
  rintro⟨_,_⟩ ⟨i,j,he,hij,hj,ha,hb⟩;cases he;unfold j6;by_cases hlt:i<j
  · right;have c:(i:Int)<(j:Int):=by omega
    have hm:(i+j) / 2<l.length:=by omega
    simp only [c,X8,C6,c8J i j (by omega),U8 hm,j3,b5L];by_cases hc:Bef l[(i+j) / 2].At t
    · refine⟨((((i+j) / 2+1:Nat):Int),(j:Int)), ?_,⟨(i+j) / 2+1,j,rfl,by omega,hj,fun k hk hki=> ?_,hb⟩,by simp only;omega⟩
      · simp only [hc,C6,show decide ((-1:Int)<0)=true from rfl];rw [a2z (z:=(((i+j) / 2:Nat):Int)+1) (by omega)];rfl
      · exact hmono k ((i+j) / 2) hk hm (by omega) hc
    · refine⟨((i:Int),(((i+j) / 2:Nat):Int)), ?_,⟨i,(i+j) / 2,rfl,by omega,by omega,ha,fun k hk hki=> ?_⟩,by simp only;omega⟩
      · have:decide ((if l[(i+j) / 2].At=t then(0:Int)else 1)<0)=false:=by split<;>rfl
        simp only [hc,G4,this,M5]
      · exact fun h=>hc (hmono ((i+j) / 2) k hm hk hki h)
  · left;have c:¬(i:Int)<(j:Int):=by omega
    obtain rfl:i=j:=by omega
    exact⟨_,by simp only [c,a0w,M5,G4],i,rfl,hj,ha,hb⟩) (0,(l.length:Int)) ⟨0,l.length,rfl,by omega,by omega,by omega,by omega⟩ (by unfold a1K;simp only;omega)
 subst h2;rw [h1];refine⟨i, ?_,fun v hv he=> ?_⟩
 · by_cases hi:i<l.length
   · have c:(i:Int)<(l.length:Int):=by omega
     have hge:=h5 i hi (u0 _);simp only [j3,c,X8,C6,U8 hi,b5L,hge,G4,M6 hi,M9,exists_eq_left'];by_cases he:l[i].At=t<;>simp [he]
   · have c:¬(i:Int)<(l.length:Int):=by omega
     simp only [j3,c,a0w,M5,G4];rw [a7s (by omega)];simp
 · obtain⟨k,hk,rfl⟩:=b3g hv;rcases Nat.lt_trichotomy k i with g|g|g
   · have:=h4 k hk g;rw [he]at this;exact absurd this (Bef.irr _)
   · subst g;exact M6 hk
   · have hi:i<l.length:=by omega
     have:=hlt2 i k hi hk g;rw [he]at this;exact absurd this (h5 i hi (u0 _))
def fnd (l:List b9) (t:o6):Option b9:=l.find? fun v=>decide (v.At=t)
theorem a3l {l:List b9} {t:o6} {v:b9} (h:fnd l t=some v):v∈l∧v.At=t:=
 ⟨List.mem_of_find?_eq_some h,by simpa using List.find?_some h⟩
theorem a4X {l:List b9} {t:o6} (h:fnd l t=none):∀v∈l,v.At≠t:=fun v hv=>by
 have:=List.find?_eq_none.1 h v hv;simpa using this
theorem c1F (l:List b9) (hl:l.length≤1000000) (hs:a3Y l) (t:o6):∃i:Int,U7 ⟨l⟩ t=some (i,(fnd l t).isSome)∧∀v,fnd l t=some v→idx l i=some v:=by
 obtain⟨i,h1,h2⟩:=c5d l (by omega) hs t;refine⟨(i:Int), ?_,fun v hv=> ?_⟩
 · rw [h1];congr 2;cases hf:fnd l t with
   |none=>
    have hn:=a4X hf;simp only [Option.isSome_none,decide_eq_false_iff_not];rintro⟨v,hv,he⟩;exact hn v (a7K hv) he
   |some v=>
    obtain⟨g1,g2⟩:=a3l hf;simp only [Option.isSome_some,D0];exact⟨v,h2 v g1 g2,g2⟩
 · obtain⟨g1,g2⟩:=a3l hv;have h3:=h2 v g1 g2;obtain⟨hi,he⟩:=I5.1 h3;rw [U8 hi,he]
theorem b5E (t:o6):∀(l:List b9) (s:Nat),(match a0E (fun(s:Nat) (x:b9)=>if x.At=t then(.inr s:Sum Nat Nat)else .inl (s+1)) l s with| .inl _=>fnd l t=none| .inr k=>∃v,fnd l t=some v∧s≤k∧l[k-s]?=some v)
 | [],s=>rfl
 |x::l,s=>by
  unfold a0E;by_cases h:x.At=t
  · rw [e9 h];exact⟨x,by simp [fnd,h],u0 _,by simp⟩
  · rw [i6 h];have ih:=b5E t l (s+1);have e:fnd (x::l) t=fnd l t:=by simp [fnd,h]
    rw [e];dsimp only;generalize a0E (fun(s:Nat) (x:b9)=>if x.At=t then(.inr s:Sum Nat Nat)else .inl (s+1)) l (s+1)=q at ih⊢
    cases q with
    |inl _=>exact ih
    |inr k=>
     obtain⟨v,a,b,c⟩:=ih;refine⟨v,a,by omega, ?_⟩;have:k-s=(k-(s+1))+1:=by omega
     rw [this,List.getElem?_cons_succ];exact c
theorem c0c (l:List b9) (hl:l.length≤1000000) (t:o6):∃z:Int,a4h l t=some z∧(fnd l t=none→z= -1)∧∀v,fnd l t=some v→0≤z∧idx l z=some v:=by
 unfold a4h
 have key:=a1T (body:=P8 l t) l (by omega) (fun k (_:Nat)=>(k:Int)) (fun(s:Nat) (x:b9)=>if x.At=t then(.inr s:Sum Nat Nat)else .inl (s+1)) (fun s=> .inr (s:Int)) (fun s=> .inl (s:Int)) (fun pre s=>s=pre.length)
  (fun pre x post s hp hs=>by
   subst hp hs;unfold P8;rw [e9 (by simp only [D0];exact b0t),a5N,j3,c3n,W_s (by simp at hl;omega)];by_cases hb:x.At=t
   · rw [e9 (by simp [hb]),e9 hb];exact⟨rfl,fun s' hs'=>by cases hs'⟩
   · rw [i6 (by simp [hb]),i6 hb];exact⟨rfl,fun s' hs'=>by cases hs';simp⟩)
  (fun s hs=>by subst hs;unfold P8;rw [i6 (by simp)]) 0 rfl
 have key2:w6 (P8 l t) 0=_:=key;rw [key2,j3];have hr:=b5E t l 0;generalize a0E (fun(s:Nat) (x:b9)=>if x.At=t then(.inr s:Sum Nat Nat)else .inl (s+1)) l 0=q at hr⊢
 cases q with
 |inl _=>exact⟨-1,rfl,fun _=>rfl,fun v hv=>by rw [hr]at hv;cases hv⟩
 |inr k=>
  obtain⟨v,a,_,c⟩:=hr;refine⟨(k:Int),rfl,(fun h=>by rw [a]at h;cases h),fun v' hv'=> ?_⟩;rw [a]at hv';cases hv';rw [a4O]at c;obtain⟨hi,he⟩:=I5.1 c;exact⟨by omega,by rw [U8 hi,he]⟩
def Q6 (l:List b9) (r:b9):Bool×Int:=
 match fnd l r.At with
 |some v=>if v=r then(false,0)else(false,82)
 |none=>if((cnt l r.At.Depot:Nat):Int)<r.At.No then(false,83)else if l.length=60 then(false,2)else(true,0)
theorem b4O (l:List b9) (r:b9) (hl:l.length≤1000000) (hd:∀r∈l,Y0 r.At.Depot) (hs:r.Text.size≤9223372036854775807):a1Z l r=some (if w8 r then Q6 l r else(false,80)):=by
 unfold a1Z Q6;rw [a1X _ hs,j3];by_cases hr:w8 r
 · obtain⟨z,h1,h2,h3⟩:=c0c l hl r.At;rw [i6 (by simp [hr]),e9 hr,h1,j3];cases hf:fnd l r.At with
   |some v=>
    obtain⟨g1,g2⟩:=h3 v hf;rw [e9 (by simpa using g1),g2,j3,b0e]
    dsimp only;by_cases hv:v=r
    · rw [e9 (by simp [hv]),e9 hv]
    · rw [i6 (by simp [hv]),i6 hv]
   |none=>
    have hz:=h2 hf;subst hz;have hc:=a5O l (Z7 hr);rw [b8H]at hc;rw [i6 (by decide),b5f l hl hd,j3,hc,j3];dsimp only;by_cases h4:((cnt l r.At.Depot:Nat):Int)<r.At.No
    · rw [e9 (by simpa using h4),e9 h4]
    · rw [i6 (by simpa using h4),i6 h4]
      by_cases h5:l.length=60
      · rw [e9 (by simp [h5]),e9 h5]
      · rw [i6 (by simp only [P6];omega),i6 h5]
 · rw [e9 (by simp [hr]),i6 hr]
theorem c2K (b:D1) (r:b9) (hb:b.Records.length≤9223372036854775800) (hs:∀r∈b.Records,r.Text.size≤9223372036854775807) (hr:r.Text.size≤9223372036854775807):
 ∃x,Q8 b r=some x∧a5D b r=some x∧x.1.Records.length≤61:=by
 obtain⟨l⟩:=b;dsimp only at hb hs;unfold Q8 a5D;rw [isBook_eq _ hb hs,Check_eq _ hs,O3 _ hr];simp only [j3];by_cases h:a6W l
 · have hl:=h.1;have hd:∀r∈l,Y0 r.At.Depot:=fun r hr=>h.2.dep hr
   rw [b4O l r (by omega) hd hr];simp only [h,X8,a2n,M5,C6,G4,bne_self_eq_false,j3];by_cases hk:w8 r
   · simp only [hk,X8,a2n,M5,C6,G4];obtain⟨i,h1,h2⟩:=c1F l (by omega) h.2.rise r.At;rw [h1,j3];dsimp only;cases hf:fnd l r.At with
     |some v=>
      rw [e9 (show(some v).isSome=true from rfl),h2 v hf,j3,b0e]
      skip
      by_cases hv:v=r
      · have ha:Q6 l r=(false,0):=by unfold Q6;rw [hf];exact e9 hv
        rw [e9 (by simp [hv]),ha];unfold E0;rw [A6 (by omega),j3,b8f h.2.rise];refine⟨_,rfl, ?_,by dsimp only;omega⟩;dsimp only;rw [i6 (by decide),e9 (show(!false)=true from rfl),A6 (by simp only [a0a];omega)];rfl
      · have ha:Q6 l r=(false,82):=by unfold Q6;rw [hf];exact i6 hv
        rw [i6 (by simp [hv]),ha];exact⟨_,rfl,rfl,by simp⟩
     |none=>
      have hn:=a4X hf;have hc:=a5O l (Z7 hk);rw [b8H]at hc;rw [i6 (by simp),b4L l (by omega) hd,j3,hc,j3]
      skip
      by_cases h4:((cnt l r.At.Depot:Nat):Int)<r.At.No
      · have ha:Q6 l r=(false,83):=by unfold Q6;rw [hf];exact e9 h4
        rw [e9 (by simpa using h4),ha]
        exact⟨_,rfl,rfl,by simp⟩
      · rw [i6 (by simpa using h4)]
        by_cases h5:l.length=60
        · have ha:Q6 l r=(false,2):=by unfold Q6;rw [hf];dsimp only;rw [i6 h4,e9 h5]
          rw [e9 (by simp [h5]),ha];exact⟨_,rfl,rfl,by simp⟩
        · have ha:Q6 l r=(true,0):=by unfold Q6;rw [hf];dsimp only;rw [i6 h4,i6 h5]
          rw [i6 (by simp only [P6];omega),ha];unfold k9 E0;rw [A6 (by omega),j3,A6 (by simp only [P0,a0a];omega),A6 (by simp only [N0,P0,a0a];omega),j3,c0L h.2.rise hn];refine⟨_,rfl, ?_,by dsimp only;rw [c1L];omega⟩;dsimp only;rw [i6 (by decide),i6 (by decide),c3L l r (by omega)];rfl
   · simp only [hk,a0w,a5C,C6,G4,show((80:Int) !=0)=true from rfl];exact⟨_,rfl,rfl,by simp⟩
 · simp only [h,a0w,a5C,C6,G4,show((81:Int) !=0)=true from rfl];exact⟨_,rfl,rfl,by simp⟩
def low (l:List b9) (d n:Int):Nat:=l.countP fun r=>r.At.Depot==d&&decide (r.At.No<n)
theorem c1J (l:List b9) (r:b9) (d n:Int):low (l++ [r]) d n=low l d n+if r.At.Depot=d∧r.At.No<n then 1 else 0:=by
 unfold low;rw [List.countP_append,List.countP_singleton];congr 1;by_cases a:r.At.Depot=d<;>by_cases b:r.At.No<n<;>simp [a,b]
theorem Written.pre {l:List b9} {r:b9} (h:Written (l++ [r])):Written l∧w8 r∧N8 l r:=by
 refine⟨fun i x hx=> ?_, ?_⟩
 · obtain⟨hi,rfl⟩:=I5.1 hx;have:=h i l[i] (by rw [a8Y hi,hx]);rwa [b3P (a2P hi)]at this
 · have:=h l.length r (by simp);simpa using this
theorem Written.low:∀(k:Nat) {l:List b9},l.length=k→Written l→(∀r∈l,r.At.No<((cnt l r.At.Depot:Nat):Int))∧∀(d:Int) (n:Nat),n≤cnt l d→low l d n=n
 |0,l,hk,_=>by
  obtain rfl:=List.length_eq_zero_iff.1 hk;exact⟨by simp,fun d n hn=>by rw [b9p]at hn;unfold Proofs.YtggdlgclohnbaaaGreatDoor.low;simp;omega⟩
 |k+1,l,hk,h=>by
  rcases List.eq_nil_or_concat l with rfl|⟨L,b,rfl⟩
  · simp at hk
  · rw [List.concat_eq_append]at h hk⊢;obtain⟨h1,h2,h3,h4⟩:=h.pre;obtain⟨f1,f2⟩:=Written.low k (by simpa using hk) h1
    refine⟨fun r hr=> ?_,fun d n hn=> ?_⟩
    · rw [a2k];rcases B2.1 hr with hr|hr
      · have:=f1 r hr;split<;>omega
      · obtain rfl:=a1n.1 hr;rw [e9 rfl];omega
    · rw [a2k]at hn;rw [c1J];by_cases a:b.At.Depot=d
      · rw [e9 a]at hn;rw [a]at h4;rcases Nat.lt_or_ge (cnt L d) n with g|g
        · obtain rfl:n=cnt L d+1:=by omega
          rw [e9 ⟨a,by omega⟩]
          have e:Proofs.YtggdlgclohnbaaaGreatDoor.low L d ((cnt L d+1:Nat):Int)=Proofs.YtggdlgclohnbaaaGreatDoor.low L d ((cnt L d:Nat):Int):=by
           unfold Proofs.YtggdlgclohnbaaaGreatDoor.low;apply List.countP_congr;intro x hx;have:=f1 x hx;simp only [y6,P6,D0];constructor
           · rintro⟨a1,_⟩;rw [a1]at this;exact⟨a1,this⟩
           · rintro⟨a1,a2⟩;exact⟨a1,by omega⟩
          rw [e,f2 d _ (u0 _)]
        · rw [i6 (by omega),f2 d n g,Nat.add_zero]
      · rw [i6 a]at hn;rw [i6 (fun x=>a x.1),f2 d n (by omega),Nat.add_zero]
theorem b6j {l:List b9} (h:Written l):a6W (B0 l):=by
 have hp:=a3Z l;have hr:=b0S h.once;obtain⟨f1,f2⟩:=Written.low _ rfl h;refine⟨by rw [hp.length_eq];exact h.len,fun i r hi=> ?_⟩;obtain⟨hlt,rfl⟩:=I5.1 hi;have hm:(B0 l)[i]∈l:=hp.mem_iff.1 (a2C hlt);refine⟨h.rec hm,fun y hy=> ?_, ?_⟩
 · have hj:0<i:=by
    rcases Nat.eq_zero_or_pos i with e|e
    · subst e;simp at hy
    · exact e
   rw [List.getLast?_eq_getElem?,a1G,a1j (by omega),a2v,e9 (by omega)]at hy;obtain⟨_,rfl⟩:=I5.1 hy;exact b2m.1 hr (i-1) i (by omega) hlt (by omega)
 · have hno:0≤(B0 l)[i].At.No:=(h.rec hm).1.2.1;have hl:=f1 _ hm;obtain⟨k,hk⟩:∃k:Nat,(B0 l)[i].At.No=(k:Int):=⟨(B0 l)[i].At.No.toNat,by omega⟩;have hlow:=f2 (B0 l)[i].At.Depot k (by omega);have e1:low (B0 l) (B0 l)[i].At.Depot k=low l (B0 l)[i].At.Depot k:=hp.countP_eq _
   have e2:low (B0 l) (B0 l)[i].At.Depot k=cnt ((B0 l).take i) (B0 l)[i].At.Depot:=by
    unfold low cnt
    have key:∀p:b9→Bool,(B0 l).countP p=((B0 l).take i).countP p+((B0 l).drop i).countP p:=fun p=>by
     rw [←List.countP_append,b3R]
    rw [key]
    have z:((B0 l).drop i).countP (fun r=>r.At.Depot==(B0 l)[i].At.Depot&&decide (r.At.No<(k:Int)))=0:=by
     rw [List.countP_eq_zero];intro x hx;obtain⟨j,hj,rfl⟩:=List.mem_drop_iff_getElem.1 hx;simp only [y6,P6,D0];rintro⟨a1,a2⟩;rcases Nat.eq_zero_or_pos j with e|e
     · subst e;simp only [Nat.add_zero]at a2;omega
     · have:=b2m.1 hr i (i+j) hlt (by omega) (by omega);unfold Bef at this;omega
    rw [z,Nat.add_zero];apply List.countP_congr;intro x hx;obtain⟨j,hj,rfl⟩:=List.mem_take_iff_getElem.1 hx;have:=b2m.1 hr j i (by omega) hlt (by omega);unfold Bef at this;simp only [y6,P6,D0];constructor
    · exact fun a=>a.1
    · exact fun a=>⟨a,by omega⟩
   rw [←e2,e1,hlow,hk]
theorem c4E {G:List b9} (h:a4I G) {x y:b9} (hx:x∈G) (hy:y∈G) (e:x.At=y.At):x=y:=by
 obtain⟨i,hi,rfl⟩:=b3g hx;obtain⟨j,hj,rfl⟩:=b3g hy;have hp:=b2m.1 h;rcases Nat.lt_trichotomy i j with g|g|g
 · exact absurd e (hp i j hi hj g)
 · subst g;rfl
 · exact absurd e.symm (hp j i hj hi g)
open Classical in theorem have_eq (b : l7) (w : List b9) (hb : (b.Thread.length + b.Loose.length) * 48 ≤ 140737488355328) (hl : w.length ≤ 9223372036854775800) (hs : ∀ r ∈ w, r.Text.size ≤ 9223372036854775807) : O9 b w = some (decide (Written w ∧ b.Thread ++ b.Loose = ofF w)) := by
  unfold O9;rw [areWritten_eq w hl hs, j3];by_cases h : Written w
  · have := h.len;rw [e9 (by simp [h]), b0s b hb, j3, c1Q w (fun r hr => h.rec hr) (by omega), j3, b7i _ _ (by rw [N0]; omega), j3];simp [h]
  · rw [i6 (by simp [h])];simp [h]
open Classical in theorem CheckBox_eq (b : l7) (w : List b9) (hb : (b.Thread.length + b.Loose.length) * 48 ≤ 140737488355328) (hl : w.length ≤ 9223372036854775800) (hs : ∀ r ∈ w, r.Text.size ≤ 9223372036854775807) : U1 b w = some (if Written w ∧ b.Thread ++ b.Loose = ofF w then 0 else 84) := by
  unfold U1;rw [have_eq b w hb hl hs, j3];by_cases h : Written w ∧ b.Thread ++ b.Loose = ofF w
  · rw [i6 (by simp [h]), e9 h]
  · rw [e9 (by simp only [h]; decide), i6 h]
theorem b4a (r:b9):∀(l:List b9) (s:Nat),(match a0E (fun(s:Nat) (x:b9)=>if r=x then(.inr s:Sum Nat Nat)else .inl (s+1)) l s with| .inl _=>decide (r∈l)=false| .inr _=>decide (r∈l)=true)
 | [],s=>by simp [a0E]
 |x::l,s=>by
  unfold a0E;by_cases h:r=x
  · rw [e9 h];simp [h]
  · rw [i6 h];have ih:=b4a r l (s+1);dsimp only;generalize a0E (fun(s:Nat) (x:b9)=>if r=x then(.inr s:Sum Nat Nat)else .inl (s+1)) l (s+1)=q at ih⊢
    cases q<;>simpa [h]using ih
theorem b6e (l:List b9) (hl:l.length≤1000000) (r:b9):p0 l r=some (decide (r∈l)):=by
 unfold p0 B6
 have key:=a1T (body:=n8 l r) l (by omega) (fun k (_:Nat)=>(k:Int)) (fun(s:Nat) (x:b9)=>if r=x then(.inr s:Sum Nat Nat)else .inl (s+1)) (fun s=> .inr (s:Int)) (fun s=> .inl (s:Int)) (fun pre s=>s=pre.length)
  (fun pre x post s hp hs=>by
   subst hp hs;unfold n8;rw [e9 (by simp only [D0];exact b0t),a5N,j3,b0e,W_s (by simp at hl;omega)];by_cases hb:r=x
   · rw [e9 (by simp [hb]),e9 hb];exact⟨rfl,fun s' hs'=>by cases hs'⟩
   · rw [i6 (by simp [hb]),i6 hb];exact⟨rfl,fun s' hs'=>by cases hs';simp⟩)
  (fun s hs=>by subst hs;unfold n8;rw [i6 (by simp)]) 0 rfl
 have k2:w6 (n8 l r) 0=_:=key;rw [k2,j3];have hr:=b4a r l 0;generalize a0E (fun(s:Nat) (x:b9)=>if r=x then(.inr s:Sum Nat Nat)else .inl (s+1)) l 0=q at hr⊢
 cases q with
 |inl _=>dsimp only at hr⊢;rw [hr];rfl
 |inr k=>
  dsimp only at hr⊢;rw [hr,j3];simp
theorem Written.take {l:List b9} (h:Written l) (n:Nat):Written (l.take n):=by
 intro i r hi;rw [a2v]at hi;split at hi
 · rename_i hn;have:=h i r hi;rw [List.take_take,a1j (by omega)];exact this
 · cases hi
structure Bx (b:l7) (l:List b9) (n:Nat):Prop where
 w:Written l
 t:b.Thread=ofF (l.take n)
 a:b.Thread++b.Loose=ofF l
 f:n≤l.length
theorem Bx.len {b:l7} {w:List b9} {f:Nat} (h:Bx b w f):b.Thread.length+b.Loose.length≤1020:=by
 have h1:=a7m w 0 (fun r hr=>h.w.rec hr);have h2:=h.w.len;have h3:(b.Thread++b.Loose).length=(ofK 0 w).length:=l8 List.length h.a;rw [N0]at h3;omega
theorem Bx.nil:Bx ⟨[], []⟩ [] 0:=⟨Written.nil,by simp [ofF,ofK],by simp [ofF,ofK],u0 _⟩
theorem Written.item {w:List b9} (h:Written w) {d:Int} {n:Nat} (hn:n<cnt w d):∃r∈w,r.At=⟨d,(n:Int)⟩:=by
 have hl:=(Written.low _ rfl h).2 d;have h1:=hl n (by omega);have h2:=hl (n+1) (by omega);refine b5U fun hno=> ?_
 have:Go.Proofs.YtggdlgclohnbaaaGreatDoor.low w d ((n+1:Nat):Int)=Go.Proofs.YtggdlgclohnbaaaGreatDoor.low w d (n:Int):=by
  unfold Go.Proofs.YtggdlgclohnbaaaGreatDoor.low;refine List.countP_congr fun r hr=> ?_
  simp only [y6,P6,D0];constructor
  · rintro⟨h3,h4⟩;refine⟨h3, ?_⟩;rcases(show r.At.No<(n:Int)∨(n:Int)≤r.At.No by omega)with h5|h5
    · exact h5
    · exfalso;refine hno ⟨r,hr, ?_⟩;have e:r.At.No=(n:Int):=by omega
      obtain⟨⟨d',n'⟩,_⟩:=r;dsimp only at h3 e⊢;rw [h3,e]
  · rintro⟨h3,h4⟩;exact⟨h3,by omega⟩
 omega
theorem b7m {w:List b9} (h:a4I w) {r:b9} (hr:r∈w):fnd w r.At=some r:=by
 cases hf:fnd w r.At with
 |none=>exact absurd rfl (a4X hf r hr)
 |some v=>
  obtain⟨h1,h2⟩:=a3l hf;rw [c4E h h1 hr h2]
theorem c2u {w v:List b9} (h:a4I w) (p:v.Perm w) (t:o6):fnd v t=fnd w t:=by
 cases hf:fnd v t with
 |some x=>
  obtain⟨h1,h2⟩:=a3l hf;rw [←h2,b7m h (p.mem_iff.1 h1)]
 |none=>
  cases hg:fnd w t with
  |none=>rfl
  |some y=>
   obtain⟨h1,h2⟩:=a3l hg;exact absurd h2 (a4X hf y (p.mem_iff.2 h1))
theorem c3w {w v:List b9} (p:v.Perm w) (d:Int):cnt v d=cnt w d:=p.countP_eq _
theorem b8B {w v:List b9} (h:a4I w) (p:v.Perm w) (r:b9):Q6 v r=Q6 w r:=by
 unfold Q6;rw [c2u h p,c3w p,p.length_eq]
def a4Z (w:List b9) (r:b9):Int:=if w8 r then(Q6 w r).2 else 80
theorem c3R {w:List b9} (h:Written w) {r:b9} (hr:r∈w):a4Z w r=0:=by
 unfold a4Z Q6;rw [e9 (h.rec hr),b7m h.once hr];simp
theorem b0Z {w:List b9} (h:Written w) {r:b9} (hr:r∉w) (he:a4Z w r=0):w8 r∧N8 w r∧Q6 w r=(true,0):=by
 unfold a4Z at he;split at he
 · rename_i hk;unfold Q6 at he⊢;cases hf:fnd w r.At with
   |some v=>
    rw [hf]at he;dsimp only at he;split at he
    · rename_i hv;exact absurd (hv▸(a3l hf).1) hr
    · cases he
   |none=>
    rw [hf]at he;dsimp only at he;split at he
    · cases he
    · rename_i h1;split at he
      · cases he
      · rename_i h2;refine⟨hk,⟨by have:=h.len;omega, ?_⟩, ?_⟩
        · rcases(show r.At.No<((cnt w r.At.Depot:Nat):Int)∨((cnt w r.At.Depot:Nat):Int)≤r.At.No by omega)with h3|h3
          · exfalso;have h0:0≤r.At.No:=hk.1.2.1;obtain⟨x,g1,g2⟩:=h.item (d:=r.At.Depot) (n:=r.At.No.toNat) (by omega);refine a4X hf x g1 ?_;rw [g2,Int.toNat_of_nonneg h0]
          · omega
        · dsimp only;rw [i6 h1,i6 h2]
 · cases he
def a0N (b:l7) (w:List b9) (r:b9):l7×List b9×Int:=
 if r∈w then(b,w,0)else if a4Z w r=0 then(⟨b.Thread,b.Loose++a1B (Z2 r) (w.length:Int)⟩,w++ [r],0)else(⟨[], []⟩, [],a4Z w r)
def HB (b:l7) (w:List b9):Prop:=Written w∧b.Thread++b.Loose=ofF w
theorem HB.len {b:l7} {w:List b9} (h:HB b w):b.Thread.length+b.Loose.length≤1020:=by
 have h1:=a7m w 0 (fun r hr=>h.1.rec hr);have h2:=h.1.len;have h3:(b.Thread++b.Loose).length=(ofK 0 w).length:=l8 List.length h.2;rw [N0]at h3;omega
theorem c4d (l:List b9) (hl:a6W l) (r:b9) (hr:r.Text.size≤9223372036854775807):∃bk,Q8 ⟨l⟩ r=some (bk,a4Z l r):=by
 have hl60:=hl.1;have hts:∀r∈l,r.Text.size≤9223372036854775807:=fun r hr=>by have:=a0X (hl.2.rec hr);omega
 have hd:∀r∈l,Y0 r.At.Depot:=fun r hr=>hl.2.dep hr
 obtain⟨x,h1,h2,_⟩:=c2K ⟨l⟩ r (by dsimp only;omega) hts hr;refine⟨x.1, ?_⟩;rw [h1];unfold a5D at h2;rw [Check_eq _ hts,j3,i6 (by simp [hl])]at h2;dsimp only at h2;rw [b4O l r (by omega) hd hr,j3]at h2;unfold a4Z;by_cases hk:w8 r
 · rw [e9 hk]at h2⊢;cases ha:Q6 l r with
   |mk m e=>
    rw [ha]at h2;dsimp only at h2⊢;by_cases he:e=0
    · subst he;rw [i6 (by decide)]at h2
      have hx:x.2=0:=by
       split at h2
       · simp only [gd,j3]at h2;split at h2
         · cases h2;rfl
         · cases h2
       · rw [c3L l r (by omega),j3]at h2;cases h2;rfl
      rw [←hx]
    · rw [e9 (by simpa using he)]at h2
      cases h2;rfl
 · rw [i6 hk]at h2⊢;rw [e9 (by decide)]at h2;cases h2;rfl
theorem c0Z (b:l7) (w:List b9) (r:b9) (hw:Written w) (hb:b.Thread.length+b.Loose.length≤100000) (hr:r.Text.size≤9223372036854775807):V2 b w r=some (a0N b w r):=by
 have hwl:=hw.len;unfold V2 E0 N5 m9 k9 a0N;rw [b6e _ (by omega),j3];by_cases hm:r∈w
 · rw [e9 (by simp [hm]),e9 hm,A6 (by omega),A6 (by omega),A6 (by omega)];rfl
 · rw [i6 (by simp [hm]),i6 hm,A6 (by omega),j3];obtain⟨bk,h1⟩:=c4d (B0 w) (b6j hw) r hr;have he:a4Z (B0 w) r=a4Z w r:=by unfold a4Z;rw [b8B hw.once (a3Z w)]
   rw [h1,j3,he];dsimp only;by_cases h0:a4Z w r=0
   · obtain⟨hk,hn,_⟩:=b0Z hw hm h0;have hcl:(a1B (Z2 r) (w.length:Int)).length≤17:=by rw [a0x];exact a1i (a0Z hk)
     rw [i6 (by simp [h0]),e9 h0,A6 (by omega),A6 (by omega)];simp only [j3];rw [a5R hk,j3,A6 (by omega),A6 (by omega),j3,A6 (by simp only [P0,a0a];omega)]
   · rw [e9 (by simpa using h0),i6 h0]
open Classical in theorem rCheckBox_eq (b : l7) (w : List b9) (hb : (b.Thread.length + b.Loose.length) * 48 ≤ 140737488355328) (hl : w.length ≤ 9223372036854775800) (hs : ∀ r ∈ w, r.Text.size ≤ 9223372036854775807) : R5 b w = some (if HB b w then 0 else 84) := by
  unfold R5 HB;rw [AreWritten_eq w hl hs, j3];by_cases h : Written w
  · have := h.len;rw [i6 (by simp [h]), c8k b hb, j3, c5X w (fun r hr => h.rec hr) (by omega), j3, a3Q _ _ (by rw [N0]; omega), j3];by_cases hc : b.Thread ++ b.Loose = ofF w
    · rw [i6 (by simp [hc]), e9 ⟨h, hc⟩]
    · rw [e9 (by simp [hc]), i6 (fun e => hc e.2)]
  · rw [e9 (by simp [h]), i6 (fun e => h e.1)]
theorem a4I.filter {w:List b9} (h:a4I w) (p:b9→Bool):a4I (w.filter p):=List.Pairwise.filter p h
theorem c3a {w:List b9} (h:Written w) {r:b9} (hr:r∈w):Q6 w r=(false,0):=by
 unfold Q6;rw [b7m h.once hr];simp
theorem c4i (w:List b9) (r:b9):(if w8 r then Q6 w r else(false,80)).2=a4Z w r:=by unfold a4Z;split<;>rfl
theorem c6o {α:Type} (l:List α):([]:List α)++l=l:=rfl
open Classical in theorem rWrite_eq (b : l7) (w : List b9) (r : b9) (hb : (b.Thread.length + b.Loose.length) * 48 ≤ 140737488355328) (hl : w.length ≤ 9223372036854775800) (hs : ∀ r ∈ w, r.Text.size ≤ 9223372036854775807) (hr : r.Text.size ≤ 9223372036854775807) :
    a2D b w r = some (if HB b w then a0N b w r else (⟨[], []⟩, [], 84)) := by
  unfold a2D a0U;rw [rCheckBox_eq b w (by omega) (by omega) hs, j3];by_cases h : HB b w
  · have hw := h.1;have hwl := hw.len;have hbl := h.len;rw [e9 h, e9 h, i6 (by decide), b4O w r (by omega) (fun r hr => hw.dep hr) hr, j3];have he := c4i w r;unfold a0N;by_cases hm : r ∈ w
    · rw [e9 (hw.rec hm), c3a hw hm, e9 hm];dsimp only;rw [i6 (by decide), A6 (by simp only [a0a]; omega), A6 (by simp only [a0a]; omega), j3, A6 (by simp only [a0a]; omega), i6 (by decide)]; rfl
    · rw [i6 hm];by_cases h0 : a4Z w r = 0
      · obtain ⟨hk, hn, ha⟩ := b0Z hw hm h0;have hcl : (a1B (Z2 r) (w.length : Int)).length ≤ 17 := by rw [a0x]; exact a1i (a0Z hk)
        rw [e9 hk, ha, e9 h0];dsimp only;rw [i6 (by decide), A6 (by simp only [a0a]; omega), A6 (by simp only [a0a]; omega), j3, A6 (by simp only [a0a]; omega), e9 rfl];dsimp only;simp only [c6o];rw [b3i hk, j3, A6 (by omega), A6 (by simp only [P0, a0a]; omega)]
      · rw [i6 h0];generalize (if w8 r then Q6 w r else (false, 80)) = z at he ⊢
        obtain ⟨m, e⟩ := z;dsimp only at he ⊢;subst he;rw [e9 (by simpa using h0)]
  · rw [i6 h, i6 h, e9 (by decide)]
open Classical in theorem dWrite_eq (b : l7) (w : List b9) (r : b9) (hb : (b.Thread.length + b.Loose.length) * 48 ≤ 140737488355328) (hl : w.length ≤ 9223372036854775800) (hs : ∀ r ∈ w, r.Text.size ≤ 9223372036854775807) (hr : r.Text.size ≤ 9223372036854775807) :
    L7 b w r = some (if HB b w then a0N b w r else (⟨[], []⟩, [], 84)) := by
  unfold L7;rw [have_eq b w (by omega) (by omega) hs, j3];by_cases h : HB b w
  · rw [i6 (by have := h.1; have := h.2; simp [*]), c0Z b w r h.1 (by have := h.len; omega) hr, j3, e9 h]
  · have h' : ¬ (Written w ∧ b.Thread ++ b.Loose = ofF w) := h;rw [e9 (by simp only [h']; decide), i6 h]
theorem c0g {b:l7} {w:List b9} {r:b9} (h:HB b w) (he:a4Z w r=0):HB (a0N b w r).1 (a0N b w r).2.1:=by
 unfold a0N;split
 · exact h
 · rename_i hm;obtain⟨h1,h2,_⟩:=b0Z h.1 hm he;exact⟨h.1.snoc h1 h2,by dsimp only;rw [←a2N,h.2,b1w]⟩
theorem b7K (b:l7) (h:b.Thread.length+b.Loose.length≤9223372036854775800):a0S b b=some true:=by
 unfold a0S;rw [a3Q _ _ (by omega),j3,a3Q _ _ (by omega),j3];simp
open Classical in theorem write_sm (b : l7) (w : List b9) (r : b9) : ((if HB b w then a0N b w r else (⟨[], []⟩, [], 84)) : l7 × List b9 × Int).1.Thread.length + ((if HB b w then a0N b w r else (⟨[], []⟩, [], 84)) : l7 × List b9 × Int).1.Loose.length ≤ 2000 ∧ ((if HB b w then a0N b w r else (⟨[], []⟩, [], 84)) : l7 × List b9 × Int).2.1.length ≤ 2000 := by
  by_cases h : HB b w
  · rw [e9 h];by_cases he : a4Z w r = 0
    · have h2 := c0g (r := r) h he;have := h2.len;have := h2.1.len;omega
    · have hm : r ∉ w := fun hm => he (c3R h.1 hm)
      unfold a0N;rw [i6 hm, i6 he];simp
  · rw [i6 h]; simp
end Go.Proofs.YtggdlgclohnbaaaGreatDoor
namespace Go.Proofs.YtggdlgclohnbaaaGreatDoor
open Go Go.RowKit Go.Sx
theorem c3G {H:Type} (d:DataW H):1≤Rows.uptoBulk d:=by
 cases d with
 |lit l=>cases l<;>simp [Rows.uptoBulk]
 |nil=>simp [Rows.uptoBulk]
 |ptr d=>simp [Rows.uptoBulk]
 |slice elems spare=>simp [Rows.uptoBulk]
 |agg parts=>simp [Rows.uptoBulk]
 |iface t d=>simp [Rows.uptoBulk]
 |map entries=>simp [Rows.uptoBulk]
 |held h=>simp [Rows.uptoBulk]
theorem c2c {H:Type} (l:List (DataW H)):l.length≤Rows.uptoBulkAll l:=by
 induction l with
 |nil=>simp [Rows.uptoBulkAll]
 |cons x r ih=>have:=c3G x;simp only [Rows.uptoBulkAll,P0];omega
theorem b2l {H:Type} {enc:TypeId×Value→H} {w:World} {fuel:Nat} {t e:TypeId} {ok:Nat→Prop} {z n:Nat} {l:List D} {c:Value} {x:DataW H×List MemPlace} (hu:Tryz.prog.underlying t=some (.slice e)) (hr:Rep ok w (.lst z n l) c)
 (ht:DataW.trod enc Tryz.prog w 0 (fun _=>true) true fuel t [c]=some x):n+1≤Rows.uptoBulk x.1:=by
 simp only [Rep]at hr;obtain⟨a,cap,hc,_⟩:=hr;subst hc;rcases DataW.trod_slice hu ht with⟨h1,rfl⟩|⟨a',len,cap',elems,rest,fuel',_,h1,rfl,_,_,_,e1,_⟩
 · simp only [a2I,Value.slice.injEq,and_true]at h1;simp only [Rows.uptoBulk];omega
 · simp only [a2I,Value.slice.injEq,and_true]at h1;have:=c2c (elems.map (·.1));simp only [Rows.uptoBulk,a9c]at this⊢;omega
theorem c4H {α:Type}:∀ {l:List α},l.length=2→∃a b,l= [a,b]
 | [a,b],_=>⟨a,b,rfl⟩
theorem c1d {H:Type} {enc:TypeId×Value→H} {W:World} {ok:Nat→Prop} {ts:List TypeId} {args:List Value} {ds:List (DataW H)} {ps:List MemPlace} (x:l7) {cr:List D} (hr:j1 ok W (.agg (l7.c x)::cr) args)
 (ht:DataW.TrodAll enc Tryz.prog W 0 (fun _=>true) true (24::ts) args ds ps) (hk:Rows.uptoSmall H (ds++ [])=true):x.Thread.length+x.Loose.length≤1048576:=by
 obtain⟨v,vs',d,ds',p,q,rfl,rfl,rfl,⟨fuel,h1⟩,h2⟩:=Go.ChangeShapes.trodAll_cons ht;have hb:=of_decide_eq_true hk;rw [List.append_nil]at hb;simp only [Rows.uptoBulkAll]at hb;have hv:=hr.1;simp only [Rep]at hv;obtain⟨cs,rfl,hcs,_⟩:=hv;cases fuel with
 |zero=>simp [DataW.trod]at h1
 |succ fuel=>
  simp only [DataW.trod,Tryz.underlying24]at h1;split at h1
  · rename_i hl;rw [Option.map_eq_some_iff]at h1;obtain⟨xs,hx,he⟩:=h1;obtain⟨b0,r0,m0,m1,rfl⟩:=Q9 hx;obtain⟨b1,r1,m2,m3,rfl⟩:=Q9 m1;cases he;have hcs':j1 ok W [lD 5 x.Thread c8.c,lD 5 x.Loose c8.c] cs.toList:=hcs;have hc:Tryz.prog.cellsOf 22=1:=by kernel_rfl
    have hu:∃e,Tryz.prog.underlying 22=some (.slice e):=⟨_,Tryz.underlying22⟩;obtain⟨e,hu⟩:=hu;have hcells:(Value.agg cs).cells.toList=cs.toList:=rfl;rw [hcells]at m0 m2;generalize cs.toList=L at hcs' m0 m2;have hL:=hcs'.length;obtain⟨c0,c1,rfl⟩:=c4H (show L.length=2 from by rw [←hL];rfl);have q0:=hcs'.1;have q1:=hcs'.2.1;dsimp only at m0 m2;rw [hc]at m0 m2;have k0:=b2l hu q0 m0;have k1:=b2l hu q1 m2;simp only [Rows.uptoBulk,C4,Rows.uptoBulkAll]at hb;omega
  · cases h1
end Go.Proofs.YtggdlgclohnbaaaGreatDoor
namespace Go.Proofs.YtggdlgclohnbaaaGreatDoor
open Go Go.Sx
def RS:b9:=⟨⟨2,0⟩,5,10,12,⟨0,0⟩,⟨#[97,32,108,97,109,112,32,111,110,32,116,104,101,32,113,117,97,121]⟩⟩
def TS:ByteArray:=⟨#[50,32,48,32,53,32,49,48,32,49,50,32,48,32,48,32,97,32,108,97,109,112,32,111,110,32,116,104,101,32,113,117,97,121]⟩
def T0:ByteArray:=⟨#[50,32,48,32,53,32,49,48,32,49,50,32,48,32,48,32,97,32,108,97,109,112,32,111]⟩
def T1:ByteArray:=⟨#[110,32,116,104,101,32,113,117,97,121]⟩
def C0 (no:Int):c8:=⟨no,0,2,24,T0⟩
def C1 (no:Int):c8:=⟨no,1,2,10,T1⟩
theorem a6x:w8 RS:=by decide+kernel
theorem b8G (u:Nat) (h:u<10):Lib.itoa (u:Int)= [UInt8.ofNat (48+u)]:=by
 rw [Lib.itoa_nonneg,Lib.decDigits,dif_pos h]
theorem c2R (u:Nat) (h:10≤u∧u<100):Lib.itoa (u:Int)= [UInt8.ofNat (48+u / 10),UInt8.ofNat (48+u % 10)]:=by
 rw [Lib.itoa_nonneg,Lib.decDigits,dif_neg (by omega),Lib.decDigits,dif_pos (by omega)];rfl
theorem b7Z:Z2 RS=TS:=by
 have h0:=b8G 0 (by omega);have h2:=b8G 2 (by omega);have h5:=b8G 5 (by omega);have h10:=c2R 10 (by omega);have h12:=c2R 12 (by omega);apply a9t;apply F9;rw [c0Q];unfold Z1 a0o RS;simp only [L3,List.flatMap_nil];rw [show(2:Int)=((2:Nat):Int) from rfl,show(0:Int)=((0:Nat):Int) from rfl,show(5:Int)=((5:Nat):Int) from rfl,show(10:Int)=((10:Nat):Int) from rfl,show(12:Int)=((12:Nat):Int) from rfl,h0,h2,h5,h10,h12];decide+kernel
theorem b2n (no:Int):a1B (Z2 RS) no= [C0 no,C1 no]:=by
 rw [b7Z];have e0:a8q TS 0=T0:=by decide+kernel
 have e1:a8q TS 1=T1:=by decide+kernel
 have hz:TS.size=34:=by decide+kernel
 have s0:T0.size=24:=by decide+kernel
 have s1:T1.size=10:=by decide+kernel
 have hr:List.range (J6 34)= [0,1]:=by decide+kernel
 unfold a1B;rw [hz,hr];simp only [C4,a6q,b5D,e0,e1,hz,s0,s1,C0,C1];rfl
theorem c5w:a0n RS=some (TS,0):=by
 unfold a0n;rw [O3 RS (by have:=a0X a6x;omega),j3,i6 (by simp [a6x]),a6e a6x,b7Z];rfl
theorem c2w:a0W RS 3=some ([C0 3,C1 3],0):=by
 unfold a0W;rw [O3 RS (by have:=a0X a6x;omega),j3,i6 (by simp [a6x]),a5K,j3,i6 (by decide),a5R a6x,b2n];rfl
theorem c1i:B0 []= []:=a2r (a3w [])
theorem c3T:O9 ⟨[], []⟩ []=some true:=by
 unfold O9;rw [areWritten_eq [] (by simp) (by simp),j3,e9 (by simp [Written.nil]),b0s _ (by simp),j3,c1Q [] (by simp) (by simp),j3];dsimp only;rw [b7i _ _ (by simp)];simp [ofF,ofK]
theorem c6q:∃b,Q8 ⟨[]⟩ RS=some (b,0):=by
 have hb:N6 ⟨[]⟩=some true:=by
  have:w6 (A2 ⟨[]⟩) (0,(-1),0)=some (.inl (0,-1,0)):=a0Q (body:=A2 ⟨[]⟩) (fun _=>((0:Int),(-1:Int),(0:Int))) 0 (by omega) _ (fun k hk=>by omega) (by unfold A2;dsimp only;rw [i6 (by simp)]);unfold N6;rw [this];rfl
 have hf:U7 ⟨[]⟩ RS.At=some (0,false):=by decide+kernel
 unfold Q8;rw [hb,j3,i6 (by decide),O3 RS (by have:=a0X a6x;omega),j3,i6 (by simp [a6x]),hf,j3];dsimp only;rw [i6 (by decide),b4L [] (by simp) (by simp),j3];have e:idx [(a4G []).1,(a4G []).2.1,(a4G []).2.2.1,(a4G []).2.2.2.1,(a4G []).2.2.2.2.1,(a4G []).2.2.2.2.2] RS.At.Depot=some 0:=by decide+kernel
 rw [e,j3,i6 (by decide),i6 (by decide)];unfold k9;rw [A6 (by simp),j3,A6 (by simp)];unfold E0;rw [A6 (by simp)];exact⟨_,rfl⟩
theorem c3o:L7 ⟨[], []⟩ [] RS=some (⟨[], [C0 0,C1 0]⟩, [RS],0):=by
 obtain⟨b,hb⟩:=c6q;have hc:p0 [] RS=some false:=by decide+kernel
 unfold L7 V2;rw [c3T,j3,i6 (by decide),hc,j3,i6 (by decide)];unfold E0;rw [A6 (by simp),j3,c1i,hb,j3];dsimp only;rw [i6 (by decide)];unfold N5 m9 k9;rw [A6 (by simp),j3,A6 (by simp),j3,j3];dsimp only;rw [show((([]:List b9).length:Nat):Int)=0 from rfl,a5R a6x,b2n,j3,A6 (by simp),j3,A6 (by simp)];rfl
theorem b9y:c5p ⟨[], [C0 0,C1 0]⟩:=⟨by simp,by simp,fun c hc=>by
 simp only [o5,a9h,or_false]at hc;rcases hc with rfl|rfl
 · show T0.size≤_;decide+kernel
 · show T1.size≤_;decide+kernel⟩
theorem b5F {l:List Int} (h:(l.all fun x=>decide (0≤x∧x≤100))=true):b9w l:=fun x hx=>by
 have:=of_decide_eq_true (L4.1 h x hx);omega
theorem c7G:B4 ⟨[], [C0 0,C1 0]⟩ [2,0]=some ⟨[], [C0 0,C1 0]⟩:=by
 rw [a5d _ _ b9y (b5F (by decide)) (by simp)];decide+kernel
theorem c6t:B4 ⟨[], [C0 0,C1 0]⟩ [3,0]=some ⟨[], [C1 0,C0 0]⟩:=by
 rw [a5d _ _ b9y (b5F (by decide)) (by simp)];decide+kernel
theorem c8g:B4 ⟨[], [C0 0,C1 0]⟩ [2,0,0,0]=some ⟨[], [C0 0]⟩:=by
 rw [a5d _ _ b9y (b5F (by decide)) (by simp)];decide+kernel
theorem c6U:B4 ⟨[], [C0 0,C1 0]⟩ [2,0,1,9]=some ⟨[], [C0 0,⟨0,1,2,10,⟨#[110,32,116,104,101,32,113,117,97]⟩⟩]⟩:=by
 rw [a5d _ _ b9y (b5F (by decide)) (by simp)];decide+kernel
theorem c7P:B4 ⟨[C0 0,C1 0], []⟩ [0,0]=some ⟨[C0 0,C1 0], []⟩:=by
 rw [a5d _ _ ⟨by simp,by simp,by simp⟩ (b5F (by decide)) (by simp)];decide+kernel
theorem b0W {l:List c8} (h0:b2f l 0=some TS) (h1:b2f l 1=none):a9a l= [RS]:=by
 have hd:decF TS=some RS:=by rw [←b7Z];exact b5u a6x
 have hn:N8 [] RS:=by decide+kernel
 unfold a9a;rw [show(61:Nat)=59+1+1 from rfl,a5y];rw [show((([]:List b9).length:Nat):Int)=0 from rfl,h0];dsimp only;rw [hd];dsimp only;rw [e9 hn,a5y];rw [show((([]++ [RS]:List b9).length:Nat):Int)=1 from rfl,h1];rfl
theorem b4e {l:List c8} (h0:b2f l 0=none):a9a l= []:=by
 unfold a9a;rw [show(61:Nat)=60+1 from rfl,a5y];rw [show((([]:List b9).length:Nat):Int)=0 from rfl,h0]
theorem b7C:ofF [RS]= [C0 0,C1 0]:=by
 unfold ofF ofK ofK;rw [b2n];rfl
theorem c6T:B3 ⟨[], [C0 0,C1 0]⟩=some (⟨[C0 0,C1 0], []⟩, [RS]):=by
 rw [a4S _ (by simp),b0W (by decide+kernel) (by decide+kernel),b7C]
theorem c7k:B3 ⟨[], [C1 0,C0 0]⟩=some (⟨[C0 0,C1 0], []⟩, [RS]):=by
 rw [a4S _ (by simp),b0W (by decide+kernel) (by decide+kernel),b7C]
theorem c6H:B3 ⟨[], [C0 0]⟩=some (⟨[], []⟩, []):=by
 rw [a4S _ (by simp),b4e (by decide+kernel)];rfl
theorem c7r:B3 ⟨[], [C0 0,⟨0,1,2,10,⟨#[110,32,116,104,101,32,113,117,97]⟩⟩]⟩=some (⟨[], []⟩, []):=by
 rw [a4S _ (by simp),b4e (by decide+kernel)];rfl
theorem c7D:B3 ⟨[C0 0,C1 0], []⟩=some (⟨[C0 0,C1 0], []⟩, [RS]):=by
 rw [a4S _ (by simp),b0W (by decide+kernel) (by decide+kernel),b7C]
theorem c3Y:a1O ⟨[], [C0 0,C1 0]⟩=some ⟨[C0 0,C1 0], []⟩:=by
 unfold a1O;rw [b0s _ (by simp)];rfl
theorem c5c:a3S=some true:=by
 unfold a3S;rw [show(⟨(⟨2,0⟩:o6),5,10,12,(⟨0,0⟩:o6),(⟨#[97,32,108,97,109,112,32,111,110,32,116,104,101,32,113,117,97,121]⟩:ByteArray)⟩:b9)=RS from rfl];rw [c5w,j3];dsimp only;rw [c2w,j3];dsimp only;rw [c3o,j3];dsimp only;rw [c7G,j3,c6T,j3];dsimp only;rw [c6t,j3,c7k,j3];dsimp only;rw [c8g,j3,c6H,j3];dsimp only;rw [c6U,j3,c7r,j3];dsimp only;rw [c3Y,j3,c7P,j3,c7D,j3];dsimp only;rw [e9 (by decide),e9 (by decide),e9 (by decide),e9 (by decide),e9 (by decide),e9 (by decide),e9 (by decide)];rw [show idx [C0 3,C1 3] 0=some (C0 3) from rfl,j3,show idx [C0 3,C1 3] 1=some (C1 3) from rfl];rw [e9 (by rw [a4d];decide+kernel),j3,e9 (by rw [a4d];decide+kernel),e9 (by rw [a4d];decide+kernel)];rw [e9 (by decide),e9 (by decide),e9 (by decide),e9 (by decide),e9 (by decide),e9 (by decide)];rfl
end Go.Proofs.YtggdlgclohnbaaaGreatDoor
namespace Go.Proofs.YtggdlgclohnbaaaGreatDoor
open Go Go.RowKit Go.Sx
open Classical in theorem pl_DepotWrites (x0 : l7) (x1 : (List b9)) (x2 : b9) (h0 : l7.G x0) (h1 : (x1.length * 72 ≤ reachBytes ∧ x1.length ≤ maxLen ∧ ∀ y : b9, y ∈ x1 → b9.G y)) (h2 : b9.G x2) (hk : x0.Thread.length + x0.Loose.length ≤ 1048576) : a0b x0 x1 x2 = some true := by
  have hrb : reachBytes ≤ 9223372036854775800 := by decide
  have hw : x1.length ≤ 9223372036854775800 := by omega
  have hts : ∀ r ∈ x1, r.Text.size ≤ 9223372036854775807 := fun r hr => by have := (h1.2.2 r hr).2.2.2.2.2; omega
  have htx : x2.Text.size ≤ 9223372036854775807 := by have := h2.2.2.2.2.2; omega
  obtain ⟨s1, s2⟩ := write_sm x0 x1 x2;unfold a0b;rw [c5c, j3, dWrite_eq x0 x1 x2 (by omega) hw hts htx, rWrite_eq x0 x1 x2 (by omega) hw hts htx];generalize (if HB x0 x1 then a0N x0 x1 x2 else ((⟨[], []⟩, [], 84) : l7 × List b9 × Int)) = z at s1 s2 ⊢
  obtain ⟨zb, zw, ze⟩ := z;dsimp only at s1 s2;simp only [j3];rw [b7K _ (by omega), b1y _ _ (by omega)];simp only [j3];rw [CheckBox_eq x0 x1 (by omega) hw hts, rCheckBox_eq x0 x1 (by omega) hw hts];unfold HB;simp
end Go.Proofs.YtggdlgclohnbaaaGreatDoor
