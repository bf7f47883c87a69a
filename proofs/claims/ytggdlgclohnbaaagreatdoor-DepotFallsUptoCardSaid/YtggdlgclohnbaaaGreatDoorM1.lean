/- What may be read at the types of the statement's parameters; plain facts. -/
import Derived.Test.YtggdlgclohnbaaaGreatDoorL2
import Derived.Test.YtggdlgclohnbaaaGreatDoorRows
set_option linter.unusedVariables false
set_option linter.unusedSimpArgs false
namespace Go.Proofs.YtggdlgclohnbaaaGreatDoor
open Go Go.RowKit Go.Sx
def c8.G (x:c8):Prop:=InK .i64 x.No∧InK .i64 x.Part∧InK .i64 x.Parts∧InK .i64 x.Size∧x.Text.size≤reachBytes
theorem c6y:D2 Tryz.prog 53 c8.c c8.G:=
 (D2.struct Tryz.underlying53 (R4.cons (s:=1) (D2.int Tryz.underlying3) (R4.cons (s:=1) (D2.int Tryz.underlying3) (R4.cons (s:=1) (D2.int Tryz.underlying3) (R4.cons (s:=1) (D2.int Tryz.underlying3) (R4.last (s:=1) (D2.str Tryz.underlying9) rfl (by kernel_rfl) rfl) rfl (by kernel_rfl)) rfl (by kernel_rfl)) rfl (by kernel_rfl)) rfl (by kernel_rfl)) (by kernel_rfl)).iso (fun x=>(⟨x.1,x.2.1,x.2.2.1,x.2.2.2.1,x.2.2.2.2⟩:c8)) (fun _=>rfl) (fun _ h=>h)
theorem c4J:D2 Tryz.prog 22 (fun l:(List c8)=> [.lst 5 l.length (l.flatMap c8.c)]) (fun l=>(l.length*48≤reachBytes∧l.length≤maxLen∧∀y:c8,y∈l→c8.G y)):=
 D2.slice Tryz.underlying22 c6y (by kernel_rfl) (by kernel_rfl) (fun _=>rfl) (fun _=>rfl) (by decide)
def m7.G (x:m7):Prop:=(x.Thread.length*48≤reachBytes∧x.Thread.length≤maxLen∧∀y:c8,y∈x.Thread→c8.G y)∧(x.Loose.length*48≤reachBytes∧x.Loose.length≤maxLen∧∀y:c8,y∈x.Loose→c8.G y)
theorem c7H:D2 Tryz.prog 24 m7.c m7.G:=
 (D2.struct Tryz.underlying24 (R4.cons (s:=1) c4J (R4.last (s:=1) c4J rfl (by kernel_rfl) rfl) rfl (by kernel_rfl)) (by kernel_rfl)).iso (fun x=>(⟨x.1,x.2⟩:m7)) (fun _=>rfl) (fun _ h=>h)
theorem c6N:D2 Tryz.prog 25 (fun l:(List Int)=> [.lst 1 l.length (l.flatMap cI)]) (fun l=>(l.length*8≤reachBytes∧l.length≤maxLen∧∀y:Int,y∈l→InK .i64 y)):=
 D2.slice Tryz.underlying25 (D2.int Tryz.underlying3) (by kernel_rfl) (by kernel_rfl) (fun _=>rfl) (fun _=>rfl) (by decide)
end Go.Proofs.YtggdlgclohnbaaaGreatDoor
namespace Go.Proofs.YtggdlgclohnbaaaGreatDoor
open Go Go.Sx
theorem a1i {z:Int} (h: -9223372036854775808≤z∧z≤9223372036854775807):W z=z:=b4v h
theorem W_s {k:Nat} (h:k<9223372036854775807):W ((k:Int)+1)=((k+1:Nat):Int):=c5r h
def b2u {α σ R:Type} (f:σ→α→Sum σ R):List α→σ→Sum σ R
 | [],s=> .inl s
 |x::l,s=>match f s x with| .inl s'=>b2u f l s'| .inr r=> .inr r
theorem b3H {α σ S E R:Type} {body:S→Option (Sum S E)} (l:List α) (hl:l.length≤9223372036854775807) (enc:Nat→σ→S) (f:σ→α→Sum σ R) (out:R→E) (fin:σ→E) (P:List α→σ→Prop)
 (h:∀pre x post s,l=pre++x::post→P pre s→body (enc pre.length s)=some (match f s x with| .inl s'=> .inl (enc (pre.length+1) s')| .inr r=> .inr (out r))∧∀s',f s x= .inl s'→P (pre++ [x]) s')
 (he:∀s,P l s→body (enc l.length s)=some (.inr (fin s))) (s0:σ) (h0:P [] s0):
 w7 body (enc 0 s0)=some (match b2u f l s0 with| .inl s=>fin s| .inr r=>out r):=by
 have key:∀(post pre:List α) (s:σ) (n:Nat),l=pre++post→P pre s→post.length<n→I0 body n (enc pre.length s)=some (match b2u f post s with| .inl s=>fin s| .inr r=>out r):=by
  intro post
  induction post with
  |nil=>
   intro pre s n hp hs hn;cases n with
   |zero=>omega
   |succ n=>
    simp only [b0g]at hp;subst hp;simp only [I0,he s hs,b2u]
  |cons x post ih=>
   intro pre s n hp hs hn;cases n with
   |zero=>omega
   |succ n=>
    obtain⟨h1,h2⟩:=h pre x post s hp hs;simp only [I0,h1,b2u];cases hf:f s x with
    |inl s'=>
     have:=ih (pre++ [x]) s' n (by simp [hp]) (h2 s' hf) (by simp at hn;omega);simpa using this
    |inr r=>rfl
 exact key l [] s0 W8 rfl h0 (by unfold W8;omega)
theorem b8G {α:Type} {pre post:List α} {x:α}:idx (pre++x::post) (pre.length:Int)=some x:=by
 unfold idx;simp
theorem c5l {α:Type} {pre post:List α} {x:α}:((pre.length:Int)<((pre++x::post).length:Int)):=by simp;omega
theorem b1R {α β S E:Type} {body:S→Option (List β×Sum S E)} (l:List α) (hl:l.length≤9223372036854775807) (enc:Nat→S) (em:α→List β) (fin:E)
 (h:∀pre x post,l=pre++x::post→body (enc pre.length)=some (em x, .inl (enc (pre.length+1))))
 (he:body (enc l.length)=some ([], .inr fin)):b0A body (enc 0)=some (l.flatMap em,fin):=by
 have key:∀(post pre:List α) (n:Nat),l=pre++post→post.length<n→a2T body n (enc pre.length)=some (post.flatMap em,fin):=by
  intro post
  induction post with
  |nil=>
   intro pre n hp hn;cases n with
   |zero=>omega
   |succ n=>
    simp only [b0g]at hp;subst hp;simp only [a2T,he,List.flatMap_nil]
  |cons x post ih=>
   intro pre n hp hn;cases n with
   |zero=>omega
   |succ n=>
    have:=ih (pre++ [x]) n (by simp [hp]) (by simp at hn;omega);simp only [N5,Z7,a6P,P2]at this;simp only [a2T,h pre x post hp,this,J1]
 exact key l [] W8 rfl (by unfold W8;omega)
def b2x {R:Type} (q:Nat→Option R):Nat→Nat→Sum Nat R
 |k,0=> .inl k
 |k,m+1=>match q k with|none=>b2x q (k+1) m|some r=> .inr r
theorem b3s {R:Type} {body:Int→Option (Sum Int (Sum Int R))} (n:Nat) (hn:n≤9223372036854775807) (q:Nat→Option R) (k:Nat) (hk:k≤n)
 (h:∀i,k≤i→i<n→body (i:Int)=some (match q i with|none=> .inl ((i+1:Nat):Int)|some r=> .inr (.inr r)))
 (he:body (n:Int)=some (.inr (.inl (n:Int)))):
 w7 body (k:Int)=some (match b2x q k (n-k)with| .inl j=> .inl (j:Int)| .inr r=> .inr r):=by
 have key:∀(m k N:Nat),k+m=n→m<N→(∀i,k≤i→i<n→body (i:Int)=some (match q i with|none=> .inl ((i+1:Nat):Int)|some r=> .inr (.inr r)))→
  I0 body N (k:Int)=some (match b2x q k m with| .inl j=> .inl (j:Int)| .inr r=> .inr r):=by
  intro m
  induction m with
  |zero=>
   intro k N hkm hN _;cases N with
   |zero=>omega
   |succ N=>
    have:k=n:=by omega
    subst this;simp only [I0,he,b2x]
  |succ m ih=>
   intro k N hkm hN hb;cases N with
   |zero=>omega
   |succ N=>
    simp only [I0,hb k (u2 _) (by omega),b2x];cases hq:q k with
    |none=>exact ih (k+1) N (by omega) (by omega) (fun i h1 h2=>hb i (by omega) h2)
    |some r=>rfl
 exact key (n-k) k W8 (by omega) (by unfold W8;omega) h
theorem a8e {R:Type} {q:Nat→Option R}:∀(m k:Nat),(∀i,k≤i→i<k+m→q i=none)→b2x q k m= .inl (k+m)
 |0,k,_=>rfl
 |m+1,k,h=>by
  simp only [b2x,h k (u2 _) (by omega)];rw [a8e m (k+1) (fun i h1 h2=>h i (by omega) (by omega))];congr 1;omega
theorem a8x {R:Type} {q:Nat→Option R}:∀(m k i:Nat),k≤i→i<k+m→q i≠none→∃j r,k≤j∧j<k+m∧q j=some r∧b2x q k m= .inr r
 |0,k,i,h1,h2,_=>by omega
 |m+1,k,i,h1,h2,h3=>by
  cases hq:q k with
  |some r=>exact⟨k,r,u2 _,by omega,hq,by simp only [b2x,hq]⟩
  |none=>
   have:k≠i:=fun e=>h3 (e▸hq)
   obtain⟨j,r,a,b,c,d⟩:=a8x m (k+1) i (by omega) (by omega) h3;exact⟨j,r,by omega,by omega,c,by simp only [b2x,hq,d]⟩
theorem c1f {body:Int→Option (Sum Int (Sum Int Bool))} (n:Nat) (hn:n≤9223372036854775807) (q:Nat→Prop) [DecidablePred q] (k:Nat) (hk:k≤n)
 (h:∀i,k≤i→i<n→body (i:Int)=some (if q i then .inl ((i+1:Nat):Int)else .inr (.inr false)))
 (he:body (n:Int)=some (.inr (.inl (n:Int)))) (ans:Bool) (hb:ans=true↔∀i,k≤i→i<n→q i):
 (w7 body (k:Int)).bind (fun e=>match e with| .inl _=>some true| .inr r=>some r)=some ans:=by
 rw [b3s n hn (fun i=>if q i then none else some false) k hk (fun i h1 h2=>by rw [h i h1 h2];by_cases hq:q i<;>simp [hq]) he]
 by_cases hall:∀i,k≤i→i<n→q i
 · rw [a8e _ _ (fun i h1 h2=>by simp [hall i h1 (by omega)])];simp only [k9,hb.2 hall]
 · have:∃i,k≤i∧i<n∧¬q i:=by
    refine Classical.byContradiction fun hn2=>hall fun i h1 h2=>Classical.byContradiction fun h3=>hn2 ⟨i,h1,h2,h3⟩
   obtain⟨i,h1,h2,h3⟩:=this;obtain⟨j,r,a,b,c,d⟩:=a8x (q:=fun i=>if q i then none else some false) (n-k) k i h1 (by omega) (by simp [h3])
   have hr:r=false:=by
    by_cases hqj:q j
    · simp [hqj]at c
    · simpa [hqj]using c.symm
   rw [d,hr];have:ans=false:=by cases ans with|true=>exact absurd (hb.1 rfl) hall|false=>rfl
   simp only [k9,this]
theorem b3g {body:Int→Option (Sum Int (Sum Int Bool))} (n:Nat) (hn:n≤9223372036854775807) (q:Nat→Prop) (k:Nat) (hk:k≤n)
 (h:∀i,k≤i→i<n→(q i∧body (i:Int)=some (.inl ((i+1:Nat):Int)))∨(¬q i∧body (i:Int)=some (.inr (.inr false))))
 (he:body (n:Int)=some (.inr (.inl (n:Int)))) (ans:Bool) (hb:ans=true↔∀i,k≤i→i<n→q i):
 (w7 body (k:Int)).bind (fun e=>match e with| .inl _=>some true| .inr r=>some r)=some ans:=by
 letI:DecidablePred q:=fun _=>Classical.propDecidable _
 exact c1f n hn q k hk (fun i h1 h2=>by rcases h i h1 h2 with⟨a,b⟩|⟨a,b⟩<;>simp only [b,a,D5,K7]) he ans hb
theorem D8 {α:Type} {p:Prop} [Decidable p] {k:Option α} (h:p):gd p k=k:=j0 h
def b1g (u:Nat):List UInt8:=if u<10 then []else Lib.decDigits (u / 10)
theorem a7N (u:Nat):Lib.decDigits u=b1g u++ [UInt8.ofNat (48+u % 10)]:=by
 unfold b1g;rw [Lib.decDigits];by_cases h:u<10
 · simp [h,Nat.mod_eq_of_lt h]
 · simp [h]
theorem c1R {u:Nat} (h:¬u<10):b1g u=b1g (u / 10)++ [UInt8.ofNat (48+u / 10 % 10)]:=by
 conv=>lhs;unfold b1g
 rw [j4 h,a7N]
theorem c2V (u:Nat) (h:u<256):a1p [IntKind.u8.wrap (u:Int)]=⟨#[UInt8.ofNat u]⟩:=by
 have:IntKind.u8.wrap (u:Int)=u:=by
  have e:IntKind.u8.wrap (u:Int)=(u:Int) % 256:=by simp [IntKind.wrap,IntKind.bits,IntKind.signed]
  rw [e];omega
 rw [this];rfl
theorem a4c (n:Int) (h0:0≤n) (h1:n≤1000000):L6 n=some (N9 n):=by
 obtain⟨u,rfl⟩:=Int.eq_ofNat_of_zero_le h0
 have hb:∀v:Nat,v≤1000000→a1p [IntKind.u8.wrap (W (48+(v:Int).tmod 10))]=⟨#[UInt8.ofNat (48+v % 10)]⟩:=fun v hv=>by
  have e:(v:Int).tmod 10=((v % 10:Nat):Int):=by rw [Int.tmod_eq_emod_of_nonneg (by omega)];rfl
  rw [e,a1i (by omega),show(48:Int)+((v % 10:Nat):Int)=((48+v % 10:Nat):Int) by omega];exact c2V _ (by omega)
 obtain⟨e,he,v,t,rfl,hv,ht⟩:=a2X (body:=a0M) (fun s=>∃(v:Nat) (t:List UInt8),s=((v:Int),⟨t.toArray⟩)∧v≤u∧Lib.decDigits u=b1g v++t∧t.length≤20+u-v) (fun s=>s.1.toNat)
  (fun e=>∃(v:Nat) (t:List UInt8),e=((v:Int),⟨t.toArray⟩)∧v<10∧Lib.decDigits u=t) (by
  rintro⟨_,_⟩ ⟨v,t,hs,hv,ht,htl⟩;cases hs;unfold a0M;by_cases hlt:v<10
  · left;refine⟨_,by dsimp only;rw [j4 (by simp only [D4];omega)],v,t,rfl,hlt, ?_⟩;rw [ht];simp [b1g,hlt]
  · right
    have e1:W ((v:Int).tdiv 10)=((v / 10:Nat):Int):=by
     rw [Int.tdiv_eq_ediv_of_nonneg (by omega),a1i (by omega)];rfl
    dsimp only;rw [j0 (by simp only [D4];omega),e1,hb _ (by omega)];refine⟨_,by rw [D8 (by simp [ByteArray.size];omega)],⟨v / 10,UInt8.ofNat (48+v / 10 % 10)::t, ?_,by omega, ?_, ?_⟩, ?_⟩
    · congr 1
    · rw [ht,c1R hlt];simp
    · simp;omega
    · simp;omega) ((u:Int),⟨#[UInt8.ofNat (48+u % 10)]⟩) ⟨u, [UInt8.ofNat (48+u % 10)],rfl,u2 _,a7N u,by simp only [List.length_singleton];omega⟩ (show((u:Int)).toNat<W8 by unfold W8;omega)
 unfold L6;rw [hb u (by omega),he];simp only [k9,N9,Lib.itoa_nonneg,ht]
theorem a5G (n lo hi:Int):y9 n lo hi=some (decide (lo≤n∧n≤hi)):=by
 unfold y9;by_cases h:lo≤n<;>simp [h]
theorem c1c (n lo hi:Int):P1 n lo hi=some (decide (lo≤n∧n≤hi)):=by
 unfold P1;by_cases h:lo≤n<;>simp [h]
def a2k (x:u0):Prop:=(0≤x.Depot∧x.Depot≤5)∧0≤x.No∧x.No≤9999
instance (x : u0) : Decidable (a2k x) := inferInstanceAs (Decidable (_ ∧ _))
theorem c0s (x:u0):S3 x=some (decide (a2k x)):=by
 unfold S3 a1o;simp only [a5G,k9];unfold a2k;by_cases h:0≤x.Depot∧x.Depot≤5
 · simp only [h,a0t,D5,M8,a0c]
 · simp only [h,a1z,N4,K7,a0Z]
theorem c0U (x:u0):a0n x=some (decide (a2k x)):=by
 unfold a0n;simp only [c1c,k9];unfold a2k;by_cases h:0≤x.Depot∧x.Depot≤5
 · simp only [h,a0t,D5,M8,a0c]
 · simp only [h,a1z,N4,K7,a0Z]
def a3K (s:ByteArray):Prop:=s.size≤160∧∀c∈s.data.toList,32≤c.toNat∧c.toNat≤126
instance (s : ByteArray) : Decidable (a3K s) := inferInstanceAs (Decidable (_ ∧ _))
theorem O6 (s:ByteArray):s.size=s.data.toList.length:=by rw [a4i];rfl
theorem c0k (s:ByteArray) (hs:s.size≤9223372036854775807):Z9 s=some (decide (a3K s)):=by
 unfold Z9;rw [D8 hs];simp only [k9];have hlen:(D0 s).length=s.size:=by unfold D0;rw [a9b,←O6]
 have key:=b3s (body:=L2 (D0 s)) (D0 s).length (by omega) (fun i=>match s.data.toList[i]? with|some c=>if 32≤c.toNat∧c.toNat≤126 then none else some false|none=>none) 0 (J2 _) (fun i _ hi=>by
  unfold L2;have hi':i<s.data.toList.length:=by rw [←O6];omega
  rw [j0 (by simpa using hi),a0r hi,k9,S1 hi']
  have e:(D0 s)[i]=((s.data.toList[i]).toNat:Int):=by simp [D0]
  rw [e,W_s (by omega)];simp only;by_cases h1:(s.data.toList[i]).toNat<32
  · rw [j0 (by simp only [D4];omega),j4 (by omega)]
  · by_cases h2:(s.data.toList[i]).toNat>126
    · rw [j4 (by simp only [D4];omega),j0 (by simp only [D4];omega),j4 (by omega)]
    · rw [j4 (by simp only [D4];omega),j4 (by simp only [D4];omega),j0 (by omega)]) (by unfold L2;rw [j4 (by simp)])
 rw [show((0:Int))=((0:Nat):Int) from rfl,key];by_cases hall:∀c∈s.data.toList,32≤c.toNat∧c.toNat≤126
 · rw [a8e _ _ fun i _ hi=>by
    have hi':i<s.data.toList.length:=by rw [←O6];omega
    rw [S1 hi'];exact j0 (hall _ (a3j hi'))]
   simp only [k9];congr 1;rw [decide_eq_decide];exact⟨fun h=>⟨by omega,hall⟩,fun h=>by have:=h.1;omega⟩
 · obtain⟨c,hc,hbad⟩:∃c∈s.data.toList,¬(32≤c.toNat∧c.toNat≤126):=by
    refine Classical.byContradiction fun h=>hall fun c hc=>Classical.byContradiction fun h2=>h ⟨c,hc,h2⟩
   obtain⟨i,hi,rfl⟩:=List.getElem_of_mem hc
   obtain⟨j,r,_,hj,hq,e⟩:=a8x (q:=fun i=>match s.data.toList[i]? with|some c=>if 32≤c.toNat∧c.toNat≤126 then none else some false|none=>none) ((D0 s).length-0) 0 i (J2 _) (by rw [hlen,O6];omega) (by
    rw [S1 hi];simp only;rw [j4 hbad];simp)
   have hr:r=false:=by
    split at hq
    · split at hq<;>simp at hq;exact hq
    · cases hq
   rw [e,hr];have:¬a3K s:=fun h=>hall h.2
   simp [this]
theorem b7e (s:ByteArray) (hs:s.size≤9223372036854775807):a1B s=some (decide (a3K s)):=by
 unfold a1B;by_cases h160:s.size≤160
 · rw [j4 (by simp only [D4];omega)]
   have key:=b3g (body:=P0 s) s.size (by omega) (fun i=>∀c,s.data.toList[i]?=some c→32≤c.toNat∧c.toNat≤126) 0 (J2 _) (fun i _ hi=>by
    unfold P0;have hi':i<s.data.toList.length:=by rw [←O6];omega
    rw [j0 (by simpa using hi),a0r hi',k9,k9,W_s (by omega)]
    have hq:(∀c,s.data.toList[i]?=some c→32≤c.toNat∧c.toNat≤126)↔32≤(s.data.toList[i]).toNat∧(s.data.toList[i]).toNat≤126:=by
     rw [S1 hi'];simp
    rw [hq];by_cases h1:(s.data.toList[i]).toNat<32
    · right;rw [j0 (by simp only [D4];omega)];exact⟨by omega,rfl⟩
    · by_cases h2:(s.data.toList[i]).toNat>126
      · right;rw [j4 (by simp only [D4];omega),j0 (by simp only [D4];omega)];exact⟨by omega,rfl⟩
      · left;rw [j4 (by simp only [D4];omega),j4 (by simp only [D4];omega)];exact⟨by omega,rfl⟩) (by unfold P0;rw [j4 (by simp)]) (decide (a3K s)) (by
    rw [decide_eq_true_iff];constructor
    · rintro⟨_,h⟩ i _ _ c hc;exact h c (a9c hc)
    · intro h;refine⟨h160,fun c hc=> ?_⟩;obtain⟨i,hi,rfl⟩:=List.getElem_of_mem hc;exact h i (J2 _) (by rw [O6];exact hi) _ (S1 hi))
   exact key
 · rw [j0 (by simp only [D4];omega)];have:¬a3K s:=fun h=>h160 h.1
   simp [this]
def B1 (r:b9):Prop:=a2k r.At∧(0≤r.Kind∧r.Kind≤60)∧(0≤r.Day∧r.Day≤100000)∧(0≤r.Known∧r.Known≤100000)∧a3K r.Text∧
 (if r.Kind=0 then r.Day=0∧r.Text=⟨#[]⟩∧a2k r.Of∧r.Of.Depot=r.At.Depot∧r.Of.No<r.At.No else r.Of=⟨0,0⟩)
instance (r : b9) : Decidable (B1 r) := by unfold B1; infer_instance
theorem a2a (a b:ByteArray):(a.toList==b.toList)=decide (a=b):=by
 rw [b0n,a0u,decide_eq_true_iff];constructor
 · intro h;have h2:a.data.toList=b.data.toList:=by rw [ByteArray.toList_eq,ByteArray.toList_eq]at h;exact h
   exact a7b (F5 h2)
 · intro h;rw [h]
theorem X8 (r:b9) (hs:r.Text.size≤9223372036854775807):o6 r=some (decide (B1 r)):=by
 unfold o6 V8;simp only [a5G,c0s,c0k _ hs,k9,a2a];unfold B1;by_cases h1:a2k r.At
 · by_cases h2:0≤r.Kind∧r.Kind≤60
   · by_cases h3:0≤r.Day∧r.Day≤100000
     · by_cases h4:0≤r.Known∧r.Known≤100000
       · by_cases h5:a3K r.Text
         · simp only [h1,h2,h3,h4,h5,a0t,a1w,N4,K7,M8,a0c];by_cases hk:r.Kind=0
           · simp only [hk,beq_self_eq_true,D5];by_cases h6:r.Day=0
             · by_cases h7:r.Text=⟨#[]⟩
               · by_cases h8:a2k r.Of
                 · by_cases h9:r.Of.Depot=r.At.Depot<;>simp [h6,h7,h8,h9]
                 · simp [h6,h7,h8]
               · simp [h6,h7]
             · simp [h6]
           · have:(r.Kind==0)=false:=by simpa using hk
             simp only [this,hk,N4,K7];congr 1;rw [b0n];simp only [A8,a0u,D4];constructor
             · rintro⟨a,b⟩;cases hof:r.Of;simp_all
             · intro h;rw [h];simp
         · simp [h1,h2,h3,h4,h5]
       · simp only [h1,h2,h3,h4,a0t,a1z,a1w,a4y,N4,K7,D5,M8,a0Z,and_false,a0c]
     · simp only [h1,h2,h3,a0t,a1z,a1w,a4y,N4,K7,D5,M8,a0Z,and_false,a0c]
   · simp only [h1,h2,a0t,a1z,a1w,a4y,N4,K7,D5,M8,a0Z,and_false,a0c]
 · simp [h1]
theorem a1P (r:b9) (hs:r.Text.size≤9223372036854775807):K6 r=some (if B1 r then 0 else 80):=by
 unfold K6;simp only [c1c,c0U,b7e _ hs,k9,a2a];unfold B1;by_cases h1:a2k r.At
 · by_cases h2:0≤r.Kind∧r.Kind≤60
   · by_cases h3:0≤r.Day∧r.Day≤100000
     · by_cases h4:0≤r.Known∧r.Known≤100000
       · by_cases h5:a3K r.Text
         · simp only [h1,h2,h3,h4,h5,a0t,a1w,N4,K7,M8,a0c];by_cases hk:r.Kind=0
           · simp only [hk,beq_self_eq_true,D5];by_cases h6:r.Day=0
             · by_cases h7:r.Text=⟨#[]⟩
               · by_cases h8:a2k r.Of
                 · by_cases h9:r.Of.Depot=r.At.Depot
                   · by_cases h10:r.Of.No<r.At.No
                     · have:¬(r.Of.No≥r.At.No):=by omega
                       simp [h6,h7,h8,h9,h10,this]
                     · have:r.Of.No≥r.At.No:=by omega
                       simp [h6,h7,h8,h9,h10,this]
                   · simp [h6,h7,h8,h9]
                 · simp [h6,h7,h8]
               · simp [h6,h7]
             · simp [h6]
           · have:(r.Kind==0)=false:=by simpa using hk
             simp only [this,hk,N4,K7];by_cases ho:r.Of=⟨0,0⟩
             · simp [ho]
             · have:((r.Of.Depot==0)&&(r.Of.No==0))=false:=by
                cases hb:((r.Of.Depot==0)&&(r.Of.No==0))with
                |false=>rfl
                |true=>
                 simp only [A8,a0u]at hb;exact absurd (by cases hof:r.Of;rw [hof]at hb;simp_all) ho
               simp [this,ho]
         · simp [h1,h2,h3,h4,h5]
       · simp only [h1,h2,h3,h4,a0t,a1z,a1w,a4y,N4,K7,D5,M8,a0Z,and_false,a0c]
     · simp only [h1,h2,h3,a0t,a1z,a1w,a4y,N4,K7,D5,M8,a0Z,and_false,a0c]
   · simp only [h1,h2,a0t,a1z,a1w,a4y,N4,K7,D5,M8,a0Z,and_false,a0c]
 · simp [h1]
def G3 (c:c8):Prop:=(0≤c.No∧c.No≤59)∧(1≤c.Parts∧c.Parts≤10)∧(0≤c.Part∧c.Part≤c.Parts-1)∧(1≤c.Size∧c.Size≤24)∧(c.Text.size:Int)=c.Size
instance (c : c8) : Decidable (G3 c) := by unfold G3; infer_instance
theorem b7k (c:c8):V5 c=some (decide (G3 c)):=by
 unfold V5;simp only [a5G,k9];unfold G3;by_cases h1:0≤c.No∧c.No≤59
 · by_cases h2:1≤c.Parts∧c.Parts≤10
   · rw [a1i (z:=c.Parts-1) (by omega)];by_cases h3:0≤c.Part∧c.Part≤c.Parts-1
     · by_cases h4:1≤c.Size∧c.Size≤24
       · simp only [h1,h2,h3,h4,a0t,D5,M8,a0c];congr 1
       · simp only [h1,h2,h3,h4,a0t,a1z,D5,N4,K7,M8,a0c,a0Z]
     · simp only [h1,h2,h3,a0t,a1z,D5,N4,K7,M8,a0c,a0Z]
   · simp only [h1,h2,a0t,a1z,D5,N4,K7,M8,a0c,a0Z]
 · simp only [h1,a1z,N4,K7,a0Z]
theorem b4a (c:c8):V9 c=some (if G3 c then 0 else 87):=by
 unfold V9;simp only [c1c,k9];unfold G3;by_cases h1:0≤c.No∧c.No≤59
 · by_cases h2:1≤c.Parts∧c.Parts≤10
   · rw [a1i (z:=c.Parts-1) (by omega)];by_cases h3:0≤c.Part∧c.Part≤c.Parts-1
     · by_cases h4:1≤c.Size∧c.Size≤24
       · simp only [h1,h2,h3,h4,a0t,a1w,N4,K7,M8,a0c];by_cases h5:(c.Text.size:Int)=c.Size<;>simp [h5]
       · simp only [h1,h2,h3,h4,a0t,a1z,a1w,a4y,D5,N4,K7,M8,a0c,a0Z]
     · simp only [h1,h2,h3,a0t,a1z,a1w,a4y,D5,N4,K7,M8,a0c,a0Z]
   · simp only [h1,h2,a0t,a1z,a1w,a4y,D5,N4,K7,M8,a0c,a0Z]
 · simp only [h1,a1z,a4y,D5,a0Z,K7]
theorem D7 (n:Int) (h0:0≤n) (h1:n≤1000000):(N9 n).size≤21:=by
 have:=Lib.itoa_length_le n (by omega) (by omega);unfold N9;rw [O6];simpa using this
theorem a4Y {r:b9} (h:B1 r):∀n∈B2 r,0≤n∧n≤100000:=by
 obtain⟨⟨⟨a1,a2⟩,a3,a4⟩,⟨b1,b2⟩,⟨c1,c2⟩,⟨d1,d2⟩,_,hif⟩:=h
 have hof:(0≤r.Of.Depot∧r.Of.Depot≤5)∧0≤r.Of.No∧r.Of.No≤9999:=by
  split at hif
  · exact hif.2.2.1
  · rw [hif];simp
 intro n hn;simp only [B2,o4,a8X,or_false]at hn;rcases hn with rfl|rfl|rfl|rfl|rfl|rfl|rfl<;>omega
theorem a0m {r:b9} (h:B1 r):r.Text.size≤160:=h.2.2.2.2.1.1
theorem a5I {r:b9} (h:B1 r):E7 r=some (R2 r):=by
 unfold E7;exact D8 ⟨fun n hn=>by have:=a4Y h n hn;omega,by have:=a0m h;omega⟩
theorem b8F (r:b9):R2 r=N9 r.At.Depot++⟨#[32]⟩++N9 r.At.No++⟨#[32]⟩++N9 r.Kind++⟨#[32]⟩++N9 r.Day++⟨#[32]⟩++N9 r.Known++⟨#[32]⟩++N9 r.Of.Depot++⟨#[32]⟩++N9 r.Of.No++⟨#[32]⟩++r.Text:=by
 apply a7b;apply F5;simp [R2,F4,B2,N9]
theorem b4C {r:b9} (h:B1 r):a2n r=some (R2 r):=by
 have hn:=a4Y h;simp only [B2,o4,a8X,or_false,forall_eq_or_imp,forall_eq]at hn;obtain⟨n1,n2,n3,n4,n5,n6,n7⟩:=hn;have t1:=a4c r.At.Depot n1.1 (by omega);have t2:=a4c r.At.No n2.1 (by omega);have t3:=a4c r.Kind n3.1 (by omega);have t4:=a4c r.Day n4.1 (by omega);have t5:=a4c r.Known n5.1 (by omega);have t6:=a4c r.Of.Depot n6.1 (by omega);have t7:=a4c r.Of.No n7.1 (by omega);have s1:=D7 r.At.Depot n1.1 (by omega);have s2:=D7 r.At.No n2.1 (by omega);have s3:=D7 r.Kind n3.1 (by omega);have s4:=D7 r.Day n4.1 (by omega);have s5:=D7 r.Known n5.1 (by omega);have s6:=D7 r.Of.Depot n6.1 (by omega);have s7:=D7 r.Of.No n7.1 (by omega);have hs:(⟨#[32]⟩:ByteArray).size=1:=rfl;have ht:=a0m h;rw [b8F];unfold a2n;rw [t1,k9,t2,t3,t4,t5,t6,t7];simp only [k9];generalize N9 r.At.Depot=x1 at s1⊢;generalize N9 r.At.No=x2 at s2⊢;generalize N9 r.Kind=x3 at s3⊢;generalize N9 r.Day=x4 at s4⊢;generalize N9 r.Known=x5 at s5⊢;generalize N9 r.Of.Depot=x6 at s6⊢;generalize N9 r.Of.No=x7 at s7⊢;generalize r.Text=x8 at ht⊢;clear t1 t2 t3 t4 t5 t6 t7 n1 n2 n3 n4 n5 n6 n7 h;generalize (⟨#[32]⟩:ByteArray)=sp at hs⊢
 iterate 14 rw [D8 (by simp only [b3Z,hs];omega)]
def DV (l:List UInt8):Nat:=l.foldl (fun a c=>10*a+(c.toNat-48)) 0
theorem b5i (l:List UInt8) (c:UInt8):DV (l++ [c])=10*DV l+(c.toNat-48):=by simp [DV]
def Dig (c:UInt8):Prop:=48≤c.toNat∧c.toNat≤57
theorem c1i {k:Nat} (h:k<10):(UInt8.ofNat (48+k)).toNat=48+k:=by simp;omega
theorem b4i (u:Nat):(∀c∈Lib.decDigits u,Dig c)∧DV (Lib.decDigits u)=u∧Lib.decDigits u≠ []:=by
 induction u using Nat.strongRecOn with
 |_ u ih=>
  rw [a7N];have h10:u % 10<10:=Nat.mod_lt _ (by omega);have hl:=c1i h10;unfold b1g;by_cases h:u<10
  · rw [j0 h];refine⟨fun c hc=> ?_, ?_,by simp⟩
    · simp only [a1q,a1t]at hc;subst hc;unfold Dig;omega
    · rw [b5i,hl];simp [DV];omega
  · rw [j4 h];obtain⟨i1,i2,_⟩:=ih (u / 10) (by omega);refine⟨fun c hc=> ?_, ?_,by simp⟩
    · rcases B4.1 hc with hc|hc
      · exact i1 c hc
      · simp only [a1t]at hc;subst hc;unfold Dig;omega
    · rw [b5i,hl,i2];omega
theorem c3I {u k:Nat} (h:u<10^k) (hk:0<k):(Lib.decDigits u).length≤k:=by
 induction k generalizing u with
 |zero=>omega
 |succ k ih=>
  rw [a7N];unfold b1g;by_cases h9:u<10
  · rw [j0 h9];simp
  · rw [j4 h9]
    have hk0:0<k:=by
     cases k with
     |zero=>simp at h;omega
     |succ k=>omega
    have:=ih (u:=u / 10) (by rw [Nat.pow_succ]at h;exact Nat.div_lt_of_lt_mul (by omega)) hk0;simp;omega
theorem c3Q {α:Type} {l:List α} {i:Nat} (h:i<l.length):idx l (i:Int)=some l[i]:=a0r h
inductive b2l (L:List UInt8) (a:Nat):Int×Int×Bool→Prop
 |found (i:Nat) (h1:a≤i) (h2:i<L.length) (h3:i<a+9) (hd:∀j (hj:j<L.length),a≤j→j<i→Dig L[j]) (hs:L[i].toNat=32):b2l L a (((DV ((L.drop a).take (i-a)):Nat):Int),((i+1:Nat):Int),decide (a<i))
 |bad (hd:∀i (hi:i<L.length),a≤i→i<a+9→(∀j (hj:j<L.length),a≤j→j<i→Dig L[j])→L[i].toNat≠32):b2l L a (0,0,false)
theorem b0q (s:ByteArray) (a:Nat) (ha:a≤s.size) (hs:s.size≤281474976710656):∃r,U0 s (a:Int)=some r∧b2l s.data.toList a r:=by
 have hL:s.data.toList.length=s.size:=(O6 s).symm;generalize hLd:s.data.toList=L at hL⊢
 obtain⟨e,he,hq⟩:=a2X (body:=V7 s (a:Int))
  (fun st=>∃i:Nat,st=(((DV ((L.drop a).take (i-a)):Nat):Int),(i:Int))∧a≤i∧i≤L.length∧i≤a+9∧(∀j (hj:j<L.length),a≤j→j<i→Dig L[j])∧DV ((L.drop a).take (i-a))<10^(i-a))
  (fun st=>(L.length:Int).toNat-st.2.toNat)
  (fun e=>match e with
   | .inl _=>b2l L a (0,0,false)
   | .inr r=>b2l L a r) (by
  rintro⟨_,_⟩ ⟨i,hst,h1,h2,h3,hd,hb⟩;cases hst;unfold V7;dsimp only;by_cases hlt:i<L.length
  · rw [j0 (by simp only [D4];omega)];by_cases h9:i<a+9
    · rw [j0 (by simp only [D4];rw [a1i (by omega)];omega),hLd,c3Q hlt,k9]
      have nobad:∀i' (hi':i'<L.length),a≤i'→i'<a+9→(∀j (hj:j<L.length),a≤j→j<i'→Dig L[j])→¬Dig L[i]→L[i].toNat≠32→L[i'].toNat≠32:=by
       intro i' hi' g1 g2 g3 g4 g5 g6;rcases Nat.lt_trichotomy i' i with h|h|h
       · have:=hd i' hi' g1 h;unfold Dig at this;omega
       · subst h;exact g5 g6
       · exact g4 (g3 i hlt h1 h)
      by_cases hsp:L[i].toNat=32
      · left;refine⟨_,by rw [j0 (by simp [hsp])], ?_⟩;have:=b2l.found i h1 hlt h9 hd hsp;rw [W_s (by omega)];have e:decide ((i:Int)>(a:Int))=decide (a<i):=by rw [decide_eq_decide];omega
        rw [e];exact this
      · rw [j4 (by simp only [a0u];omega),k9];by_cases hlo:L[i].toNat<48
        · left;refine⟨_,by rw [j0 (by simp only [D4];omega)],b2l.bad fun i' hi' g1 g2 g3=>nobad i' hi' g1 g2 g3 (fun h=>by unfold Dig at h;omega) hsp⟩
        · rw [j4 (by simp only [D4];omega),k9];by_cases hhi:L[i].toNat>57
          · left;refine⟨_,by rw [j0 (by simp only [D4];omega)],b2l.bad fun i' hi' g1 g2 g3=>nobad i' hi' g1 g2 g3 (fun h=>by unfold Dig at h;omega) hsp⟩
          · right;rw [j4 (by simp only [D4];omega),k9];have hpow:10^(i-a)≤10^8:=Nat.pow_le_pow_right (by omega) (by omega)
            have e1:IntKind.u8.wrap ((L[i].toNat:Int)-48)=((L[i].toNat-48:Nat):Int):=by
             have e:∀z:Int,IntKind.u8.wrap z=z % 256:=fun z=>by simp [IntKind.wrap,IntKind.bits,IntKind.signed]
             rw [e];omega
            have e2:DV ((L.drop a).take (i+1-a))=10*DV ((L.drop a).take (i-a))+(L[i].toNat-48):=by
             rw [show i+1-a=(i-a)+1 by omega,a3f (by simp;omega),b5i];simp only [List.getElem_drop,show a+(i-a)=i by omega]
            have e3:W (W (10*((DV ((L.drop a).take (i-a)):Nat):Int))+W (IntKind.u8.wrap ((L[i].toNat:Int)-48)))=((DV ((L.drop a).take (i+1-a)):Nat):Int):=by
             rw [e1,a1i (z:=10*_) (by omega),a1i (z:=((L[i].toNat-48:Nat):Int)) (by omega),a1i (by omega),e2];omega
            rw [e3,W_s (by omega)];refine⟨_,rfl,⟨i+1,rfl,by omega,by omega,by omega,fun j hj g1 g2=> ?_, ?_⟩, ?_⟩
            · rcases Nat.lt_or_ge j i with h|h
              · exact hd j hj g1 h
              · obtain rfl:j=i:=by omega
                unfold Dig;omega
            · rw [e2,show i+1-a=(i-a)+1 by omega,Nat.pow_succ];omega
            · simp only [a3v];omega
    · left;refine⟨_,by rw [j4 (by simp only [D4];rw [a1i (by omega)];omega)],b2l.bad fun i' hi' g1 g2 g3 h=> ?_⟩;have:=hd i' hi' g1 (by omega);unfold Dig at this;omega
  · left;refine⟨_,by rw [j4 (by simp only [D4];omega)],b2l.bad fun i' hi' g1 g2 g3 h=> ?_⟩;have:=hd i' hi' g1 (by omega);unfold Dig at this;omega) (0,(a:Int)) ⟨a,by simp [DV],u2 _,by omega,by omega,fun j hj g1 g2=>by omega,by simp [DV]⟩ (show(L.length:Int).toNat-(a:Int).toNat<W8 by unfold W8;simp only [a3v];omega)
 unfold U0;rw [he,k9];cases e with
 |inl e=>exact⟨_,rfl,hq⟩
 |inr e=>exact⟨_,rfl,hq⟩
theorem b8r (s:ByteArray) (hs:s.size≤281474976710656) (pre post:List UInt8) (u:Nat) (hu:u<100000000) (hL:s.data.toList=pre++(Lib.decDigits u++32::post)):
 U0 s (pre.length:Int)=some ((u:Int),((pre.length+(Lib.decDigits u).length+1:Nat):Int),true):=by
 have hsz:=O6 s;have hlen:=m9 List.length hL;simp only [N5,Z7]at hlen;obtain⟨d1,d2,d3⟩:=b4i u;have d4:=c3I (k:=8) (by omega) (by omega) (u:=u)
 have d5:0<(Lib.decDigits u).length:=by
  cases h:Lib.decDigits u with
  |nil=>exact absurd h d3
  |cons=>simp
 obtain⟨r,h1,h2⟩:=b0q s pre.length (by omega) hs;rw [h1]
 have hat:∀j (hj:j<s.data.toList.length),pre.length≤j→j<pre.length+(Lib.decDigits u).length→Dig s.data.toList[j]:=by
  intro j hj g1 g2
  have:s.data.toList[j]=(Lib.decDigits u)[j-pre.length]:=by
   simp only [hL];rw [List.getElem_append_right (by omega),List.getElem_append_left]
  rw [this];exact d1 _ (a3j _)
 have hsp:s.data.toList[pre.length+(Lib.decDigits u).length]'(by omega)=32:=by
  simp only [hL];rw [List.getElem_append_right (by omega),List.getElem_append_right (by omega)];simp
 cases h2 with
 |found i g1 g2 g3 hd hsi=>
  have:i=pre.length+(Lib.decDigits u).length:=by
   rcases Nat.lt_trichotomy i (pre.length+(Lib.decDigits u).length)with h|h|h
   · have:=hat i g2 g1 h;unfold Dig at this;omega
   · exact h
   · have:=hd _ (by omega) (by omega) h;rw [hsp]at this;unfold Dig at this;simp at this
  subst this
  have e:(s.data.toList.drop pre.length).take (pre.length+(Lib.decDigits u).length-pre.length)=Lib.decDigits u:=by
   rw [hL,List.drop_left,Nat.add_sub_cancel_left,List.take_left]
  rw [e,d2];simp [d5]
 |bad hb=>
  exact absurd (by rw [hsp];rfl) (hb (pre.length+(Lib.decDigits u).length) (by omega) (by omega) (by omega) fun j hj g1 g2=>hat j hj g1 g2)
theorem U5 {S E:Type} {body:S→Option (Sum S E)} (st:Nat→S) (n:Nat) (hn:n≤9223372036854775807) (fin:E) (h:∀k,k<n→body (st k)=some (.inl (st (k+1)))) (he:body (st n)=some (.inr fin)):w7 body (st 0)=some fin:=by
 have key:∀(m k N:Nat),k+m=n→m<N→I0 body N (st k)=some fin:=by
  intro m
  induction m with
  |zero=>
   intro k N hk hN;cases N with
   |zero=>omega
   |succ N=>
    obtain rfl:k=n:=by omega
    simp only [I0,he]
  |succ m ih=>
   intro k N hk hN;cases N with
   |zero=>omega
   |succ N=>
    simp only [I0,h k (by omega)];exact ih (k+1) N (by omega) (by omega)
 exact key n 0 W8 (by omega) (by unfold W8;omega)
theorem a5B (r:b9):(R2 r).data.toList=F4 (B2 r)++r.Text.data.toList:=by
 unfold R2;rw [ByteArray.data_append];simp
theorem c1A (ns:List Int) (k:Nat) (hk:k<ns.length):F4 ns=F4 (ns.take k)++(Lib.itoa ns[k]++32::F4 (ns.drop (k+1))):=by
 have e:ns=ns.take k++ns[k]::ns.drop (k+1):=by rw [←b1x hk,b2D]
 have e2:F4 ns=F4 (ns.take k++ns[k]::ns.drop (k+1)):=by rw [←e]
 rw [e2];unfold F4;rw [List.flatMap_append,J1];simp
theorem b8h (ns:List Int) (k:Nat) (hk:k<ns.length):(F4 (ns.take (k+1))).length=(F4 (ns.take k)).length+(Lib.itoa ns[k]).length+1:=by
 rw [a3f hk,b2L];simp;omega
theorem a1d {r:b9} (h:B1 r):(R2 r).size≤400:=by
 have hn:=a4Y h;simp only [B2,o4,a8X,or_false,forall_eq_or_imp,forall_eq]at hn;obtain⟨n1,n2,n3,n4,n5,n6,n7⟩:=hn;have s1:=D7 r.At.Depot n1.1 (by omega);have s2:=D7 r.At.No n2.1 (by omega);have s3:=D7 r.Kind n3.1 (by omega);have s4:=D7 r.Day n4.1 (by omega);have s5:=D7 r.Known n5.1 (by omega);have s6:=D7 r.Of.Depot n6.1 (by omega);have s7:=D7 r.Of.No n7.1 (by omega);have hs:(⟨#[32]⟩:ByteArray).size=1:=rfl;have ht:=a0m h;rw [b8F];generalize N9 r.At.Depot=x1 at s1⊢;generalize N9 r.At.No=x2 at s2⊢;generalize N9 r.Kind=x3 at s3⊢;generalize N9 r.Day=x4 at s4⊢;generalize N9 r.Known=x5 at s5⊢;generalize N9 r.Of.Depot=x6 at s6⊢;generalize N9 r.Of.No=x7 at s7⊢;generalize r.Text=x8 at ht⊢;generalize (⟨#[32]⟩:ByteArray)=sp at hs⊢;simp only [b3Z,hs];omega
theorem c2h {r:b9} (h:B1 r) (k:Nat) (hk':k<(B2 r).length):U0 (R2 r) (((F4 ((B2 r).take k)).length:Nat):Int)=some ((B2 r)[k],(((F4 ((B2 r).take (k+1))).length:Nat):Int),true):=by
 have hn:=a4Y h _ (a3j hk');obtain⟨u,hu⟩:=Int.eq_ofNat_of_zero_le hn.1;have hl:=a5B r;rw [c1A _ k hk',a1N,a1N]at hl;rw [hu,Lib.itoa_nonneg]at hl;have:=b8r (R2 r) (by have:=a1d h;omega) (F4 ((B2 r).take k)) (F4 ((B2 r).drop (k+1))++r.Text.data.toList) u (by omega) (by rw [hl];simp);rw [this,b8h _ k hk',hu,Lib.itoa_nonneg]
theorem c1C {r:b9}:(R2 r).extract (F4 (B2 r)).length (R2 r).size=r.Text:=by
 apply a7b;apply F5;rw [ByteArray.data_extract];have hl:=a5B r;simp only [Array.toList_extract,List.extract_eq_take_drop,hl,List.drop_left];rw [b1n];rw [O6,hl];simp
def zR:b9:=⟨⟨0,0⟩,0,0,0,⟨0,0⟩,⟨#[]⟩⟩
def stQ (r:b9):Nat→Int×Int×Int×Int×Int×Int×Int×Int×Int
 |0=>(0,0,0,0,0,0,0,0,0)
 |1=>((((F4 ((B2 r).take 1)).length:Nat):Int),1,r.At.Depot,0,0,0,0,0,0)
 |2=>((((F4 ((B2 r).take 2)).length:Nat):Int),2,r.At.Depot,r.At.No,0,0,0,0,0)
 |3=>((((F4 ((B2 r).take 3)).length:Nat):Int),3,r.At.Depot,r.At.No,r.Kind,0,0,0,0)
 |4=>((((F4 ((B2 r).take 4)).length:Nat):Int),4,r.At.Depot,r.At.No,r.Kind,r.Day,0,0,0)
 |5=>((((F4 ((B2 r).take 5)).length:Nat):Int),5,r.At.Depot,r.At.No,r.Kind,r.Day,r.Known,0,0)
 |6=>((((F4 ((B2 r).take 6)).length:Nat):Int),6,r.At.Depot,r.At.No,r.Kind,r.Day,r.Known,r.Of.Depot,0)
 |_=>((((F4 (B2 r)).length:Nat):Int),7,r.At.Depot,r.At.No,r.Kind,r.Day,r.Known,r.Of.Depot,r.Of.No)
theorem b6E {r:b9} (h:B1 r):O5 (R2 r)=some (r,0):=by
 have hz:=a1d h;have A:=fun k hk=>c2h h k hk
 have hl:(B2 r).length=7:=rfl;have a0:=A 0 (by omega);have a1:=A 1 (by omega);have a2:=A 2 (by omega);have a3:=A 3 (by omega);have a4:=A 4 (by omega);have a5:=A 5 (by omega);have a6:=A 6 (by omega);clear A;have e0:(((F4 ((B2 r).take 0)).length:Nat):Int)=0:=by simp [F4]
 rw [e0]at a0;have e7:(B2 r).take (6+1)=B2 r:=by simp [B2]
 rw [e7]at a6;simp only [P2,Nat.reduceAdd]at a0 a1 a2 a3 a4 a5 a6
 have hloop:w7 (u6 (R2 r)) (stQ r 0)=some (.inl (stQ r 7)):=U5 (stQ r) 7 (by omega) _ (fun k hk=>by
  match k,hk with
  |0,_=>
   simp only [stQ];unfold u6;dsimp only;rw [j0 (by decide),a0,show W (0+1)=1 from rfl];simp [gd,idx,B2]
  |1,_=>
   simp only [stQ];unfold u6;dsimp only;rw [j0 (by decide),a1,show W (1+1)=2 from rfl];simp [gd,idx,B2]
  |2,_=>
   simp only [stQ];unfold u6;dsimp only;rw [j0 (by decide),a2,show W (2+1)=3 from rfl];simp [gd,idx,B2]
  |3,_=>
   simp only [stQ];unfold u6;dsimp only;rw [j0 (by decide),a3,show W (3+1)=4 from rfl];simp [gd,idx,B2]
  |4,_=>
   simp only [stQ];unfold u6;dsimp only;rw [j0 (by decide),a4,show W (4+1)=5 from rfl];simp [gd,idx,B2]
  |5,_=>
   simp only [stQ];unfold u6;dsimp only;rw [j0 (by decide),a5,show W (5+1)=6 from rfl];simp [gd,idx,B2]
  |6,_=>
   simp only [stQ];unfold u6;dsimp only;rw [j0 (by decide),a6,show W (6+1)=7 from rfl];simp [gd,idx,B2]) (by
  simp only [stQ];unfold u6;dsimp only;rw [j4 (by decide)])
 unfold O5;rw [show((0,0,0,0,0,0,0,0,0):Int×Int×Int×Int×Int×Int×Int×Int×Int)=stQ r 0 from rfl,hloop,k9];simp only [stQ];have hsz:(F4 (B2 r)).length≤(R2 r).size:=by rw [O6,a5B];simp
 rw [D8 (by omega),a3v,c1C];have hr:(⟨⟨r.At.Depot,r.At.No⟩,r.Kind,r.Day,r.Known,⟨r.Of.Depot,r.Of.No⟩,r.Text⟩:b9)=r:=rfl;rw [hr,a1P r (by have:=a0m h;omega),j0 h,k9,j4 (by decide),b4C h,k9,a2a];simp
theorem b7C (s:ByteArray) (hs:s.size≤281474976710656) (h:∀r,B1 r→R2 r≠s):O5 s=some (zR,5):=by
 obtain⟨e,he,hq⟩:=a2X (body:=u6 s) (fun st=>∃a i:Nat,st.1=(a:Int)∧a≤s.size∧st.2.1=(i:Int)∧i≤7) (fun st=>7-st.2.1.toNat)
  (fun e=>match e with| .inl st=>∃a:Nat,st.1=(a:Int)∧a≤s.size| .inr r=>r=(zR,5)) (by
  rintro⟨_,_,v1,v2,v3,v4,v5,v6,v7⟩ ⟨a,i,h1,ha,h2,hi⟩;dsimp only at h1 h2;subst h1 h2;unfold u6;dsimp only;by_cases h7:i<7
  · rw [j0 (by simp only [D4];omega)];obtain⟨r,hr,hne⟩:=b0q s a ha hs;rw [hr,k9];cases hne with
    |found j g1 g2 g3 hd hsp=>
     dsimp only;by_cases hlt:a<j
     · right;rw [decide_eq_true hlt,j4 (by decide),D8 (by omega)];have hidx:∃x,idx [v1,v2,v3,v4,v5,v6,v7] (i:Int)=some x:=⟨_,a0r (by simpa using h7)⟩
       obtain⟨x,hx⟩:=hidx;rw [hx];simp only [k9];rw [W_s (by omega)];refine⟨_,rfl,⟨j+1,i+1,rfl, ?_,rfl,by omega⟩, ?_⟩
       · rw [O6];omega
       · simp only [a3v];omega
     · left;rw [decide_eq_false hlt,j0 (by decide)];exact⟨_,rfl,rfl⟩
    |bad hb=>
     left;exact⟨_,rfl,rfl⟩
  · left;rw [j4 (by simp only [D4];omega)];exact⟨_,rfl,a,rfl,ha⟩) (0,0,0,0,0,0,0,0,0) ⟨0,0,rfl,J2 _,rfl,by omega⟩ (show 7-(0:Int).toNat<W8 by unfold W8;omega)
 unfold O5;rw [he,k9];cases e with
 |inr e=>rw [hq]
 |inl st=>
  obtain⟨a',i',v1,v2,v3,v4,v5,v6,v7⟩:=st;obtain⟨a,h1,ha⟩:=hq;dsimp only at h1;subst h1;dsimp only;rw [D8 (by omega),a3v];have hx:(s.extract a s.size).size≤9223372036854775807:=by rw [ByteArray.size_extract];omega
  generalize hR:(⟨⟨v1,v2⟩,v3,v4,v5,⟨v6,v7⟩,s.extract a s.size⟩:b9)=R;have hT:R.Text.size≤9223372036854775807:=by rw [←hR];exact hx
  rw [a1P R hT,k9];by_cases hok:B1 R
  · rw [j0 hok,j4 (by decide),b4C hok,k9,a2a];have:=h R hok;rw [j0 (by simpa using this)];rfl
  · rw [j4 hok,j0 (by decide)];rfl
theorem b6R:∀(d post:List UInt8),(∀c∈d,c≠32)→Lib.indexByte (d++32::post) 32=d.length
 | [],post,_=>by simp [Lib.indexByte]
 |c::d,post,h=>by
  have ih:=b6R d post fun x hx=>h x (B3 _ hx)
  have hc:=h c H6;simp only [R3,Lib.indexByte,ih];rw [j4 (by simpa using hc),j4 (by simp)]
  simp
theorem b0p:∀(l:List UInt8) (acc:Nat) (c:UInt8),Lib.parseUint10 acc (l++ [c])=match Lib.parseUint10 acc l with| .ok a=>Lib.parseUint10 a [c]|e=>e
 | [],acc,c=>rfl
 |x::l,acc,c=>by
  simp only [R3,Lib.parseUint10];split
  · split
    · rfl
    · split
      · rfl
      · exact b0p l _ c
  · rfl
theorem c0w (u:Nat) (hu:u<1000000000000000000):Lib.parseUint10 0 (Lib.decDigits u)= .ok u:=by
 induction u using Nat.strongRecOn with
 |_ u ih=>
  have h10:u % 10<10:=Nat.mod_lt _ (by omega);have hl:=c1i h10;rw [a7N,b0p]
  have hp:Lib.parseUint10 0 (b1g u)= .ok (u / 10):=by
   unfold b1g;by_cases h:u<10
   · rw [j0 h,Nat.div_eq_of_lt h];rfl
   · rw [j4 h];exact ih _ (by omega) (by omega)
  rw [hp];simp only [Lib.parseUint10,hl];rw [j0 (by omega),j4 (by omega),j4 (by omega)];congr 1;omega
theorem c2W (u:Nat) (hu:u<1000000000000000000):Lib.atoiAll (Lib.decDigits u)= .ok (u:Int):=by
 obtain⟨d1,_,d3⟩:=b4i u;have hp:=c0w u hu;cases hd:Lib.decDigits u with
 |nil=>exact absurd hd d3
 |cons c r=>
  have hc:Dig c:=d1 c (by rw [hd];exact H6);unfold Dig at hc;unfold Lib.atoiAll Lib.parseMag;rw [hd]at hp;simp only;rw [j4 (show¬(c.toNat=43∨c.toNat=45) by omega),j4 (by simp),hp];simp only;rw [j4 (by omega),j4 (by omega),j4 (by omega)]
theorem c4e (s:ByteArray) (u:Nat) (hu:u<1000000000000000000) (post:List UInt8) (hs:s.data.toList=Lib.decDigits u++32::post):b2e s=some ((u:Int),⟨post.toArray⟩):=by
 obtain⟨d1,_,d3⟩:=b4i u;have hi:=b6R (Lib.decDigits u) post fun c hc e=>by have:=d1 c hc;subst e;unfold Dig at this;simp at this
 have hsz:=O6 s;have hlen:=m9 List.length hs;simp only [N5,Z7]at hlen;unfold b2e a4J;rw [hs,hi,j0 (by omega)]
 have e1:(s.extract 0 (Lib.decDigits u).length).data.toList=Lib.decDigits u:=by
  rw [ByteArray.data_extract];simp only [Array.toList_extract,List.extract_eq_take_drop,hs,List.drop_zero,a6k,List.take_left]
 have e2:s.extract ((Lib.decDigits u).length+1) s.size=⟨post.toArray⟩:=by
  apply a7b;apply F5;rw [ByteArray.data_extract];simp only [Array.toList_extract,List.extract_eq_take_drop,hs];rw [show(Lib.decDigits u).length+1=(Lib.decDigits u++ [32]).length by simp,show Lib.decDigits u++32::post=(Lib.decDigits u++ [32])++post by simp,List.drop_left,b1n (by simp;omega)]
 simp only [a3v,e1,c2W u hu,e2]
theorem b9y {r:b9} (h:B1 r):∀k,k≤7→a4M k (R2 r)=some ((B2 r).take k,⟨(F4 ((B2 r).drop k)++r.Text.data.toList).toArray⟩)
 |0,_=>by
  simp only [a4M,a7I,List.drop_zero];congr 2
 |k+1,hk=>by
  have hk':k<(B2 r).length:=hk;have hn:=a4Y h _ (a3j hk');obtain⟨u,hu⟩:=Int.eq_ofNat_of_zero_le hn.1;simp only [a4M,b9y h k (by omega)]
  have:=c4e ⟨(F4 ((B2 r).drop k)++r.Text.data.toList).toArray⟩ u (by omega) (F4 ((B2 r).drop (k+1))++r.Text.data.toList) (by
   rw [b1x hk',hu];simp only [F4,J1,Lib.itoa_nonneg];simp)
  rw [this];simp only;rw [a3f hk',hu]
theorem b4c {r:b9} (h:B1 r):E8 (R2 r)=some (r,true):=by
 have hz:=a1d h;unfold E8;rw [D8 (by omega),b9y h 7 (u2 _)];have e1:(B2 r).take 7=B2 r:=rfl
 have e2:(⟨(F4 ((B2 r).drop 7)++r.Text.data.toList).toArray⟩:ByteArray)=r.Text:=by
  apply a7b;apply F5;simp [B2,F4]
 have e3:b0E (B2 r) r.Text=r:=rfl;simp only [e1,e2,e3];rw [X8 r (by have:=a0m h;omega),k9,j0 (by simpa using h),a5I h,k9,a2a]
 simp
theorem c5q (s:ByteArray) (hs:s.size≤281474976710656) (h:∀r,B1 r→R2 r≠s):E8 s=some (zR,false):=by
 unfold E8;rw [D8 hs];cases hd:a4M 7 s with
 |none=>rfl
 |some p=>
  obtain⟨l,t⟩:=p;have ht:=(a4Z hd).2;simp only;have hT:(b0E l t).Text.size≤9223372036854775807:=by show t.size≤_;omega
  rw [X8 _ hT,k9];by_cases hok:B1 (b0E l t)
  · rw [j0 (by simpa using hok),a5I hok,k9,a2a]
    have:=h _ hok;rw [j4 (by simpa using this)];rfl
  · rw [j4 (by simpa using hok)];rfl
def J5 (n:Nat):Nat:=(n+23) / 24
def a8h (s:ByteArray) (i:Nat):ByteArray:=s.extract (24*i) (min s.size (24*(i+1)))
def b6n (s:ByteArray) (no:Int) (i:Nat):c8:=⟨no,(i:Int),((J5 s.size:Nat):Int),((a8h s i).size:Int),a8h s i⟩
def a4b (s:ByteArray) (no:Int):List c8:=(List.range (J5 s.size)).map (b6n s no)
theorem a3S (s:ByteArray) (no:Int):(a4b s no).length=J5 s.size:=by simp [a4b]
theorem a3o {n:Nat} (h:n≤400):J5 n≤17:=by unfold J5;omega
theorem b9T {r:b9} (h:B1 r) (no:Int):a2s r no=some (a4b (R2 r) no):=by
 have hz:=a1d h;unfold a2s;rw [b4C h,k9];generalize R2 r=s at hz⊢;have hP:J5 s.size≤17:=a3o hz
 have eP:W ((W ((W ((s.size:Int)+24))-1)).tdiv 24)=((J5 s.size:Nat):Int):=by
  rw [a1i (z:=(s.size:Int)+24) (by omega),a1i (z:=(s.size:Int)+24-1) (by omega),Int.tdiv_eq_ediv_of_nonneg (by omega)];unfold J5;rw [a1i (by omega)];omega
 have key:=U5 (body:=M6 no s) (fun k=>(((List.range k).map (b6n s no)),(k:Int))) (J5 s.size) (by omega) (((List.range (J5 s.size)).map (b6n s no)),((J5 s.size:Nat):Int)) (fun k hk=>by
  have hk24:24*k<s.size:=by unfold J5 at hk;omega
  unfold M6;dsimp only;rw [eP,j0 (by simp only [D4];omega)];have e1:W ((k:Int)*24)=((24*k:Nat):Int):=by rw [a1i (by omega)];omega
  have e2:W (W ((k:Int)+1)*24)=((24*(k+1):Nat):Int):=by rw [W_s (by omega),a1i (by omega)];omega
  have e3:(if((24*(k+1):Nat):Int)<(s.size:Int)then((24*(k+1):Nat):Int)else(s.size:Int))=((min s.size (24*(k+1)):Nat):Int):=by
   split<;>omega
  rw [e1,e2,e3,D8 (by omega),a3v,a3v,D8 (by simp;omega),W_s (by omega)];congr 3;rw [List.range_succ,List.map_append];rfl) (by
  unfold M6;dsimp only;rw [eP,j4 (by simp)])
 have key2:w7 (M6 no s) ([],0)=_:=key;rw [key2,k9];rfl
theorem b7R (l:List UInt8):(l.map fun b=>(b.toNat:Int)).map (fun n=>UInt8.ofNat n.toNat)=l:=by
 rw [List.map_map]
 conv=>rhs;rw [←List.map_id l]
 apply List.map_congr_left;intro c _;simp
theorem b9Q (s:ByteArray) (a b:Nat):a1p (sub (D0 s) a b)=s.extract a b:=by
 apply a7b;apply F5;unfold a1p D0 sub;rw [ByteArray.data_extract,←List.map_drop,←List.map_take];simp only [b7R,Array.toList_extract,List.extract_eq_take_drop]
theorem b5Y (s:ByteArray) (a b:Nat) (h:b≤s.size):(sub (D0 s) a b).length=b-a:=by
 have:(D0 s).length=s.size:=by unfold D0;rw [a9b,←O6]
 unfold sub;simp;omega
theorem b9K {n:Nat} {pre post:List Nat} {x:Nat} (h:List.range n=pre++x::post):x=pre.length∧pre.length<n:=by
 have h1:(List.range n)[pre.length]?=some x:=by rw [h];simp
 have h2:=M5.1 h1;obtain⟨g1,g2⟩:=h2;simp at g1 g2;exact⟨g2.symm,g1⟩
theorem c3m (s:ByteArray) (hz:s.size≤400):C8 (D0 s) 24=some ((List.range (J5 s.size)).map fun i=>sub (D0 s) (24*i) (min s.size (24*(i+1))),()):=by
 have hb:(D0 s).length=s.size:=by unfold D0;rw [a9b,←O6]
 have hP:J5 s.size≤17:=a3o hz;unfold C8
 have key:=b1R (body:=r7 (D0 s) 24) (List.range (J5 s.size)) (by simp;omega) (fun k=>((24*k:Nat):Int)) (fun i=> [sub (D0 s) (24*i) (min s.size (24*(i+1)))]) ((24*J5 s.size:Nat):Int) (fun pre x post hx=>by
  obtain⟨rfl,hlt⟩:=b9K hx;generalize pre.length=k at hlt⊢;have hk24:24*k<s.size:=by unfold J5 at hlt;omega
  unfold r7;rw [j0 (by simp only [D4];omega),D8 (by omega),k9,a3v];have hl:(sub (D0 s) (24*k) (D0 s).length).length=s.size-24*k:=by rw [hb];exact b5Y s _ _ (u2 _)
  have e:W (((24*k:Nat):Int)+(if((sub (D0 s) (24*k) (D0 s).length).length:Int)<24 then((sub (D0 s) (24*k) (D0 s).length).length:Int)else 24))=((min s.size (24*(k+1)):Nat):Int):=by
   rw [hl];split
   · rw [a1i (by omega)];omega
   · rw [a1i (by omega)];omega
  rw [e,D8 (by omega),k9,a3v];have e2:W (((24*k:Nat):Int)+24)=((24*(k+1):Nat):Int):=by rw [a1i (by omega)];omega
  rw [e2];rfl) (by
  unfold r7;rw [List.length_range,j4 (by simp only [D4];unfold J5;omega)])
 have key2:b0A (r7 (D0 s) 24) 0=_:=key;rw [key2];simp [b3K,List.flatMap_singleton']
 induction List.range (J5 s.size)with
 |nil=>rfl
 |cons x l ih=>simp [ih]
def b4t (no:Int):Nat→List (List Int)→List c8
 |_, []=> []
 |k,y::l=>⟨no,(k:Int),0,(y.length:Int),a1p y⟩::b4t no (k+1) l
theorem c2n (no:Int):∀(l:List (List Int)) (acc:List c8),acc.length+l.length≤1000→J4 (U6 no) l acc=some (.inl (acc++b4t no acc.length l))
 | [],acc,_=>by simp [J4,b4t]
 |y::l,acc,h=>by
  simp only [Z7]at h;simp only [J4,U6];rw [D8 (by simp;omega)];simp only;rw [c2n no l _ (by simp;omega)];simp [b4t]
theorem a9U (no:Int):∀(l:List (List Int)) (k:Nat),(b4t no k l).length=l.length
 | [],_=>rfl
 |y::l,k=>by simp [b4t,a9U no l]
theorem b9w (no:Int):∀(l:List (List Int)) (k i:Nat) (h:i<l.length),(b4t no k l)[i]?=some ⟨no,((k+i:Nat):Int),0,(l[i].length:Int),a1p l[i]⟩
 |y::l,k,0,h=>by simp [b4t]
 |y::l,k,i+1,h=>by
  simp only [b4t,List.getElem?_cons_succ,List.getElem_cons_succ];rw [b9w no l (k+1) i (by simpa using h)]
  congr 2;omega
theorem c3o (v:List c8) (hv:v.length≤1000):w7 (H7 v) (0,v)=some ((v.length:Int),v.map fun c=>⟨c.No,c.Part,(v.length:Int),c.Size,c.Text⟩):=by
 have key:=U5 (body:=H7 v) (fun k=>((k:Int),(v.take k).map (fun c=>(⟨c.No,c.Part,(v.length:Int),c.Size,c.Text⟩:c8))++v.drop k)) v.length (by omega) ((v.length:Int),v.map fun c=>⟨c.No,c.Part,(v.length:Int),c.Size,c.Text⟩) (fun k hk=>by
  unfold H7;dsimp only;rw [j0 (by simp only [D4];omega)];have hlen:((v.take k).map (fun c=>(⟨c.No,c.Part,(v.length:Int),c.Size,c.Text⟩:c8))++v.drop k).length=v.length:=by simp;omega
  have hidx:idx ((v.take k).map (fun c=>(⟨c.No,c.Part,(v.length:Int),c.Size,c.Text⟩:c8))++v.drop k) (k:Int)=some v[k]:=by
   rw [a0r (by omega)];rw [List.getElem_append_right (by simp;omega)];simp [a1Z (a1V hk)]
  rw [hidx,k9,k9,W_s (by omega),hlen,a3v];congr 3;rw [List.set_append_right _ _ (by simp;omega)];simp only [a9b,a1v,a1Z (a1V hk),Nat.sub_self];rw [b1x hk,List.set_cons_zero,a3f hk,List.map_append,a1N];rfl) (by
  unfold H7;dsimp only;rw [j4 (by simp),a5Y,List.drop_length,b0g])
 rw [a7I,List.drop_zero,a5X,a1q]at key;exact key
theorem a8r {r:b9} (h:B1 r) (no:Int):P3 r no=some (a4b (R2 r) no):=by
 have hz:=a1d h;unfold P3 M2;rw [a5I h,k9];generalize R2 r=s at hz⊢;have hP:J5 s.size≤17:=a3o hz;rw [D8 (by omega),k9,j4 (by decide),k9];dsimp only;rw [c3m s hz,k9];dsimp only;rw [c2n no _ _ (by simp;omega),k9];dsimp only;rw [c3o _ (by simp [a9U];omega),k9];dsimp only;congr 1;apply List.ext_getElem?;intro i;simp only [a1q,List.getElem?_map,a6P];by_cases hi:i<J5 s.size
 · rw [b9w no _ 0 i (by simpa using hi)]
   simp only [a4b,List.getElem?_map,List.getElem_map,List.getElem_range,List.getElem?_range hi,a3k,a9U,a9b,List.length_range,P2];congr 1;unfold b6n;have hb:=b9Q s (24*i) (min s.size (24*(i+1)));have hl:=b5Y s (24*i) (min s.size (24*(i+1))) (by omega);have hl2:(a8h s i).size=min s.size (24*(i+1))-24*i:=by unfold a8h;rw [ByteArray.size_extract];omega
   rw [hb,hl,hl2];rfl
 · rw [a8Y (by simp [a9U];omega),a8Y (by rw [a3S];omega)];rfl
theorem b5s (a b:c8):((a.No==b.No)&&((a.Part==b.Part)&&((a.Parts==b.Parts)&&((a.Size==b.Size)&&(a.Text.toList==b.Text.toList)))))=decide (a=b):=by
 rw [b0n,a2a];simp only [A8,a0u,D4];cases a;cases b;simp
theorem c3T (a b:b9):((a.At.Depot==b.At.Depot)&&((a.At.No==b.At.No)&&((a.Kind==b.Kind)&&((a.Day==b.Day)&&((a.Known==b.Known)&&((a.Of.Depot==b.Of.Depot)&&((a.Of.No==b.Of.No)&&(a.Text.toList==b.Text.toList))))))))=decide (a=b):=by
 rw [b0n,a2a];simp only [A8,a0u,D4];obtain⟨⟨a1,a2⟩,a3,a4,a5,⟨a6,a7⟩,a8⟩:=a;obtain⟨⟨b1,b2⟩,b3,b4,b5,⟨b6,b7⟩,b8⟩:=b;simp [and_assoc]
theorem b3F {α:Type} [DecidableEq α] {body:(Bool×Int)→Option (Sum (Bool×Int) (Bool×Int))} (a b:List α) (hl:a.length≤9223372036854775800)
 (h1:∀(i:Nat) (hi:i<a.length) (hj:i<b.length),body (true,(i:Int))=some (.inl (decide (a[i]=b[i]),((i+1:Nat):Int))))
 (h2:∀i:Nat,body (false,(i:Int))=some (.inr (false,(i:Int)))) (h3:body (true,(a.length:Int))=some (.inr (true,(a.length:Int)))):
 Option.bind (w7 body (((a.length:Int)==(b.length:Int)),0)) (fun(x:Bool×Int)=>match x with|(same,_)=>some same)=some (decide (a=b)):=by
 by_cases hab:a.length=b.length
 · obtain⟨e,he,i,rfl⟩:=a2X (body:=body) (fun st=>∃(i:Nat),i≤a.length∧st.2=(i:Int)∧(st.1=true→a.take i=b.take i)∧(st.1=false→a≠b)) (fun st=>2*a.length+2-(2*st.2.toNat+if st.1 then 0 else 1))
    (fun e=>∃i:Int,e=(decide (a=b),i)) (by
    rintro⟨s,_⟩ ⟨i,hi,rfl,ht,hf⟩;cases s with
    |false=>
     left;refine⟨_,h2 i,i, ?_⟩;have:=hf rfl;simp [this]
    |true=>
     have ht:=ht rfl;rcases Nat.lt_or_ge i a.length with h|h
     · right;refine⟨_,h1 i h (by omega),⟨i+1,h,rfl,fun hd=> ?_,fun hd e=> ?_⟩, ?_⟩
       · rw [a3f h,a3f (by omega),ht,of_decide_eq_true hd]
       · subst e;simp at hd
       · simp only [a3v];split<;>simp<;>omega
     · left;obtain rfl:i=a.length:=by omega
       refine⟨_,h3,(a.length:Int), ?_⟩
       have:a=b:=by
        rw [a5Y,hab,a5Y]at ht;exact ht
       simp [this]) (((a.length:Int)==(b.length:Int)),0) ⟨0,J2 _,rfl,fun _=>rfl,fun h=>by rw [hab]at h;simp at h⟩ (by unfold W8;simp only;omega)
   rw [he];rfl
 · have e:((a.length:Int)==(b.length:Int))=false:=by rw [beq_eq_false_iff_ne];omega
   rw [e]
   have:w7 body (false,0)=some (false,0):=by
    have:=U5 (body:=body) (fun _=>(false,(0:Int))) 0 (by omega) (false,0) (fun k hk=>by omega) (h2 0);exact this
   rw [this];have hne:a≠b:=fun e=>hab (by rw [e])
   simp [hne]
theorem a7M (a b:List c8) (hl:a.length≤9223372036854775800):O9 a b=some (decide (a=b)):=by
 unfold O9;refine b3F a b hl (fun i hi hj=> ?_) (fun i=> ?_) ?_
 · unfold I5;dsimp only;rw [j0 (by simp only [D4];omega),j0 rfl,a0r hi,a0r hj,k9,k9,b5s,W_s (by omega)]
 · unfold I5;dsimp only;split<;>rfl
 · unfold I5;dsimp only;rw [j4 (by simp)]
theorem b1D (a b:List b9) (hl:a.length≤9223372036854775800):P9 a b=some (decide (a=b)):=by
 unfold P9;refine b3F a b hl (fun i hi hj=> ?_) (fun i=> ?_) ?_
 · unfold F6;dsimp only;rw [j0 (by simp only [D4];omega),j0 rfl,a0r hi,a0r hj,k9,k9,c3T,W_s (by omega)]
 · unfold F6;dsimp only;split<;>rfl
 · unfold F6;dsimp only;rw [j4 (by simp)]
theorem c2Q (a b:List c8) (hl:a.length≤9223372036854775800):A2 a b=some (decide (a=b)):=by
 unfold A2;by_cases hab:a.length=b.length
 · rw [j4 (by simp [hab])];refine b3g a.length (by omega) (fun i=>a[i]?=b[i]?) 0 (J2 _) (fun i _ hi=> ?_) ?_ _ ?_
   · unfold w9;rw [j0 (by simp only [D4];omega),a0r hi,a0r (show i<b.length by omega),k9,k9,b5s,W_s (by omega),S1 hi,S1 (show i<b.length by omega)];by_cases h:a[i]=b[i]'(by omega)
     · left;refine⟨by rw [h], ?_⟩;rw [j4 (by simp [h])]
     · right;refine⟨by simpa using h, ?_⟩;rw [j0 (by simp [h])]
   · unfold w9;rw [j4 (by simp)]
   · rw [decide_eq_true_iff];constructor
     · intro h i _ _;rw [h]
     · intro h;apply List.ext_getElem?;intro i;by_cases hi:i<a.length
       · exact h i (J2 _) hi
       · rw [a8Y (by omega),a8Y (by omega)]
 · rw [j0 (by simpa using (by omega:(a.length:Int)≠(b.length:Int)))]
   have:a≠b:=fun e=>hab (by rw [e])
   simp [this]
abbrev I6:=Int×Int×Int×Int×Int×Int
def cnt (l:List b9) (d:Int):Nat:=l.countP fun r=>r.At.Depot==d
def a4C (l:List b9):I6:=((cnt l 0:Nat),(cnt l 1:Nat),(cnt l 2:Nat),(cnt l 3:Nat),(cnt l 4:Nat),(cnt l 5:Nat))
def c4l (t:I6):List Int:= [t.1,t.2.1,t.2.2.1,t.2.2.2.1,t.2.2.2.2.1,t.2.2.2.2.2]
def a1x (d:Int):Prop:=0≤d∧d≤5
theorem b2A {d:Int} (h:a1x d):d=0∨d=1∨d=2∨d=3∨d=4∨d=5:=by unfold a1x at h;omega
theorem a7D (l:List b9) (r:b9) (d:Int):cnt (l++ [r]) d=cnt l d+if r.At.Depot=d then 1 else 0:=by
 unfold cnt;rw [List.countP_append];by_cases h:r.At.Depot=d<;>simp [h]
theorem c5E (l:List b9) (d:Int):cnt l d≤l.length:=List.countP_le_length
theorem b4M (l:List b9) {d:Int} (h:a1x d):idx (c4l (a4C l)) d=some ((cnt l d:Nat):Int):=by
 rcases b2A h with rfl|rfl|rfl|rfl|rfl|rfl<;>rfl
theorem b7D (l:List b9) (hl:l.length≤1000000) (hd:∀r∈l,a1x r.At.Depot):a0W l=some (a4C l):=by
 have key:=b3H (body:=M4 l) (R:=Unit) l (by omega) (fun k (s:I6)=>((k:Int),s.1,s.2.1,s.2.2.1,s.2.2.2.1,s.2.2.2.2.1,s.2.2.2.2.2)) (fun s x=> .inl ((if x.At.Depot=0 then s.1+1 else s.1),(if x.At.Depot=1 then s.2.1+1 else s.2.1),(if x.At.Depot=2 then s.2.2.1+1 else s.2.2.1),(if x.At.Depot=3 then s.2.2.2.1+1 else s.2.2.2.1),(if x.At.Depot=4 then s.2.2.2.2.1+1 else s.2.2.2.2.1),(if x.At.Depot=5 then s.2.2.2.2.2+1 else s.2.2.2.2.2))) (fun _=>((0:Int),(0:Int),(0:Int),(0:Int),(0:Int),(0:Int),(0:Int))) (fun s=>((l.length:Int),s.1,s.2.1,s.2.2.1,s.2.2.2.1,s.2.2.2.2.1,s.2.2.2.2.2)) (fun pre s=>s=a4C pre) (by
  rintro pre x post s hp rfl;have hx:a1x x.At.Depot:=hd x (by rw [hp];simp);have hpl:pre.length<l.length:=by rw [hp];simp
  have hb:∀d,cnt pre d≤pre.length:=c5E pre;constructor
  · unfold M4;dsimp only;rw [j0 (by simp only [D4];omega)];have hi:idx l ((pre.length:Nat):Int)=some x:=by rw [hp];exact b8G
    rw [hi,k9,D8 (by unfold a1x at hx;omega)];have e:=b4M pre hx;unfold c4l at e;rw [e,k9,D8 (by unfold a1x at hx;omega),k9];have hw:W ((cnt pre x.At.Depot:Nat)+1)=((cnt pre x.At.Depot:Nat):Int)+1:=a1i (by have:=hb x.At.Depot;omega);rw [hw,W_s (by omega)];simp only [k9,a4C];rcases b2A hx with h|h|h|h|h|h<;>rw [h]<;>rfl
  · intro s' hs';simp only [Sum.inl.injEq]at hs';subst hs';unfold a4C;simp only [a7D];refine Prod.ext ?_ (Prod.ext ?_ (Prod.ext ?_ (Prod.ext ?_ (Prod.ext ?_ ?_))))<;>(dsimp only;split<;>simp)) (by
  rintro s _;unfold M4;dsimp only;rw [j4 (by simp)]) (0,0,0,0,0,0) (by simp [a4C,cnt])
 unfold a0W;have key2:w7 (M4 l) (0,0,0,0,0,0,0)=_:=key;rw [key2]
 have hrun:∀(post pre:List b9),b2u (R:=Unit) (fun(s:I6) (x:b9)=> .inl ((if x.At.Depot=0 then s.1+1 else s.1),(if x.At.Depot=1 then s.2.1+1 else s.2.1),(if x.At.Depot=2 then s.2.2.1+1 else s.2.2.1),(if x.At.Depot=3 then s.2.2.2.1+1 else s.2.2.2.1),(if x.At.Depot=4 then s.2.2.2.2.1+1 else s.2.2.2.2.1),(if x.At.Depot=5 then s.2.2.2.2.2+1 else s.2.2.2.2.2))) post (a4C pre)= .inl (a4C (pre++post)):=by
  intro post
  induction post with
  |nil=>intro pre;simp [b2u]
  |cons x post ih=>
   intro pre;simp only [b2u];rw [show pre++x::post=(pre++ [x])++post by simp,←ih (pre++ [x])];congr 1;unfold a4C;simp only [a7D];refine Prod.ext ?_ (Prod.ext ?_ (Prod.ext ?_ (Prod.ext ?_ (Prod.ext ?_ ?_))))<;>(dsimp only;split<;>simp)
 have h0:((0,0,0,0,0,0):I6)=a4C []:=by simp [a4C,cnt]
 have hr:=hrun l [];rw [←h0]at hr;rw [hr];rfl
theorem c3Y (l:List b9) (hl:l.length≤1000000) (hd:∀r∈l,a1x r.At.Depot):a6B l=some (a4C l):=b7D l hl hd
theorem a5t {r:b9} (h:B1 r):a1x r.At.Depot:=h.1.1
def L8 (l:List b9) (r:b9):Prop:=l.length<60∧((cnt l r.At.Depot:Nat):Int)=r.At.No
instance (l : List b9) (r : b9) : Decidable (L8 l r) := by unfold L8; infer_instance
theorem b9p (l:List b9) (r:b9) (hl:l.length≤1000000) (hd:∀r∈l,a1x r.At.Depot) (hr:a1x r.At.Depot):a0g l r=some (decide (L8 l r)):=by
 unfold a0g L8;by_cases h:l.length<60
 · rw [j0 (by simp only [D4];omega),b7D l hl hd,k9];have e:=b4M l hr;unfold c4l at e;rw [e,k9];simp only [h,M8];congr 1
 · rw [j4 (by simp only [D4];omega)];simp [h]
theorem c1U (l:List b9) (r:b9) (hl:l.length≤1000000) (hd:∀r∈l,a1x r.At.Depot) (hs:r.Text.size≤9223372036854775807):a4h l r=some (decide (B1 r∧L8 l r)):=by
 unfold a4h;rw [a1P r hs,k9];by_cases hok:B1 r
 · rw [j0 hok,j0 (by decide)];by_cases h:l.length<60
   · rw [j0 (by simp only [D4];omega),c3Y l hl hd,k9];have e:=b4M l (a5t hok);unfold c4l at e;rw [e,k9];congr 1;rw [b0n];simp only [a0u,D4,L8,h,hok,M8];exact eq_comm
   · rw [j4 (by simp only [D4];omega)];have:¬L8 l r:=fun q=>h q.1
     simp [this]
 · rw [j4 hok,j4 (by decide)];simp [hok]
def Written (l:List b9):Prop:=∀(i:Nat) (r:b9),l[i]?=some r→B1 r∧L8 (l.take i) r
theorem Written.len {l:List b9} (h:Written l):l.length≤60:=by
 rcases Nat.lt_or_ge 60 l.length with hl|hl
 · have:=(h 60 l[60] (S1 hl)).2.1;simp at this;omega
 · exact hl
theorem Written.rec {l:List b9} (h:Written l) {r:b9} (hr:r∈l):B1 r:=by
 obtain⟨i,hi,rfl⟩:=List.getElem_of_mem hr;exact(h i _ (S1 hi)).1
theorem Written.dep {l:List b9} (h:Written l) {r:b9} (hr:r∈l):a1x r.At.Depot:=a5t (h.rec hr)
theorem Written.nil:Written []:=fun i r h=>by simp at h
theorem Written.snoc {l:List b9} (h:Written l) {r:b9} (hr:B1 r) (hn:L8 l r):Written (l++ [r]):=by
 intro i x hx;rcases Nat.lt_trichotomy i l.length with h1|h1|h1
 · rw [a9h h1]at hx;have:=h i x hx;rwa [b3p (a1V h1)]
 · subst h1;simp at hx;subst hx;simpa using ⟨hr,hn⟩
 · rw [a8Y (by simp;omega)]at hx;cases hx
theorem b4O {body:Int→Option (Sum Int (Sum Int Bool))} (l:List b9) (hl:l.length≤9223372036854775800) (ans:Bool) (ha:ans=true↔Written l)
 (h:∀(i:Nat) (hi:i<l.length),(∀r∈l.take i,B1 r)→i≤60→body (i:Int)=some (if B1 l[i]∧L8 (l.take i) l[i]then .inl ((i+1:Nat):Int)else .inr (.inr false)))
 (he:body (l.length:Int)=some (.inr (.inl (l.length:Int)))):(w7 body 0).bind (fun e=>match e with| .inl _=>some true| .inr r=>some r)=some ans:=by
 obtain⟨e,h1,h2⟩:=a2X (body:=body) (fun st=>∃i:Nat,st=(i:Int)∧i≤l.length∧Written (l.take i)) (fun st=>l.length-st.toNat) (fun e=>match e with| .inl _=>Written l| .inr r=>r=false∧¬Written l) (by
  rintro _ ⟨i,rfl,hi,hw⟩;rcases Nat.lt_or_ge i l.length with hlt|hge
  · have hlen:=hw.len;have hb:=h i hlt (fun r hr=>hw.rec hr) (by simp at hlen;omega);by_cases hok:B1 l[i]∧L8 (l.take i) l[i]
    · right;rw [j0 hok]at hb;refine⟨_,hb,⟨i+1,rfl,hlt, ?_⟩, ?_⟩
      · rw [a3f hlt];exact hw.snoc hok.1 hok.2
      · simp only [a3v];omega
    · left;rw [j4 hok]at hb;exact⟨_,hb,rfl,fun hw2=>hok (hw2 i _ (S1 hlt))⟩
  · left;obtain rfl:i=l.length:=by omega
    refine⟨_,he, ?_⟩;rw [a5Y]at hw;exact hw) 0 ⟨0,rfl,J2 _,by rw [a7I];exact Written.nil⟩ (by unfold W8;simp only [Int.toNat_zero];omega)
 rw [h1];cases e with
 |inl _=>simp only [k9];rw [ha.2 h2]
 |inr r=>
  obtain⟨rfl,h2⟩:=h2;have:ans=false:=by cases ans with|false=>rfl|true=>exact absurd (ha.1 rfl) h2
  simp only [k9];rw [this]
open Classical in theorem areWritten_eq (l : List b9) (hl : l.length ≤ 9223372036854775800) (hs : ∀ r ∈ l, r.Text.size ≤ 9223372036854775807) : O2 l = some (decide (Written l)) := by
  unfold O2;refine b4O l hl _ (by simp) (fun i hi hpre h60 => ?_) ?_
  · unfold I8;rw [j0 (by simp only [D4]; omega), a0r hi, k9, X8 _ (hs _ (a3j hi)), k9];by_cases hok : B1 l[i]
    · rw [j4 (by simp [hok]), D8 (by omega), k9];have e : sub l 0 ((i : Int)).toNat = l.take i := by unfold sub; simp
      rw [e, b9p _ _ (by simp; omega) (fun r hr => a5t (hpre r hr)) (a5t hok), k9, W_s (by omega)];by_cases hn : L8 (l.take i) l[i] <;> simp [hok, hn]
    · rw [j0 (by simp [hok])];simp [hok]
  · unfold I8;rw [j4 (by simp)]
open Classical in noncomputable def decF (t : ByteArray) : Option b9 := if h : ∃ r, B1 r ∧ R2 r = t then some (Classical.choose h) else none
theorem c4a {r q:b9} (hr:B1 r) (hq:B1 q) (h:R2 r=R2 q):r=q:=by
 have h1:=b4c hr;rw [h,b4c hq]at h1;simp only [Q2,a2d,and_true]at h1;exact h1.symm
theorem a0w {t:ByteArray} {r:b9} (h:decF t=some r):B1 r∧R2 r=t:=by
 unfold decF at h;split at h
 · rename_i hx;cases h;exact Classical.choose_spec hx
 · cases h
theorem b5Q {r:b9} (h:B1 r):decF (R2 r)=some r:=by
 have hx:∃q,B1 q∧R2 q=R2 r:=⟨r,h,rfl⟩;unfold decF;rw [dif_pos hx];congr 1;have:=Classical.choose_spec hx;exact c4a this.1 h this.2
theorem b2P {t:ByteArray} (h:decF t=none):∀r,B1 r→R2 r≠t:=fun r hr e=>by
 subst e;rw [b5Q hr]at h;cases h
theorem c0l (t:ByteArray) (ht:t.size≤281474976710656):E8 t=some (match decF t with|some r=>(r,true)|none=>(zR,false)):=by
 cases h:decF t with
 |none=>exact c5q t ht (b2P h)
 |some r=>obtain⟨h1,rfl⟩:=a0w h;exact b4c h1
theorem b2J (t:ByteArray) (ht:t.size≤281474976710656):O5 t=some (match decF t with|some r=>(r,0)|none=>(zR,5)):=by
 cases h:decF t with
 |none=>exact b7C t ht (b2P h)
 |some r=>obtain⟨h1,rfl⟩:=a0w h;exact b6E h1
def P7 (l:List c8) (no p q:Int):Option c8:=l.find? fun c=>decide (G3 c∧c.No=no∧c.Part=p∧(q=0∨c.Parts=q))
theorem c0P {α R:Type} {body:Int→Option (Sum Int (Sum Int R))} (l:List α) (hl:l.length≤9223372036854775800) (q:α→Bool) (r:α→R) (h:∀(i:Nat) (hi:i<l.length),body (i:Int)=some (if q l[i]=true then .inr (.inr (r l[i]))else .inl ((i+1:Nat):Int)))
 (he:body (l.length:Int)=some (.inr (.inl (l.length:Int)))):w7 body 0=some (match l.find? q with|some x=> .inr (r x)|none=> .inl (l.length:Int)):=by
 have:=b3H (R:=R) (body:=body) l (by omega) (fun k (_:Unit)=>(k:Int)) (fun _ x=>if q x=true then .inr (r x)else .inl ()) .inr (fun _=> .inl (l.length:Int)) (fun _ _=>True) (fun pre x post s hp _=>by
  refine⟨?_,fun _ _=>trivial⟩;subst hp;rw [h pre.length (by simp)];have e:(pre++x::post)[pre.length]'(by simp)=x:=by simp
  rw [e];by_cases hq:q x=true<;>simp [hq]) (fun _ _=>he) () trivial
 rw [show((0:Nat):Int)=0 from rfl]at this;rw [this]
 have key:∀l:List α,b2u (fun(_:Unit) x=>if q x=true then Sum.inr (r x)else Sum.inl ()) l ()=match l.find? q with|some x=> .inr (r x)|none=> .inl ():=by
  intro l
  induction l with
  |nil=>rfl
  |cons x l ih=>
   simp only [b2u,List.find?_cons];by_cases hq:q x=true
   · simp [hq]
   · simp only [hq,K7,N4];exact ih
 rw [key l];cases l.find? q<;>rfl
theorem b5V (l:List c8) (hl:l.length≤9223372036854775800) (no p q:Int):a0Q l no (p,q)=some (match P7 l no p q with|some c=>(c,true)|none=>(⟨0,0,0,0,⟨#[]⟩⟩,false)):=by
 unfold a0Q
 rw [c0P (body:=Q7 l no (p,q)) l hl (fun c=>decide (G3 c∧c.No=no∧c.Part=p∧(q=0∨c.Parts=q))) (fun c=>(c,true)) (fun i hi=>by
  unfold Q7;rw [j0 (by simp only [D4];omega),a0r hi,k9,b4a,k9,W_s (by omega)];by_cases h1:G3 l[i]
  · rw [j0 h1,j0 (by decide)];by_cases h2:l[i].No=no
    · rw [j0 (by simpa using h2)]
      by_cases h3:l[i].Part=p
      · rw [j0 (by simpa using h3)]
        by_cases h4:q=0
        · rw [j0 (by simpa using h4)]
          simp [h1,h2,h3,h4]
        · rw [j4 (by simpa using h4)]
          by_cases h5:l[i].Parts=q
          · rw [j0 (by simpa using h5)]
            simp [h1,h2,h3,h5]
          · rw [j4 (by simpa using h5)]
            simp [h4,h5]
      · rw [j4 (by simpa using h3)]
        simp [h3]
    · rw [j4 (by simpa using h2)]
      simp [h2]
  · rw [j4 h1,j4 (by decide)];simp [h1]) (by
  unfold Q7;rw [j4 (by simp)])]
 unfold P7;cases l.find? (fun c=>decide (G3 c∧c.No=no∧c.Part=p∧(q=0∨c.Parts=q)))<;>rfl
theorem a0R {l:List c8} {no p q:Int} {c:c8} (h:P7 l no p q=some c):G3 c∧c.No=no∧c.Part=p∧(q=0∨c.Parts=q):=by
 have:=List.find?_some h;exact of_decide_eq_true this
def U1 (l:List c8) (no q:Int):Nat→Int→Option ByteArray
 |0,_=>some ⟨#[]⟩
 |n+1,i=>match P7 l no i q with
  |none=>none
  |some c=>match U1 l no q n (i+1)with
   |none=>none
   |some t=>some (c.Text++t)
def a5U (l:List c8) (no:Int):Option ByteArray:=match P7 l no 0 0 with
 |none=>none
 |some c=>U1 l no c.Parts c.Parts.toNat 0
noncomputable def a2w (l:List c8):Nat→List b9→List b9
 |0,out=>out
 |n+1,out=>match a5U l (out.length:Int)with
  |none=>out
  |some t=>match decF t with
   |none=>out
   |some r=>if L8 out r then a2w l n (out++ [r])else out
noncomputable def a5g (l:List c8):List b9:=a2w l 61 []
theorem a6f (l:List c8):∀(n:Nat) (out:List b9),Written out→Written (a2w l n out)
 |0,out,h=>h
 |n+1,out,h=>by
  simp only [a2w];split
  · exact h
  · split
    · exact h
    · rename_i r hr;split
      · rename_i hn;exact a6f l n _ (h.snoc (a0w hr).1 hn)
      · exact h
theorem a5Z (l:List c8):Written (a5g l):=a6f l 61 [] Written.nil
def ofK:Int→List b9→List c8
 |_, []=> []
 |k,r::l=>a4b (R2 r) k++ofK (k+1) l
def ofF (l:List b9):List c8:=ofK 0 l
theorem b1Q:∀(l m:List b9) (k:Int),ofK k (l++m)=ofK k l++ofK (k+l.length) m
 | [],m,k=>by simp [ofK]
 |r::l,m,k=>by
  simp only [R3,ofK,b1Q l m (k+1),a1N,Z7];rw [show k+1+(l.length:Int)=k+((l.length+1:Nat):Int) by omega]
theorem b6g (l:List b9) (r:b9):ofF (l++ [r])=ofF l++a4b (R2 r) (l.length:Int):=by
 unfold ofF;rw [b1Q];simp [ofK]
theorem a7E:∀(l:List b9) (k:Int),(∀r∈l,B1 r)→(ofK k l).length≤17*l.length
 | [],_,_=>by simp [ofK]
 |r::l,k,h=>by
  have h1:=a7E l (k+1) fun x hx=>h x (B3 _ hx)
  have h2:=a3o (a1d (h r H6));simp only [ofK,N5,Z7,a3S];omega
theorem c4E (l:List b9) (h:∀r∈l,B1 r) (hl:l.length≤1000):a2g l=some (ofF l):=by
 have key:=U5 (body:=P4 l) (fun k=>(ofF (l.take k),(k:Int))) l.length (by omega) (ofF l,(l.length:Int)) (fun k hk=>by
  unfold P4;dsimp only;have hlen:=a7E (l.take k) 0 fun r hr=>h r (a3a hr)
  have hp:=a3o (a1d (h l[k] (a3j hk)));rw [j0 (by simp only [D4];omega),a0r hk,k9,a8r (h _ (a3j hk)),k9,D8 (by unfold ofF;rw [a3S];simp at hlen;omega),W_s (by omega)];congr 3;rw [a3f hk,b6g];simp [a1Z (a1V hk)]) (by
  unfold P4;dsimp only;rw [j4 (by simp),a5Y])
 unfold a2g;rw [a7I]at key;have key2:w7 (P4 l) ([],0)=_:=key;rw [key2];rfl
theorem c4V (l:List b9) (h:∀r∈l,B1 r) (hl:l.length≤1000):a1K l=some (ofF l):=by
 have key:=U5 (body:=U3 l) (fun k=>(ofF (l.take k),(k:Int))) l.length (by omega) (ofF l,(l.length:Int)) (fun k hk=>by
  unfold U3;dsimp only;have hlen:=a7E (l.take k) 0 fun r hr=>h r (a3a hr)
  have hp:=a3o (a1d (h l[k] (a3j hk)));rw [j0 (by simp only [D4];omega),a0r hk,k9,b9T (h _ (a3j hk)),k9,D8 (by unfold ofF;rw [a3S];simp at hlen;omega),W_s (by omega)];congr 3;rw [a3f hk,b6g];simp [a1Z (a1V hk)]) (by
  unfold U3;dsimp only;rw [j4 (by simp),a5Y])
 unfold a1K;rw [a7I]at key;have key2:w7 (U3 l) ([],0)=_:=key;rw [key2];rfl
theorem c3D (t:ByteArray):(⟨#[]⟩:ByteArray)++t=t:=by
 apply a7b;apply F5;rw [ByteArray.data_append];simp
theorem b4P (t:ByteArray):t++(⟨#[]⟩:ByteArray)=t:=by
 apply a7b;apply F5;rw [ByteArray.data_append];simp
theorem b6y (l:List c8) (out:List b9) (c0:c8) (s:ByteArray) (i:Int):D3 l out c0 (false,s,i)=some (.inr (false,s,i)):=by
 unfold D3;dsimp only;split<;>rfl
theorem c1L (l:List c8) (hl:l.length≤9223372036854775800) (out:List b9) (c0:c8) (hq:c0.Parts≤10) (hq0:c0.Parts≠0):
 ∀(n:Nat) (i:Int) (s:ByteArray) (N:Nat),0≤i→i+n=c0.Parts→s.size≤24*20→s.size+24*n≤24*20→n<N→
  ∃ok s' i',I0 (D3 l out c0) N (true,s,i)=some (ok,s',i')∧s'.size≤24*20∧(match U1 l (out.length:Int) c0.Parts n i with|some t=>ok=true∧s'=s++t|none=>ok=false)
 |0,i,s,N,h0,hi,hs,hs2,hN=>by
  cases N with
  |zero=>omega
  |succ N=>
   refine⟨true,s,i, ?_,hs,rfl,(b4P s).symm⟩;simp only [I0];unfold D3;dsimp only;rw [j4 (by simp only [D4];omega)]
 |n+1,i,s,N,h0,hi,hs,hs2,hN=>by
  cases N with
  |zero=>omega
  |succ N=>
   simp only [I0]
   have hb:D3 l out c0 (true,s,i)=some (.inl ((match P7 l (out.length:Int) i c0.Parts with|some c=>(true,s++c.Text,i+1)|none=>(false,s,i+1)))):=by
    unfold D3;dsimp only;rw [j0 (by simp only [D4];omega),j0 rfl,b5V l hl,k9,a1i (z:=i+1) (by omega)];cases hp:P7 l (out.length:Int) i c0.Parts with
    |none=>
     dsimp only;rw [D8 (by show((s.size+(⟨#[]⟩:ByteArray).size:Nat):Int)≤_;have:(⟨#[]⟩:ByteArray).size=0:=rfl;omega),b4P]
    |some c=>
     have hw:=(a0R hp).1;unfold G3 at hw;dsimp only;rw [D8 (by omega)]
   rw [hb];simp only [U1];cases hp:P7 l (out.length:Int) i c0.Parts with
   |none=>
    dsimp only;refine⟨false,s,i+1, ?_,hs,rfl⟩;cases N with
    |zero=>omega
    |succ N=>
     simp only [I0,b6y]
   |some c=>
    have hw:=(a0R hp).1;unfold G3 at hw;dsimp only;obtain⟨ok,s',i',h1,h2,h3⟩:=c1L l hl out c0 hq hq0 n (i+1) (s++c.Text) N (by omega) (by omega) (by rw [b3Z];omega) (by rw [b3Z];omega) (by omega);refine⟨ok,s',i',h1,h2, ?_⟩;cases hg:U1 l (out.length:Int) c0.Parts n (i+1)with
    |none=>rw [hg]at h3;exact h3
    |some t=>
     rw [hg]at h3;refine⟨h3.1, ?_⟩;rw [h3.2,ByteArray.append_assoc]
theorem b7Q (l:List c8) (hl:l.length≤9223372036854775800) (out:List b9) (hw:Written out):
 V1 l out=some (match a5U l (out.length:Int)with
  |none=> .inr (⟨ofF out, []⟩,out)
  |some t=>match decF t with
   |none=> .inr (⟨ofF out, []⟩,out)
   |some r=>if L8 out r then .inl (out++ [r])else .inr (⟨ofF out, []⟩,out)):=by
 have hlen:=hw.len;have hall:=c4V out (fun r hr=>hw.rec hr) (by omega);have hdep:∀r∈out,a1x r.At.Depot:=fun r hr=>hw.dep hr
 unfold V1;rw [b5V l hl,k9];unfold a5U;cases hp:P7 l (out.length:Int) 0 0 with
 |none=>
  dsimp only
  have hloop:w7 (D3 l out ⟨0,0,0,0,⟨#[]⟩⟩) (false,⟨#[]⟩,1)=some (false,⟨#[]⟩,1):=
   U5 (fun _=>(false,⟨#[]⟩,(1:Int))) 0 (by omega) _ (fun k hk=>by omega) (b6y ..)
  rw [hloop,k9];dsimp only;rw [b2J _ (by show(0:Nat)≤_;omega),k9,j0 (by decide),hall];rfl
 |some c0=>
  obtain⟨hw0,g1,g2,_⟩:=a0R hp;have hw1:=hw0;unfold G3 at hw1;obtain⟨P,hP⟩:∃P:Nat,c0.Parts=P:=⟨c0.Parts.toNat,by omega⟩;obtain⟨ok,s',i',h1,h2,h3⟩:=c1L l hl out c0 (by omega) (by omega) (P-1) 1 c0.Text W8 (by omega) (by omega) (by omega) (by omega) (by unfold W8;omega);have hloop:w7 (D3 l out c0) (true,c0.Text,1)=some (ok,s',i'):=h1;dsimp only;rw [hloop,k9];dsimp only;rw [b2J _ (by omega),k9]
  --the first part is the same card
  have hp0:P7 l (out.length:Int) 0 c0.Parts=some c0:=by
   unfold P7 at hp⊢;obtain⟨h5,xa,xb,hsplit,hno⟩:=List.find?_eq_some_iff_append.1 hp;refine List.find?_eq_some_iff_append.2 ⟨?_,xa,xb,hsplit,fun x hx=> ?_⟩
   · exact decide_eq_true ⟨hw0,g1,g2, .inr rfl⟩
   · have:=hno x hx;simp only [a5h,decide_eq_false_iff_not]at this⊢;exact fun h=>this ⟨h.1,h.2.1,h.2.2.1,by simp⟩
  have hg:U1 l (out.length:Int) c0.Parts c0.Parts.toNat 0=(match U1 l (out.length:Int) c0.Parts (P-1) 1 with|none=>none|some t=>some (c0.Text++t)):=by
   rw [show c0.Parts.toNat=(P-1)+1 by omega];simp only [U1,hp0];rfl
  rw [hg];cases hgg:U1 l (out.length:Int) c0.Parts (P-1) 1 with
  |none=>
   rw [hgg]at h3;subst h3;dsimp only;rw [j0 (by decide),hall];rfl
  |some t=>
   rw [hgg]at h3;obtain⟨rfl,rfl⟩:=h3;dsimp only;rw [j4 (by decide)];cases hd:decF (c0.Text++t)with
   |none=>
    dsimp only;rw [j0 (by decide),hall];rfl
   |some r=>
    obtain⟨hr,he⟩:=a0w hd;dsimp only;rw [j4 (by decide),c1U out r (by omega) hdep (by have:=a0m hr;omega),k9];by_cases hn:L8 out r
    · rw [j4 (by simp [hr,hn]),D8 (by simp;omega),j0 hn]
    · rw [j0 (by simp [hn]),hall,j4 hn];rfl
theorem c4C (b:m7) (h:(b.Thread.length+b.Loose.length)*48≤140737488355328):a5q b=some (b.Thread++b.Loose):=by
 unfold a5q;rw [D8 (by simp;omega),D8 (by simp;omega)];rfl
theorem c1t (b:m7) (h:(b.Thread.length+b.Loose.length)*48≤140737488355328):a3P b=some (⟨ofF (a5g (b.Thread++b.Loose)), []⟩,a5g (b.Thread++b.Loose)):=by
 unfold a3P;rw [c4C b h,k9];have hl:(b.Thread++b.Loose).length≤9223372036854775800:=by rw [N5];omega
 generalize b.Thread++b.Loose=l at hl
 have key:∀(n:Nat) (out:List b9) (N:Nat),Written out→61-out.length≤n→n<N→I0 (V1 l) N out=some (⟨ofF (a2w l n out), []⟩,a2w l n out):=by
  intro n
  induction n with
  |zero=>
   intro out N hw hn hN;have:=hw.len;omega
  |succ n ih=>
   intro out N hw hn hN;cases N with
   |zero=>omega
   |succ N=>
    simp only [I0,b7Q l hl out hw,a2w];cases ht:a5U l (out.length:Int)with
    |none=>rfl
    |some t=>
     dsimp only;cases hd:decF t with
     |none=>rfl
     |some r=>
      dsimp only;by_cases hnx:L8 out r
      · rw [j0 hnx,j0 hnx];exact ih _ N (hw.snoc (a0w hd).1 hnx) (by simp;omega) (by omega)
      · rw [j4 hnx,j4 hnx]
 exact key 61 [] W8 Written.nil (by simp) (by unfold W8;omega)
theorem a9V (b:m7) (h:(b.Thread.length+b.Loose.length)*48≤140737488355328):Y4 b=some (b.Thread++b.Loose):=by
 unfold Y4 D1
 have k1:w7 (j2 [b.Thread,b.Loose]) (0,0)=some (((b.Thread.length+b.Loose.length:Nat):Int),2):=
  U5 (body:=j2 [b.Thread,b.Loose]) (fun k=>match k with|0=>(0,0)|1=>((b.Thread.length:Int),1)|_=>(((b.Thread.length+b.Loose.length:Nat):Int),2)) 2 (by omega) _ (fun k hk=>by
   match k,hk with
   |0,_=>
    show j2 [b.Thread,b.Loose] (0,0)=some (.inl ((b.Thread.length:Int),1));unfold j2;dsimp only;rw [j0 (by simp),show idx [b.Thread,b.Loose] 0=some b.Thread from rfl,k9,a1i (z:=(0:Int)+(b.Thread.length:Int)) (by omega),j4 (by simp only [D4];omega),show W ((0:Int)+1)=1 from rfl,Int.zero_add]
   |1,_=>
    show j2 [b.Thread,b.Loose] ((b.Thread.length:Int),1)=some (.inl (((b.Thread.length+b.Loose.length:Nat):Int),2));unfold j2;dsimp only;rw [j0 (by simp),show idx [b.Thread,b.Loose] 1=some b.Loose from rfl,k9,a1i (z:=(b.Thread.length:Int)+(b.Loose.length:Int)) (by omega),j4 (by simp only [D4];omega),show W ((1:Int)+1)=2 from rfl];rfl) (by
   show j2 [b.Thread,b.Loose] (((b.Thread.length+b.Loose.length:Nat):Int),2)=some (.inr (((b.Thread.length+b.Loose.length:Nat):Int),2));unfold j2;dsimp only;rw [j4 (by simp)])
 have k2:w7 (j3 [b.Thread,b.Loose]) (0,([]:List c8))=some (2,b.Thread++b.Loose):=
  U5 (body:=j3 [b.Thread,b.Loose]) (fun k=>match k with|0=>(0, [])|1=>(1,b.Thread)|_=>(2,b.Thread++b.Loose)) 2 (by omega) _ (fun k hk=>by
   match k,hk with
   |0,_=>
    show j3 [b.Thread,b.Loose] (0, [])=some (.inl (1,b.Thread));unfold j3;dsimp only;rw [j0 (by simp),show idx [b.Thread,b.Loose] 0=some b.Thread from rfl,k9,D8 (by simp;omega),show W ((0:Int)+1)=1 from rfl,a1q]
   |1,_=>
    show j3 [b.Thread,b.Loose] (1,b.Thread)=some (.inl (2,b.Thread++b.Loose));unfold j3;dsimp only;rw [j0 (by simp),show idx [b.Thread,b.Loose] 1=some b.Loose from rfl,k9,D8 (by omega),show W ((1:Int)+1)=2 from rfl]) (by
   show j3 [b.Thread,b.Loose] (2,b.Thread++b.Loose)=some (.inr (2,b.Thread++b.Loose));unfold j3;dsimp only;rw [j4 (by simp)])
 rw [k1,k9];dsimp only;rw [D8 (by omega),k2];rfl
theorem c2a (b:m7) (h:(b.Thread.length+b.Loose.length)*48≤140737488355328):S8 b=some ((b.Thread++b.Loose).filter (fun c=>decide (G3 c)),()):=by
 unfold S8;rw [a9V b h,k9];have hl:(b.Thread++b.Loose).length≤9223372036854775800:=by rw [N5];omega
 generalize b.Thread++b.Loose=l at hl
 have key:=b1R (body:=E0 l) l (by omega) (fun k=>(k:Int)) (fun c=>if G3 c then [c]else []) (l.length:Int) (fun pre x post hx=>by
  unfold E0;rw [j0 (by rw [hx];simp only [D4];exact c5l),show idx l ((pre.length:Nat):Int)=some x from by rw [hx];exact b8G,k9,b7k,k9];have hlt:pre.length<l.length:=by rw [hx];simp
  rw [W_s (by omega)];by_cases hw:G3 x
  · simp [hw,emit]
  · simp [hw]) (by
  unfold E0;rw [j4 (by simp)])
 have key2:b0A (E0 l) 0=_:=key;rw [key2];simp only [b3K,b0g];congr 2
 induction l with
 |nil=>rfl
 |cons x l ih=>
  simp only [J1,List.filter_cons];clear key key2
  have ih':List.flatMap (fun c=>if G3 c then [c]else []) l=List.filter (fun c=>decide (G3 c)) l:=by
   clear ih hl
   induction l with
   |nil=>rfl
   |cons y l ih=>simp only [J1,List.filter_cons,ih];by_cases hy:G3 y<;>simp [hy]
  rw [ih'];by_cases hx:G3 x<;>simp [hx]
section
variable {K V : Type} [DecidableEq K]
theorem b2E (l:List (K×V)) (k:K) (v:V) (j:K):z8 (a4A l k v) j=if j=k then some v else z8 l j:=by
 induction l with
 |nil=>simp [a4A,z8]
 |cons p l ih=>
  obtain⟨a,x⟩:=p;simp only [a4A];by_cases h:k=a
  · subst h;simp only [D5,z8];by_cases hj:j=k<;>simp [hj]
  · rw [j4 h];simp only [z8];by_cases hj:j=a
    · subst hj;rw [j0 rfl,j0 rfl,j4 (fun e=>h e.symm)]
    · rw [j4 hj,j4 hj,ih]
end
def plc (c:c8):A1:=⟨c.No,c.Part,c.Parts⟩
theorem b9j:∀(ws:List c8) (a:List (A1×ByteArray)) (b:List (Int×Int)),∃a' b',J4 J7 ws (a,b)=some (.inl (a',b'))∧
 (∀p,z8 a' p=(z8 a p).or ((ws.find? fun c=>decide (plc c=p)).map (·.Text)))∧(∀k,z8 b' k=(z8 b k).or ((ws.find? fun c=>decide (c.No=k∧c.Part=0)).map (·.Parts)))
 | [],a,b=>⟨a,b,rfl,fun p=>by simp,fun k=>by simp⟩
 |c::ws,a,b=>by
  have hstep:∃a1 b1,J7 (a,b) c=some (.inl (a1,b1))∧(∀p,z8 a1 p=(z8 a p).or (if plc c=p then some c.Text else none))∧(∀k,z8 b1 k=(z8 b k).or (if c.No=k∧c.Part=0 then some c.Parts else none)):=by
   unfold J7;dsimp only
   have ha:∀p,(z8 a (plc c)).isSome=false→z8 (a4A a (plc c) c.Text) p=(z8 a p).or (if plc c=p then some c.Text else none):=fun p h=>by
    rw [b2E];by_cases hp:p=plc c
    · subst hp;rw [j0 rfl,j0 rfl];cases hm:z8 a (plc c)with
      |none=>rfl
      |some v=>rw [hm]at h;cases h
    · rw [j4 hp,j4 (fun e=>hp e.symm)];simp
   have ha2:∀p,(z8 a (plc c)).isSome=true→z8 a p=(z8 a p).or (if plc c=p then some c.Text else none):=fun p h=>by
    by_cases hp:plc c=p
    · subst hp;cases hm:z8 a (plc c)with
      |none=>rw [hm]at h;cases h
      |some v=>rfl
    · rw [j4 hp];simp
   have hb:∀k,(z8 b c.No).isSome=false→c.Part=0→z8 (a4A b c.No c.Parts) k=(z8 b k).or (if c.No=k∧c.Part=0 then some c.Parts else none):=fun k h h0=>by
    rw [b2E];by_cases hp:k=c.No
    · subst hp;rw [j0 rfl,j0 ⟨rfl,h0⟩];cases hm:z8 b c.No with
      |none=>rfl
      |some v=>rw [hm]at h;cases h
    · rw [j4 hp,j4 (fun e=>hp e.1.symm)];simp
   have hb2:∀k,((z8 b c.No).isSome=true∨c.Part≠0)→z8 b k=(z8 b k).or (if c.No=k∧c.Part=0 then some c.Parts else none):=fun k h=>by
    by_cases hp:c.No=k∧c.Part=0
    · rcases h with h|h
      · rw [hp.1]at h;cases hm:z8 b k with
        |none=>rw [hm]at h;cases h
        |some v=>rfl
      · exact absurd hp.2 h
    · rw [j4 hp];simp
   have e:(⟨c.No,c.Part,c.Parts⟩:A1)=plc c:=rfl;rw [e];cases h1:(z8 a (plc c)).isSome with
   |false=>
    rw [j0 (by decide)];cases h2:(z8 b c.No).isSome with
    |false=>
     rw [j0 (by decide)];by_cases h0:c.Part=0
     · rw [j0 (by simpa using h0)]
       exact⟨_,_,rfl,fun p=>ha p h1,fun k=>hb k h2 h0⟩
     · rw [j4 (by simpa using h0)]
       exact⟨_,_,rfl,fun p=>ha p h1,fun k=>hb2 k (.inr h0)⟩
    |true=>
     rw [j4 (by decide)];exact⟨_,_,rfl,fun p=>ha p h1,fun k=>hb2 k (.inl h2)⟩
   |true=>
    rw [j4 (by decide)];cases h2:(z8 b c.No).isSome with
    |false=>
     rw [j0 (by decide)];by_cases h0:c.Part=0
     · rw [j0 (by simpa using h0)]
       exact⟨_,_,rfl,fun p=>ha2 p h1,fun k=>hb k h2 h0⟩
     · rw [j4 (by simpa using h0)]
       exact⟨_,_,rfl,fun p=>ha2 p h1,fun k=>hb2 k (.inr h0)⟩
    |true=>
     rw [j4 (by decide)];exact⟨_,_,rfl,fun p=>ha2 p h1,fun k=>hb2 k (.inl h2)⟩
  obtain⟨a1,b1,h1,h2,h3⟩:=hstep;obtain⟨a2,b2,h4,h5,h6⟩:=b9j ws a1 b1;refine⟨a2,b2,by simp only [J4,h1];exact h4,fun p=> ?_,fun k=> ?_⟩
  · rw [h5,h2,Option.or_assoc];congr 1;simp only [List.find?_cons];by_cases hp:plc c=p<;>simp [hp]
  · rw [h6,h3,Option.or_assoc];congr 1;simp only [List.find?_cons];by_cases hp:c.No=k∧c.Part=0<;>simp [hp]
theorem a8H {α:Type} (p q:α→Bool) (l:List α):(l.filter p).find? q=l.find? fun x=>p x&&q x:=by
 induction l with
 |nil=>rfl
 |cons x l ih=>
  simp only [List.filter_cons,List.find?_cons];by_cases hp:p x=true
  · simp [hp,List.find?_cons,ih]
  · simp [hp,ih]
structure c5t (l:List c8) (A:List (A1×ByteArray)) (B:List (Int×Int)):Prop where
 a:∀k i q:Int,q≠0→z8 A ⟨k,i,q⟩=(P7 l k i q).map (·.Text)
 b:∀k:Int,z8 B k=(P7 l k 0 0).map (·.Parts)
theorem c3G (l:List c8):∃A B,J4 J7 (l.filter fun c=>decide (G3 c)) (([]:List (A1×ByteArray)),([]:List (Int×Int)))=some (.inl (A,B))∧c5t l A B:=by
 obtain⟨A,B,h1,h2,h3⟩:=b9j (l.filter fun c=>decide (G3 c)) [] [];refine⟨A,B,h1,⟨fun k i q hq=> ?_,fun k=> ?_⟩⟩
 · rw [h2];simp only [z8,Option.none_or,a8H];unfold P7;congr 2;funext c;rw [b0n];simp only [A8,D4,plc,A1.mk.injEq,hq,false_or]
 · rw [h3];simp only [z8,Option.none_or,a8H];unfold P7;congr 2;funext c;rw [b0n];simp
theorem c1X {l:List c8} {A:List (A1×ByteArray)} {B:List (Int×Int)} (hM:c5t l A B) (k P:Int) (hP:(z8 B k).getD 0=P) (hP0:P≠0) (hP10:P≤10):
 ∀(n:Nat) (i:Int) (s:ByteArray) (fine:Bool) (N:Nat),0≤i→i+n=P→s.size+24*n≤24*20→n<N→
  ∃s' fine' i',I0 (B0 A B k) N (s,fine,i)=some (s',fine',i')∧s'.size≤24*20∧(fine=false→fine'=false)∧(fine=true→match U1 l k P n i with|some t=>fine'=true∧s'=s++t|none=>fine'=false)
 |0,i,s,fine,N,h0,hi,hs,hN=>by
  cases N with
  |zero=>omega
  |succ N=>
   refine⟨s,fine,i, ?_,by omega,fun h=>h,fun h=>⟨h,(b4P s).symm⟩⟩;simp only [I0];unfold B0;dsimp only;rw [hP,j4 (by simp only [D4];omega)]
 |n+1,i,s,fine,N,h0,hi,hs,hN=>by
  cases N with
  |zero=>omega
  |succ N=>
   have ha:=hM.a k i P hP0
   have hsz:((z8 A ⟨k,i,P⟩).getD ⟨#[]⟩).size≤24:=by
    rw [ha];cases hp:P7 l k i P with
    |none=>exact J2 _
    |some c=>
     have hw:=(a0R hp).1;unfold G3 at hw;simp only [a3k,Option.getD_some];omega
   have hb:B0 A B k (s,fine,i)=some (.inl (s++(z8 A ⟨k,i,P⟩).getD ⟨#[]⟩,fine&&(z8 A ⟨k,i,P⟩).isSome,i+1)):=by
    unfold B0;dsimp only;rw [hP,j0 (by simp only [D4];omega),D8 (by omega),a1i (z:=i+1) (by omega)];cases fine<;>rfl
   simp only [I0,hb];obtain⟨s',fine',i',h1,h2,h3,h4⟩:=c1X hM k P hP hP0 hP10 n (i+1) (s++(z8 A ⟨k,i,P⟩).getD ⟨#[]⟩) (fine&&(z8 A ⟨k,i,P⟩).isSome) N (by omega) (by omega) (by rw [b3Z];omega) (by omega);refine⟨s',fine',i',h1,h2,fun hf=>h3 (by rw [hf];rfl),fun hf=> ?_⟩;simp only [U1];cases hp:P7 l k i P with
   |none=>
    dsimp only;exact h3 (by rw [ha,hp];simp)
   |some c=>
    have h5:=h4 (by rw [hf,ha,hp];rfl);dsimp only;cases hg:U1 l k P n (i+1)with
    |none=>rw [hg]at h5;exact h5
    |some t=>
     rw [hg]at h5;refine⟨h5.1, ?_⟩;rw [h5.2,ha,hp];simp only [a3k,Option.getD_some];rw [ByteArray.append_assoc]
theorem b7X {l:List c8} {A:List (A1×ByteArray)} {B:List (Int×Int)} (hM:c5t l A B) (out:List b9) (hw:Written out):
 J9 A B (out,(out.length:Int))=some (match a5U l (out.length:Int)with
  |none=> .inr (out,(out.length:Int))
  |some t=>match decF t with
   |none=> .inr (out,(out.length:Int))
   |some r=>if L8 out r then .inl (out++ [r],((out.length+1:Nat):Int))else .inr (out,(out.length:Int))):=by
 have hlen:=hw.len;have hdep:∀r∈out,a1x r.At.Depot:=fun r hr=>hw.dep hr
 have hb:=hM.b (out.length:Int);unfold J9;dsimp only;unfold a5U;cases hp:P7 l (out.length:Int) 0 0 with
 |none=>
  rw [hp]at hb;have hP:(z8 B (out.length:Int)).getD 0=0:=by rw [hb];rfl
  have hloop:w7 (B0 A B (out.length:Int)) (⟨#[]⟩,decide ((z8 B (out.length:Int)).getD 0>0),0)=some (⟨#[]⟩,false,0):=by
   rw [hP]
   exact U5 (body:=B0 A B (out.length:Int)) (fun _=>((⟨#[]⟩:ByteArray),false,(0:Int))) 0 (by omega) _ (fun k hk=>by omega) (by
    unfold B0;dsimp only;rw [hP,j4 (by decide)])
  rw [hloop,k9];dsimp only;rw [j0 (by decide)]
 |some c0=>
  obtain⟨hw0,g1,g2,_⟩:=a0R hp;have hw1:=hw0;unfold G3 at hw1;rw [hp]at hb;have hP:(z8 B (out.length:Int)).getD 0=c0.Parts:=by rw [hb];rfl
  obtain⟨P,hPn⟩:∃P:Nat,c0.Parts=P:=⟨c0.Parts.toNat,by omega⟩;obtain⟨s',fine',i',h1,h2,_,h4⟩:=c1X hM (out.length:Int) c0.Parts hP (by omega) (by omega) P 0 ⟨#[]⟩ true W8 (by omega) (by omega) (by show 0+24*P≤_;omega) (by unfold W8;omega);have h4:=h4 rfl;have hfine:decide ((z8 B (out.length:Int)).getD 0>0)=true:=by rw [hP];simp only [D4];omega
  have hloop:w7 (B0 A B (out.length:Int)) (⟨#[]⟩,decide ((z8 B (out.length:Int)).getD 0>0),0)=some (s',fine',i'):=by rw [hfine];exact h1
  rw [hloop,k9];dsimp only;rw [show c0.Parts.toNat=P by omega];cases hg:U1 l (out.length:Int) c0.Parts P 0 with
  |none=>
   rw [hg]at h4;subst h4;dsimp only;rw [j0 (by decide)]
  |some t=>
   rw [hg]at h4;obtain⟨rfl,rfl⟩:=h4;rw [c3D]at h2⊢;dsimp only;rw [j4 (by decide),c0l t (by omega),k9];cases hd:decF t with
   |none=>
    dsimp only;rw [j0 (by decide)]
   |some r=>
    obtain⟨hr,he⟩:=a0w hd;dsimp only;rw [j4 (by decide),b9p out r (by omega) hdep (a5t hr),k9];by_cases hn:L8 out r
    · rw [j4 (by simp [hn]),D8 (by simp;omega),j0 hn,W_s (by omega)]
    · rw [j0 (by simp [hn]),j4 hn]
theorem a3e (b:m7) (h:(b.Thread.length+b.Loose.length)*48≤140737488355328):A4 b=some (⟨ofF (a5g (b.Thread++b.Loose)), []⟩,a5g (b.Thread++b.Loose)):=by
 unfold A4 a2I;rw [k9,c2a b h,k9];generalize b.Thread++b.Loose=l;obtain⟨A,B,h1,hM⟩:=c3G l;dsimp only;rw [h1,k9];dsimp only
 have key:∀(n:Nat) (out:List b9) (N:Nat),Written out→61-out.length≤n→n<N→I0 (J9 A B) N (out,(out.length:Int))=some (a2w l n out,((a2w l n out).length:Int)):=by
  intro n
  induction n with
  |zero=>
   intro out N hw hn hN;have:=hw.len;omega
  |succ n ih=>
   intro out N hw hn hN;cases N with
   |zero=>omega
   |succ N=>
    simp only [I0,b7X hM out hw,a2w];cases ht:a5U l (out.length:Int)with
    |none=>rfl
    |some t=>
     dsimp only;cases hd:decF t with
     |none=>rfl
     |some r=>
      dsimp only;by_cases hnx:L8 out r
      · rw [j0 hnx,j0 hnx];have:=ih (out++ [r]) N (hw.snoc (a0w hd).1 hnx) (by simp;omega) (by omega);simp only [N5,List.length_singleton]at this;exact this
      · rw [j4 hnx,j4 hnx]
 have hk:w7 (J9 A B) ([],0)=_:=key 61 [] W8 Written.nil (by simp) (by unfold W8;omega);rw [hk,k9];dsimp only;have hw:=a5Z l;rw [show a2w l 61 []=a5g l from rfl,c4E _ (fun r hr=>hw.rec hr) (by have:=hw.len;omega)];rfl
def N8 (picks:List Int) (i:Nat):Int:=if picks.length=0 then 0 else picks.getD (i % picks.length) 0
def b3N (l:List Int):Prop:=∀x∈l,-9223372036854775808≤x∧x≤9223372036854775807
theorem b1e {picks:List Int} (h:b3N picks) (i:Nat): -9223372036854775808≤N8 picks i∧N8 picks i≤9223372036854775807:=by
 unfold N8;by_cases h0:picks.length=0
 · rw [j0 h0];omega
 · rw [j4 h0];have:i % picks.length<picks.length:=Nat.mod_lt _ (by omega);have:=h picks[i % picks.length] (a3j this);simpa [List.getD,S1 ‹_›]using this
theorem b8T {picks:List Int} (h0:picks.length≠0) (i:Nat):idx picks ((i:Int).tmod (picks.length:Int))=some (N8 picks i):=by
 have hlt:i % picks.length<picks.length:=Nat.mod_lt _ (by omega);have e:(i:Int).tmod (picks.length:Int)=((i % picks.length:Nat):Int):=by rw [Int.tmod_eq_emod_of_nonneg (by omega)];rfl
 rw [e,a0r hlt];unfold N8;rw [j4 h0];simp [List.getD,S1 hlt]
theorem c7d {x n:Int} (hx: -9223372036854775808≤x∧x≤9223372036854775807) (hn:1≤n∧n≤4611686018427387904):(W (x.tmod n+n)).tmod n=x % n:=by
 have h1:=Int.tmod_lt_of_pos x (show 0<n by omega)
 have h2: -n<x.tmod n:=by
  have:=Int.neg_lt_of_neg_lt (show-(x.tmod n)<n from by rw [←Int.neg_tmod];exact Int.tmod_lt_of_pos _ (by omega));exact this
 rw [a1i (by omega),Int.tmod_eq_emod_of_nonneg (by omega),Int.add_emod_right];have h3:x=n*x.tdiv n+x.tmod n:=(Int.mul_tdiv_add_tmod x n).symm
 conv=>rhs;rw [h3]
 rw [Int.mul_add_emod_self_left]
theorem b6a (picks:List Int) (hp:b3N picks) (i:Nat) (n:Int) (hn:1≤n∧n≤4611686018427387904):Z0 picks (i:Int) n=some (N8 picks i % n):=by
 unfold Z0;by_cases h0:picks.length=0
 · rw [j0 (by simp [h0])];unfold N8;rw [j0 h0];simp
 · rw [j4 (by simpa using h0),D8 (by omega),b8T h0,k9,D8 (by omega),D8 (by omega),c7d (b1e hp i) hn]
theorem b6A (picks:List Int) (i:Nat):a1W picks (i:Int)=some (N8 picks i):=by
 unfold a1W;by_cases h0:picks.length=0
 · rw [j0 (by simp [h0])];unfold N8;rw [j0 h0]
 · rw [j4 (by simpa using h0),D8 (by omega),b8T h0];rfl
theorem c2R (x m:Int) (hx: -9223372036854775808≤x∧x≤9223372036854775807) (hm:1≤m∧m≤4611686018427387904):a3y x m=some (x % m):=by
 unfold a3y;rw [D8 (by omega),D8 (by omega),c7d hx hm]
def b0B (picks:List Int) (i:Nat) (out:List c8) (c:c8):List c8:=
 if N8 picks (2*i) % 4=0 then out
 else if N8 picks (2*i) % 4=3 then c::out
 else if N8 picks (2*i) % 4=1∧0<c.Text.size then out++ [⟨c.No,c.Part,c.Parts,c.Size,c.Text.extract 0 (N8 picks (2*i+1) % c.Text.size).toNat⟩]
 else out++ [c]
def a1r (picks:List Int):Nat→List c8→List c8→List c8
 |_,out, []=>out
 |i,out,c::l=>a1r picks (i+1) (b0B picks i out c) l
theorem c0g (picks:List Int) (i:Nat) (out:List c8) (c:c8):(b0B picks i out c).length≤out.length+1:=by
 unfold b0B;split
 · omega
 · split
   · simp
   · split<;>simp
theorem a5v (picks:List Int):∀(l:List c8) (i:Nat) (out:List c8),(a1r picks i out l).length≤out.length+l.length
 | [],_,_=>by simp [a1r]
 |c::l,i,out=>by
  have h1:=a5v picks l (i+1) (b0B picks i out c);have h2:=c0g picks i out c;simp only [a1r,Z7];omega
theorem a6o (picks:List Int):∀(l:List c8) (i:Nat) (out:List c8) (c:c8),a1r picks i out (l++ [c])=b0B picks (i+l.length) (a1r picks i out l) c
 | [],i,out,c=>by simp [a1r]
 |x::l,i,out,c=>by
  simp only [R3,a1r,a6o picks l (i+1),Z7];rw [show i+1+l.length=i+(l.length+1) by omega]
def b9D (b:m7) (picks:List Int):m7:=⟨b.Thread,a1r picks 0 [] b.Loose⟩
structure b9B (b:m7):Prop where
 t:b.Thread.length*48≤140737488355328
 l:(b.Loose.length+1)*48≤140737488355328
 s:∀c∈b.Loose,c.Text.size≤281474976710656
theorem c6s (x:Int):0≤x % 4∧x % 4<4:=by omega
theorem a3r (b:m7) (picks:List Int) (h:b9B b) (hp:b3N picks) (hpl:picks.length≤9223372036854775800):A3 b picks=some (b9D b picks):=by
 unfold A3 o0;have ht:=h.t;have hl:=h.l;rw [D8 (by omega),k9]
 have key:=U5 (body:=K5 b picks) (fun k=>((k:Int),([]:List c8),([]:List c8),([]:List c8),a1r picks 0 [] (b.Loose.take k))) b.Loose.length (by omega) ((b.Loose.length:Int), [], [], [],a1r picks 0 [] b.Loose) (fun k hk=>by
  have hlen:=a5v picks (b.Loose.take k) 0 [];simp only [a6P,a1v,P2]at hlen;have hsn:=a6o picks (b.Loose.take k) 0 [] b.Loose[k];rw [←a3f hk]at hsn;simp only [a1v,a1Z (a1V hk),P2]at hsn;have htx:=h.s b.Loose[k] (a3j hk);unfold K5;dsimp only;rw [hsn];generalize hO:a1r picks 0 [] (b.Loose.take k)=out at hlen⊢;have e2:W (2*(k:Int))=((2*k:Nat):Int):=by rw [a1i (by omega)];omega
  rw [j0 (by simp only [D4];omega),a0r hk,k9,e2,b6a picks hp _ 4 (by omega),k9,W_s (by omega)];have hm:=c6s (N8 picks (2*k));unfold b0B;by_cases h0:N8 picks (2*k) % 4=0
  · rw [j0 (by simp [h0]),j0 h0]
  · rw [j4 (by simpa using h0),j4 h0]
    by_cases h3:N8 picks (2*k) % 4=3
    · rw [j0 (by simp [h3]),j0 h3];unfold C9;rw [D8 (by simp),j4 (by simp)];by_cases hz:out.length=0
      · have:out= []:=a2h hz;subst this;rw [j0 (by simp),D8 (by simp)];rfl
      · rw [j4 (by simp only [a0u];omega),D8 (by simp;omega)];rfl
    · rw [j4 (by simpa using h3),j4 h3]
      by_cases h1:N8 picks (2*k) % 4=1
      · rw [j0 (by simp [h1])];by_cases hs:0<b.Loose[k].Text.size
        · rw [j0 (by simp only [D4];omega),j0 ⟨h1,hs⟩];have e3:W (((2*k:Nat):Int)+1)=((2*k+1:Nat):Int):=W_s (by omega);have hpos:0≤N8 picks (2*k+1) % (b.Loose[k].Text.size:Int):=Int.emod_nonneg _ (by omega);have hlt:N8 picks (2*k+1) % (b.Loose[k].Text.size:Int)<(b.Loose[k].Text.size:Int):=Int.emod_lt_of_pos _ (by omega);rw [e3,b6a picks hp _ _ (by omega),k9,D8 (by omega)];unfold a1j G4;rw [D8 (by rw [ByteArray.size_extract];omega),k9,k9,D8 (by simp;omega)]
        · rw [j4 (by simp only [D4];omega),j4 (by rintro⟨_,h⟩;exact hs h),D8 (by simp;omega)]
      · rw [j4 (by simpa using h1),j4 (by rintro⟨h,_⟩;exact h1 h),D8 (by simp;omega)]) (by
  unfold K5;dsimp only;rw [j4 (by simp),a5Y])
 rw [a7I]at key;have key2:w7 (K5 b picks) (0, [], [], [], [])=_:=key;rw [key2];rfl
theorem c1g (b:m7) (picks:List Int) (h:b9B b) (hp:b3N picks) (hpl:picks.length≤9223372036854775800):a3L b picks=some (b9D b picks):=by
 unfold a3L;have ht:=h.t;have hl:=h.l;rw [D8 (by simp;omega)]
 have key:=U5 (body:=P5 b picks) (fun k=>((k:Int),([]:List c8),([]:List c8),([]:List c8),([]:List c8),([]:List c8),a1r picks 0 [] (b.Loose.take k))) b.Loose.length (by omega) ((b.Loose.length:Int), [], [], [], [], [],a1r picks 0 [] b.Loose) (fun k hk=>by
  have hlen:=a5v picks (b.Loose.take k) 0 [];simp only [a6P,a1v,P2]at hlen;have hsn:=a6o picks (b.Loose.take k) 0 [] b.Loose[k];rw [←a3f hk]at hsn;simp only [a1v,a1Z (a1V hk),P2]at hsn;have htx:=h.s b.Loose[k] (a3j hk);unfold P5;dsimp only;rw [hsn];generalize hO:a1r picks 0 [] (b.Loose.take k)=out at hlen⊢;have e2:W (2*(k:Int))=((2*k:Nat):Int):=by rw [a1i (by omega)];omega
  rw [j0 (by simp only [D4];omega),a0r hk,k9,e2,b6A,k9,c2R _ 4 (b1e hp _) (by omega),k9,W_s (by omega)];have hm:=c6s (N8 picks (2*k));unfold b0B;by_cases h0:N8 picks (2*k) % 4=0
  · rw [j0 (by simp [h0]),j0 h0]
  · rw [j4 (by simpa using h0),j4 h0]
    by_cases h1:N8 picks (2*k) % 4=1
    · have h3:¬N8 picks (2*k) % 4=3:=by omega
      rw [j0 (by simp [h1]),j4 h3];by_cases hs:0<b.Loose[k].Text.size
      · rw [j0 (by simp only [D4];omega),j0 ⟨h1,hs⟩];have e3:W (((2*k:Nat):Int)+1)=((2*k+1:Nat):Int):=W_s (by omega);have hpos:0≤N8 picks (2*k+1) % (b.Loose[k].Text.size:Int):=Int.emod_nonneg _ (by omega);have hlt:N8 picks (2*k+1) % (b.Loose[k].Text.size:Int)<(b.Loose[k].Text.size:Int):=Int.emod_lt_of_pos _ (by omega);rw [e3,b6A,k9,c2R _ _ (b1e hp _) (by omega),k9,D8 (by omega),j4 (by simp [h1]),D8 (by simp;omega)]
      · rw [j4 (by simp only [D4];omega),j4 (by simp [h1]),j4 (by rintro⟨_,h⟩;exact hs h),D8 (by simp;omega)]
    · rw [j4 (by simpa using h1)]
      by_cases h3:N8 picks (2*k) % 4=3
      · rw [j0 (by simp [h3]),j0 h3,D8 (by simp;omega)];rfl
      · rw [j4 (by simpa using h3),j4 h3,j4 (by rintro⟨h,_⟩;exact h1 h),D8 (by simp;omega)]) (by
  unfold P5;dsimp only;rw [j4 (by simp),a5Y])
 rw [a7I]at key;have key2:w7 (P5 b picks) (0, [], [], [], [], [], [])=_:=key;rw [key2];rfl
def Bef (a b:u0):Prop:=a.Depot<b.Depot∨(a.Depot=b.Depot∧a.No<b.No)
instance (a b : u0) : Decidable (Bef a b) := by unfold Bef; infer_instance
theorem Bef.trans {a b c:u0} (h:Bef a b) (k:Bef b c):Bef a c:=by unfold Bef at*;omega
def c6D (l:List b9):Prop:=l.Pairwise fun a b=>Bef a.At b.At
def c5B (l:List b9):Prop:=l.Pairwise fun a b=>a.At≠b.At
def c4Q (p:List b9) (r:b9):Prop:=B1 r∧(∀y,p.getLast?=some y→Bef y.At r.At)∧((cnt p r.At.Depot:Nat):Int)=r.At.No
def a4k (l:List b9):Prop:=∀(i:Nat) (r:b9),l[i]?=some r→c4Q (l.take i) r
theorem a4k.nil:a4k []:=fun i r h=>by simp at h
theorem b7z {l:List b9} {r:b9}:a4k (l++ [r])↔a4k l∧c4Q l r:=by
 constructor
 · intro h;refine⟨fun i x hx=> ?_, ?_⟩
   · obtain⟨hi,rfl⟩:=M5.1 hx;have:=h i l[i] (by rw [a9h hi,hx]);rwa [b3p (a1V hi)]at this
   · have:=h l.length r (by simp);simpa using this
 · intro⟨h,hr⟩ i x hx;rcases Nat.lt_trichotomy i l.length with h1|h1|h1
   · rw [a9h h1]at hx;have:=h i x hx;rwa [b3p (a1V h1)]
   · subst h1;simp at hx;subst hx;simpa using hr
   · rw [a8Y (by simp;omega)]at hx;cases hx
theorem a4k.facts:∀(n:Nat) {l:List b9},l.length=n→a4k l→(∀r∈l,B1 r)∧c6D l∧∀x,l.getLast?=some x→(∀r∈l,r=x∨Bef r.At x.At)∧((cnt l x.At.Depot:Nat):Int)=x.At.No+1∧∀d,x.At.Depot<d→cnt l d=0
 |0,l,hn,_=>by
  obtain rfl:=List.length_eq_zero_iff.1 hn;exact⟨by simp,List.Pairwise.nil,by simp⟩
 |n+1,l,hn,h=>by
  rcases List.eq_nil_or_concat l with rfl|⟨L,b,rfl⟩
  · simp at hn
  · rw [List.concat_eq_append]at h hn⊢;obtain⟨h1,h2⟩:=b7z.1 h;obtain⟨f1,f2,f3⟩:=a4k.facts n (by simpa using hn) h1
    obtain⟨b1,b2,b3⟩:=h2
    have hb:∀r∈L,Bef r.At b.At:=fun r hr=>by
     cases hg:L.getLast? with
     |none=>rw [List.getLast?_eq_none_iff]at hg;subst hg;cases hr
     |some y=>
      rcases(f3 y hg).1 r hr with e|e
      · rw [e];exact b2 y hg
      · exact e.trans (b2 y hg)
    refine⟨fun r hr=> ?_, ?_,fun x hx=> ?_⟩
    · rcases B4.1 hr with hr|hr
      · exact f1 r hr
      · obtain rfl:=a1t.1 hr;exact b1
    · unfold c6D at f2⊢;rw [List.pairwise_append];exact⟨f2,List.pairwise_singleton _ _,fun a ha c hc=>by obtain rfl:=a1t.1 hc;exact hb a ha⟩
    · rw [List.getLast?_concat]at hx;cases hx;refine⟨fun r hr=> ?_, ?_,fun d hd=> ?_⟩
      · rcases B4.1 hr with hr|hr
        · exact .inr (hb r hr)
        · exact .inl (a1t.1 hr)
      · rw [a7D,j0 rfl];omega
      · rw [a7D,j4 (by omega)];cases hg:L.getLast? with
        |none=>rw [List.getLast?_eq_none_iff]at hg;subst hg;rfl
        |some y=>
         have:=b2 y hg;have:=(f3 y hg).2.2 d (by unfold Bef at this;omega);omega
theorem a4k.rec {l:List b9} (h:a4k l) {r:b9} (hr:r∈l):B1 r:=(a4k.facts _ rfl h).1 r hr
theorem a4k.dep {l:List b9} (h:a4k l) {r:b9} (hr:r∈l):a1x r.At.Depot:=a5t (h.rec hr)
theorem Written.pre {l:List b9} {r:b9} (h:Written (l++ [r])):Written l∧B1 r∧L8 l r:=by
 refine⟨fun i x hx=> ?_, ?_⟩
 · obtain⟨hi,rfl⟩:=M5.1 hx;have:=h i l[i] (by rw [a9h hi,hx]);rwa [b3p (a1V hi)]at this
 · have:=h l.length r (by simp);simpa using this
theorem Written.take {l:List b9} (h:Written l) (n:Nat):Written (l.take n):=by
 intro i r hi;rw [a3t]at hi;split at hi
 · rename_i hn;have:=h i r hi;rw [List.take_take,a1Z (by omega)];exact this
 · cases hi
structure Bx (b:m7) (l:List b9) (n:Nat):Prop where
 w:Written l
 t:b.Thread=ofF (l.take n)
 a:b.Thread++b.Loose=ofF l
 f:n≤l.length
theorem Bx.len {b:m7} {w:List b9} {f:Nat} (h:Bx b w f):b.Thread.length+b.Loose.length≤1020:=by
 have h1:=a7E w 0 (fun r hr=>h.w.rec hr);have h2:=h.w.len;have h3:(b.Thread++b.Loose).length=(ofK 0 w).length:=m9 List.length h.a;rw [N5]at h3;omega
theorem Bx.nil:Bx ⟨[], []⟩ [] 0:=⟨Written.nil,by simp [ofF,ofK],by simp [ofF,ofK],u2 _⟩
def HB (b:m7) (w:List b9):Prop:=Written w∧b.Thread++b.Loose=ofF w
theorem HB.len {b:m7} {w:List b9} (h:HB b w):b.Thread.length+b.Loose.length≤1020:=by
 have h1:=a7E w 0 (fun r hr=>h.1.rec hr);have h2:=h.1.len;have h3:(b.Thread++b.Loose).length=(ofK 0 w).length:=m9 List.length h.2;rw [N5]at h3;omega
theorem c5B.filter {w:List b9} (h:c5B w) (p:b9→Bool):c5B (w.filter p):=List.Pairwise.filter p h
theorem c3Z (b:m7) (hb:(b.Thread.length+b.Loose.length)*48≤140737488355328):O1 b=some ⟨b.Thread++b.Loose, []⟩:=by
 unfold O1;rw [a9V b (by omega)];rfl
theorem c2x (b:m7) (hb:(b.Thread.length+b.Loose.length)*48≤140737488355328):a3Z b=some ⟨b.Thread++b.Loose, []⟩:=by
 unfold a3Z;rw [c4C b (by omega)];rfl
theorem a6s (b:m7) (h:b.Thread.length+b.Loose.length≤9223372036854775800):P6 b b=some true:=by
 unfold P6;rw [a7M _ _ (by omega),k9,a7M _ _ (by omega),k9];simp
end Go.Proofs.YtggdlgclohnbaaaGreatDoor
namespace Go.Proofs.YtggdlgclohnbaaaGreatDoor
open Go Go.RowKit Go.Sx
theorem c2p {H:Type} (d:DataW H):1≤Rows.uptoBulk d:=by
 cases d with
 |lit l=>cases l<;>simp [Rows.uptoBulk]
 |nil=>simp [Rows.uptoBulk]
 |ptr d=>simp [Rows.uptoBulk]
 |slice elems spare=>simp [Rows.uptoBulk]
 |agg parts=>simp [Rows.uptoBulk]
 |iface t d=>simp [Rows.uptoBulk]
 |map entries=>simp [Rows.uptoBulk]
 |held h=>simp [Rows.uptoBulk]
theorem c1V {H:Type} (l:List (DataW H)):l.length≤Rows.uptoBulkAll l:=by
 induction l with
 |nil=>simp [Rows.uptoBulkAll]
 |cons x r ih=>have:=c2p x;simp only [Rows.uptoBulkAll,Z7];omega
theorem b1L {H:Type} {enc:TypeId×Value→H} {w:World} {fuel:Nat} {t e:TypeId} {ok:Nat→Prop} {z n:Nat} {l:List D} {c:Value} {x:DataW H×List MemPlace} (hu:Tryz.prog.underlying t=some (.slice e)) (hr:Rep ok w (.lst z n l) c)
 (ht:DataW.trod enc Tryz.prog w 0 (fun _=>true) true fuel t [c]=some x):n+1≤Rows.uptoBulk x.1:=by
 simp only [Rep]at hr;obtain⟨a,cap,hc,_⟩:=hr;subst hc;rcases DataW.trod_slice hu ht with⟨h1,rfl⟩|⟨a',len,cap',elems,rest,fuel',_,h1,rfl,_,_,_,e1,_⟩
 · simp only [a2C,Value.slice.injEq,and_true]at h1;simp only [Rows.uptoBulk];omega
 · simp only [a2C,Value.slice.injEq,and_true]at h1;have:=c1V (elems.map (·.1));simp only [Rows.uptoBulk,a9b]at this⊢;omega
theorem c4u {α:Type}:∀ {l:List α},l.length=2→∃a b,l= [a,b]
 | [a,b],_=>⟨a,b,rfl⟩
theorem c0a {H:Type} {enc:TypeId×Value→H} {W:World} {ok:Nat→Prop} {ts:List TypeId} {args:List Value} {ds:List (DataW H)} {ps:List MemPlace} (x:m7) {cr:List D} (hr:i6 ok W (.agg (m7.c x)::cr) args)
 (ht:DataW.TrodAll enc Tryz.prog W 0 (fun _=>true) true (24::ts) args ds ps) (hk:Rows.uptoSmall H (ds++ [])=true):x.Thread.length+x.Loose.length≤1048576:=by
 obtain⟨v,vs',d,ds',p,q,rfl,rfl,rfl,⟨fuel,h1⟩,h2⟩:=Go.ChangeShapes.trodAll_cons ht;have hb:=of_decide_eq_true hk;rw [b0g]at hb;simp only [Rows.uptoBulkAll]at hb;have hv:=hr.1;simp only [Rep]at hv;obtain⟨cs,rfl,hcs,_⟩:=hv;cases fuel with
 |zero=>simp [DataW.trod]at h1
 |succ fuel=>
  simp only [DataW.trod,Tryz.underlying24]at h1;split at h1
  · rename_i hl;rw [Option.map_eq_some_iff]at h1;obtain⟨xs,hx,he⟩:=h1;obtain⟨b0,r0,m0,m1,rfl⟩:=Q8 hx;obtain⟨b1,r1,m2,m3,rfl⟩:=Q8 m1;cases he;have hcs':i6 ok W [lD 5 x.Thread c8.c,lD 5 x.Loose c8.c] cs.toList:=hcs;have hc:Tryz.prog.cellsOf 22=1:=by kernel_rfl
    have hu:∃e,Tryz.prog.underlying 22=some (.slice e):=⟨_,Tryz.underlying22⟩;obtain⟨e,hu⟩:=hu;have hcells:(Value.agg cs).cells.toList=cs.toList:=rfl;rw [hcells]at m0 m2;generalize cs.toList=L at hcs' m0 m2;have hL:=hcs'.length;obtain⟨c0,c1,rfl⟩:=c4u (show L.length=2 from by rw [←hL];rfl);have q0:=hcs'.1;have q1:=hcs'.2.1;dsimp only at m0 m2;rw [hc]at m0 m2;have k0:=b1L hu q0 m0;have k1:=b1L hu q1 m2;simp only [Rows.uptoBulk,B8,Rows.uptoBulkAll]at hb;omega
  · cases h1
end Go.Proofs.YtggdlgclohnbaaaGreatDoor
namespace Go.Proofs.YtggdlgclohnbaaaGreatDoor
open Go Go.Sx
def RS:b9:=⟨⟨2,0⟩,5,10,12,⟨0,0⟩,⟨#[97,32,108,97,109,112,32,111,110,32,116,104,101,32,113,117,97,121]⟩⟩
def TS:ByteArray:=⟨#[50,32,48,32,53,32,49,48,32,49,50,32,48,32,48,32,97,32,108,97,109,112,32,111,110,32,116,104,101,32,113,117,97,121]⟩
def T0:ByteArray:=⟨#[50,32,48,32,53,32,49,48,32,49,50,32,48,32,48,32,97,32,108,97,109,112,32,111]⟩
def T1:ByteArray:=⟨#[110,32,116,104,101,32,113,117,97,121]⟩
def C0 (no:Int):c8:=⟨no,0,2,24,T0⟩
def C1 (no:Int):c8:=⟨no,1,2,10,T1⟩
theorem a6b:B1 RS:=by decide+kernel
theorem b7g (u:Nat) (h:u<10):Lib.itoa (u:Int)= [UInt8.ofNat (48+u)]:=by
 rw [Lib.itoa_nonneg,Lib.decDigits,dif_pos h]
theorem c1m (u:Nat) (h:10≤u∧u<100):Lib.itoa (u:Int)= [UInt8.ofNat (48+u / 10),UInt8.ofNat (48+u % 10)]:=by
 rw [Lib.itoa_nonneg,Lib.decDigits,dif_neg (by omega),Lib.decDigits,dif_pos (by omega)];rfl
theorem b7v:R2 RS=TS:=by
 have h0:=b7g 0 (by omega);have h2:=b7g 2 (by omega);have h5:=b7g 5 (by omega);have h10:=c1m 10 (by omega);have h12:=c1m 12 (by omega);apply a7b;apply F5;rw [a5B];unfold F4 B2 RS;simp only [J1,List.flatMap_nil];rw [show(2:Int)=((2:Nat):Int) from rfl,show(0:Int)=((0:Nat):Int) from rfl,show(5:Int)=((5:Nat):Int) from rfl,show(10:Int)=((10:Nat):Int) from rfl,show(12:Int)=((12:Nat):Int) from rfl,h0,h2,h5,h10,h12];decide+kernel
theorem b1T (no:Int):a4b (R2 RS) no= [C0 no,C1 no]:=by
 rw [b7v];have e0:a8h TS 0=T0:=by decide+kernel
 have e1:a8h TS 1=T1:=by decide+kernel
 have hz:TS.size=34:=by decide+kernel
 have s0:T0.size=24:=by decide+kernel
 have s1:T1.size=10:=by decide+kernel
 have hr:List.range (J5 34)= [0,1]:=by decide+kernel
 unfold a4b;rw [hz,hr];simp only [B8,a5X,b6n,e0,e1,hz,s0,s1,C0,C1];rfl
theorem c4Z:Z1 RS=some (TS,0):=by
 unfold Z1;rw [X8 RS (by have:=a0m a6b;omega),k9,j4 (by simp [a6b]),a5I a6b,b7v];rfl
theorem c2K:a0N RS 3=some ([C0 3,C1 3],0):=by
 unfold a0N;rw [X8 RS (by have:=a0m a6b;omega),k9,j4 (by simp [a6b]),a5G,k9,j4 (by decide),a8r a6b,b1T];rfl
theorem c0u:a5V []= []:=a2h (a3b [])
theorem c3E:a1D ⟨[], []⟩ []=some true:=by
 unfold a1D;rw [areWritten_eq [] (by simp) (by simp),k9,j0 (by simp [Written.nil]),a9V _ (by simp),k9,c4E [] (by simp) (by simp),k9];dsimp only;rw [c2Q _ _ (by simp)];simp [ofF,ofK]
theorem c5z:∃b,a2B ⟨[]⟩ RS=some (b,0):=by
 have hb:a0j ⟨[]⟩=some true:=by
  have:w7 (L3 ⟨[]⟩) (0,(-1),0)=some (.inl (0,-1,0)):=U5 (body:=L3 ⟨[]⟩) (fun _=>((0:Int),(-1:Int),(0:Int))) 0 (by omega) _ (fun k hk=>by omega) (by unfold L3;dsimp only;rw [j4 (by simp)]);unfold a0j;rw [this];rfl
 have hf:a3Q ⟨[]⟩ RS.At=some (0,false):=by decide+kernel
 unfold a2B;rw [hb,k9,j4 (by decide),X8 RS (by have:=a0m a6b;omega),k9,j4 (by simp [a6b]),hf,k9];dsimp only;rw [j4 (by decide),b7D [] (by simp) (by simp),k9];have e:idx [(a4C []).1,(a4C []).2.1,(a4C []).2.2.1,(a4C []).2.2.2.1,(a4C []).2.2.2.2.1,(a4C []).2.2.2.2.2] RS.At.Depot=some 0:=by decide+kernel
 rw [e,k9,j4 (by decide),j4 (by decide)];unfold l7;rw [D8 (by simp),k9,D8 (by simp)];unfold M9;rw [D8 (by simp)];exact⟨_,rfl⟩
theorem c2N:a0L ⟨[], []⟩ [] RS=some (⟨[], [C0 0,C1 0]⟩, [RS],0):=by
 obtain⟨b,hb⟩:=c5z;have hc:A6 [] RS=some false:=by decide+kernel
 unfold a0L a2N;rw [c3E,k9,j4 (by decide),hc,k9,j4 (by decide)];unfold M9;rw [D8 (by simp),k9,c0u,hb,k9];dsimp only;rw [j4 (by decide)];unfold R5 o0 l7;rw [D8 (by simp),k9,D8 (by simp),k9,k9];dsimp only;rw [show((([]:List b9).length:Nat):Int)=0 from rfl,a8r a6b,b1T,k9,D8 (by simp),k9,D8 (by simp)];rfl
theorem b8L:b9B ⟨[], [C0 0,C1 0]⟩:=⟨by simp,by simp,fun c hc=>by
 simp only [o4,a8X,or_false]at hc;rcases hc with rfl|rfl
 · show T0.size≤_;decide+kernel
 · show T1.size≤_;decide+kernel⟩
theorem b5L {l:List Int} (h:(l.all fun x=>decide (0≤x∧x≤100))=true):b3N l:=fun x hx=>by
 have:=of_decide_eq_true (L5.1 h x hx);omega
theorem c6v:A3 ⟨[], [C0 0,C1 0]⟩ [2,0]=some ⟨[], [C0 0,C1 0]⟩:=by
 rw [a3r _ _ b8L (b5L (by decide)) (by simp)];decide+kernel
theorem c6i:A3 ⟨[], [C0 0,C1 0]⟩ [3,0]=some ⟨[], [C1 0,C0 0]⟩:=by
 rw [a3r _ _ b8L (b5L (by decide)) (by simp)];decide+kernel
theorem c6W:A3 ⟨[], [C0 0,C1 0]⟩ [2,0,0,0]=some ⟨[], [C0 0]⟩:=by
 rw [a3r _ _ b8L (b5L (by decide)) (by simp)];decide+kernel
theorem c6Y:A3 ⟨[], [C0 0,C1 0]⟩ [2,0,1,9]=some ⟨[], [C0 0,⟨0,1,2,10,⟨#[110,32,116,104,101,32,113,117,97]⟩⟩]⟩:=by
 rw [a3r _ _ b8L (b5L (by decide)) (by simp)];decide+kernel
theorem c6f:A3 ⟨[C0 0,C1 0], []⟩ [0,0]=some ⟨[C0 0,C1 0], []⟩:=by
 rw [a3r _ _ ⟨by simp,by simp,by simp⟩ (b5L (by decide)) (by simp)];decide+kernel
theorem b0U {l:List c8} (h0:a5U l 0=some TS) (h1:a5U l 1=none):a5g l= [RS]:=by
 have hd:decF TS=some RS:=by rw [←b7v];exact b5Q a6b
 have hn:L8 [] RS:=by decide+kernel
 unfold a5g;rw [show(61:Nat)=59+1+1 from rfl,a2w];rw [show((([]:List b9).length:Nat):Int)=0 from rfl,h0];dsimp only;rw [hd];dsimp only;rw [j0 hn,a2w];rw [show((([]++ [RS]:List b9).length:Nat):Int)=1 from rfl,h1];rfl
theorem b3k {l:List c8} (h0:a5U l 0=none):a5g l= []:=by
 unfold a5g;rw [show(61:Nat)=60+1 from rfl,a2w];rw [show((([]:List b9).length:Nat):Int)=0 from rfl,h0]
theorem b7o:ofF [RS]= [C0 0,C1 0]:=by
 unfold ofF ofK ofK;rw [b1T];rfl
theorem c7n:A4 ⟨[], [C0 0,C1 0]⟩=some (⟨[C0 0,C1 0], []⟩, [RS]):=by
 rw [a3e _ (by simp),b0U (by decide+kernel) (by decide+kernel),b7o]
theorem c7i:A4 ⟨[], [C1 0,C0 0]⟩=some (⟨[C0 0,C1 0], []⟩, [RS]):=by
 rw [a3e _ (by simp),b0U (by decide+kernel) (by decide+kernel),b7o]
theorem c5W:A4 ⟨[], [C0 0]⟩=some (⟨[], []⟩, []):=by
 rw [a3e _ (by simp),b3k (by decide+kernel)];rfl
theorem c6U:A4 ⟨[], [C0 0,⟨0,1,2,10,⟨#[110,32,116,104,101,32,113,117,97]⟩⟩]⟩=some (⟨[], []⟩, []):=by
 rw [a3e _ (by simp),b3k (by decide+kernel)];rfl
theorem c6J:A4 ⟨[C0 0,C1 0], []⟩=some (⟨[C0 0,C1 0], []⟩, [RS]):=by
 rw [a3e _ (by simp),b0U (by decide+kernel) (by decide+kernel),b7o]
theorem c4s:O1 ⟨[], [C0 0,C1 0]⟩=some ⟨[C0 0,C1 0], []⟩:=by
 unfold O1;rw [a9V _ (by simp)];rfl
theorem c4i:a3T=some true:=by
 unfold a3T;rw [show(⟨(⟨2,0⟩:u0),5,10,12,(⟨0,0⟩:u0),(⟨#[97,32,108,97,109,112,32,111,110,32,116,104,101,32,113,117,97,121]⟩:ByteArray)⟩:b9)=RS from rfl];rw [c4Z,k9];dsimp only;rw [c2K,k9];dsimp only;rw [c2N,k9];dsimp only;rw [c6v,k9,c7n,k9];dsimp only;rw [c6i,k9,c7i,k9];dsimp only;rw [c6W,k9,c5W,k9];dsimp only;rw [c6Y,k9,c6U,k9];dsimp only;rw [c4s,k9,c6f,k9,c6J,k9];dsimp only;rw [j0 (by decide),j0 (by decide),j0 (by decide),j0 (by decide),j0 (by decide),j0 (by decide),j0 (by decide)];rw [show idx [C0 3,C1 3] 0=some (C0 3) from rfl,k9,show idx [C0 3,C1 3] 1=some (C1 3) from rfl];rw [j0 (by rw [a2a];decide+kernel),k9,j0 (by rw [a2a];decide+kernel),j0 (by rw [a2a];decide+kernel)];rw [j0 (by decide),j0 (by decide),j0 (by decide),j0 (by decide),j0 (by decide),j0 (by decide)];rfl
end Go.Proofs.YtggdlgclohnbaaaGreatDoor
namespace Go.Proofs.YtggdlgclohnbaaaGreatDoor
open Go Go.RowKit Go.Sx
theorem b2q (x0:m7) (x1:(List Int)) (h0:m7.G x0) (h1:(x1.length*8≤reachBytes∧x1.length≤maxLen∧∀y:Int,y∈x1→InK .i64 y)) (hk:x0.Thread.length+x0.Loose.length≤1048576):a0F x0 x1=some true:=by
 have hrb:reachBytes≤281474976710656:=by decide
 have p1:b3N x1:=fun x hx=>h1.2.2 x hx
 have hsz:b9B x0:=⟨by omega,by omega,fun c hc=>by have:=(h0.2.2.2 c hc).2.2.2.2;omega⟩;have hof:=(show HB ⟨ofF (a5g (x0.Thread++x0.Loose)), []⟩ _ from⟨a5Z _,by rw [b0g]⟩);have l1:=hof.len;have l2:=hof.1.len;have l3:=a5v x1 x0.Loose 0 [];simp only [a6P]at l1 l3
 have l4:(b9D x0 x1).Thread.length+(b9D x0 x1).Loose.length≤9223372036854775800:=by
  show x0.Thread.length+(a1r x1 0 [] x0.Loose).length≤_;omega
 unfold a0F;rw [c4i,k9,a3e x0 (by omega),c1t x0 (by omega),c3Z x0 (by omega),c2x x0 (by omega),a3r x0 x1 hsz p1 (by omega),c1g x0 x1 hsz p1 (by omega)];simp only [k9];rw [a6s _ (by simp only [a6P];omega),b1D _ _ (by omega),a6s _ (by simp only [N5,a6P];omega),a6s _ l4];simp
end Go.Proofs.YtggdlgclohnbaaaGreatDoor
