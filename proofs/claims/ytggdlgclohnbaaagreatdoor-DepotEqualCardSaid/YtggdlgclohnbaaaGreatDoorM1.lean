/- What may be read at the types of the statement's parameters; plain facts. -/
import Derived.Test.YtggdlgclohnbaaaGreatDoorL2
set_option linter.unusedVariables false
set_option linter.unusedSimpArgs false
namespace Go.Proofs.YtggdlgclohnbaaaGreatDoor
open Go Go.RowKit Go.Sx
theorem d0U:F3 Tryz.prog 46 (fun(x:(Int×Int×Int×Int×Int))=> [DI x.1,DI x.2.1,DI x.2.2.1,DI x.2.2.2.1,DI x.2.2.2.2]) (fun x:(Int×Int×Int×Int×Int)=>(InK .i64 x.1∧InK .i64 x.2.1∧InK .i64 x.2.2.1∧InK .i64 x.2.2.2.1∧InK .i64 x.2.2.2.2)):=
 (F3.arr Tryz.underlying46 (a4e.cons (s:=1) (F3.int Tryz.underlying3) (a4e.cons (s:=1) (F3.int Tryz.underlying3) (a4e.cons (s:=1) (F3.int Tryz.underlying3) (a4e.cons (s:=1) (F3.int Tryz.underlying3) (a4e.last (s:=1) (F3.int Tryz.underlying3) rfl (by kernel_rfl) rfl) rfl (by kernel_rfl)) rfl (by kernel_rfl)) rfl (by kernel_rfl)) rfl (by kernel_rfl)) (by kernel_rfl)).iso (fun x=>x) (fun _=>rfl) (fun _ h=>h)
theorem d0W:F3 Tryz.prog 25 (fun l:(List Int)=> [.lst 1 l.length (l.flatMap cI)]) (fun l=>(l.length*8≤reachBytes∧l.length≤maxLen∧∀y:Int,y∈l→InK .i64 y)):=
 F3.slice Tryz.underlying25 (F3.int Tryz.underlying3) (by kernel_rfl) (by kernel_rfl) (fun _=>rfl) (fun _=>rfl) (by decide)
def a1c.G (x:a1c):Prop:=InK .i64 x.Kind∧InK .i64 x.Depot∧InK .i64 x.To∧(InK .i64 x.Record.1∧InK .i64 x.Record.2.1∧InK .i64 x.Record.2.2.1∧InK .i64 x.Record.2.2.2.1∧InK .i64 x.Record.2.2.2.2)∧(x.Picks.length*8≤reachBytes∧x.Picks.length≤maxLen∧∀y:Int,y∈x.Picks→InK .i64 y)
theorem c9w:F3 Tryz.prog 168 a1c.c a1c.G:=
 (F3.struct Tryz.underlying168 (a1e.cons (s:=1) (F3.int Tryz.underlying3) (a1e.cons (s:=1) (F3.int Tryz.underlying3) (a1e.cons (s:=1) (F3.int Tryz.underlying3) (a1e.cons (s:=5) d0U (a1e.last (s:=1) d0W rfl (by kernel_rfl) rfl) rfl (by kernel_rfl)) rfl (by kernel_rfl)) rfl (by kernel_rfl)) rfl (by kernel_rfl)) (by kernel_rfl)).iso (fun x=>(⟨x.1,x.2.1,x.2.2.1,x.2.2.2.1,x.2.2.2.2⟩:a1c)) (fun _=>rfl) (fun _ h=>h)
theorem d1f:F3 Tryz.prog 84 (fun l:(List a1c)=> [.lst 9 l.length (l.flatMap a1c.c)]) (fun l=>(l.length*88≤reachBytes∧l.length≤maxLen∧∀y:a1c,y∈l→a1c.G y)):=
 F3.slice Tryz.underlying84 c9w (by kernel_rfl) (by kernel_rfl) (fun _=>rfl) (fun _=>rfl) (by decide)
end Go.Proofs.YtggdlgclohnbaaaGreatDoor
namespace Go.Proofs.YtggdlgclohnbaaaGreatDoor
open Go Go.Sx
theorem a5r {z:Int} (h: -9223372036854775808≤z∧z≤9223372036854775807):W z=z:=b7W h
theorem W_s {k:Nat} (h:k<9223372036854775807):W ((k:Int)+1)=((k+1:Nat):Int):=a5Y h
def P5 {α σ R:Type} (f:σ→α→Sum σ R):List α→σ→Sum σ R
 | [],s=> .inl s
 |x::l,s=>match f s x with| .inl s'=>P5 f l s'| .inr r=> .inr r
theorem a1l {α σ S E R:Type} {body:S→Option (Sum S E)} (l:List α) (hl:l.length≤9223372036854775807) (enc:Nat→σ→S) (f:σ→α→Sum σ R) (out:R→E) (fin:σ→E) (P:List α→σ→Prop)
 (h:∀pre x post s,l=pre++x::post→P pre s→body (enc pre.length s)=some (match f s x with| .inl s'=> .inl (enc (pre.length+1) s')| .inr r=> .inr (out r))∧∀s',f s x= .inl s'→P (pre++ [x]) s')
 (he:∀s,P l s→body (enc l.length s)=some (.inr (fin s))) (s0:σ) (h0:P [] s0):
 r6 body (enc 0 s0)=some (match P5 f l s0 with| .inl s=>fin s| .inr r=>out r):=by
 have key:∀(post pre:List α) (s:σ) (n:Nat),l=pre++post→P pre s→post.length<n→X5 body n (enc pre.length s)=some (match P5 f post s with| .inl s=>fin s| .inr r=>out r):=by
  intro post
  induction post with
  |nil=>
   intro pre s n hp hs hn;cases n with
   |zero=>omega
   |succ n=>
    simp only [a8A]at hp;subst hp;simp only [X5,he s hs,P5]
  |cons x post ih=>
   intro pre s n hp hs hn;cases n with
   |zero=>omega
   |succ n=>
    obtain⟨h1,h2⟩:=h pre x post s hp hs;simp only [X5,h1,P5];cases hf:f s x with
    |inl s'=>
     have:=ih (pre++ [x]) s' n (by simp [hp]) (h2 s' hf) (by simp at hn;omega);simpa using this
    |inr r=>rfl
 exact key l [] s0 a2n rfl h0 (by unfold a2n;omega)
theorem a3F {α:Type} {pre post:List α} {x:α}:idx (pre++x::post) (pre.length:Int)=some x:=by
 unfold idx;simp
theorem a8X {α:Type} {pre post:List α} {x:α}:((pre.length:Int)<((pre++x::post).length:Int)):=by simp;omega
theorem b4e {α β S E:Type} {body:S→Option (List β×Sum S E)} (l:List α) (hl:l.length≤9223372036854775807) (enc:Nat→S) (em:α→List β) (fin:E)
 (h:∀pre x post,l=pre++x::post→body (enc pre.length)=some (em x, .inl (enc (pre.length+1))))
 (he:body (enc l.length)=some ([], .inr fin)):b4K body (enc 0)=some (l.flatMap em,fin):=by
 have key:∀(post pre:List α) (n:Nat),l=pre++post→post.length<n→a4Y body n (enc pre.length)=some (post.flatMap em,fin):=by
  intro post
  induction post with
  |nil=>
   intro pre n hp hn;cases n with
   |zero=>omega
   |succ n=>
    simp only [a8A]at hp;subst hp;simp only [a4Y,he,List.flatMap_nil]
  |cons x post ih=>
   intro pre n hp hn;cases n with
   |zero=>omega
   |succ n=>
    have:=ih (pre++ [x]) n (by simp [hp]) (by simp at hn;omega);simp only [I9,P3,a1r,a0h]at this;simp only [a4Y,h pre x post hp,this,R2]
 exact key l [] a2n rfl (by unfold a2n;omega)
def b5r {R:Type} (q:Nat→Option R):Nat→Nat→Sum Nat R
 |k,0=> .inl k
 |k,m+1=>match q k with|none=>b5r q (k+1) m|some r=> .inr r
theorem a8o {R:Type} {body:Int→Option (Sum Int (Sum Int R))} (n:Nat) (hn:n≤9223372036854775807) (q:Nat→Option R) (k:Nat) (hk:k≤n)
 (h:∀i,k≤i→i<n→body (i:Int)=some (match q i with|none=> .inl ((i+1:Nat):Int)|some r=> .inr (.inr r)))
 (he:body (n:Int)=some (.inr (.inl (n:Int)))):
 r6 body (k:Int)=some (match b5r q k (n-k)with| .inl j=> .inl (j:Int)| .inr r=> .inr r):=by
 have key:∀(m k N:Nat),k+m=n→m<N→(∀i,k≤i→i<n→body (i:Int)=some (match q i with|none=> .inl ((i+1:Nat):Int)|some r=> .inr (.inr r)))→
  X5 body N (k:Int)=some (match b5r q k m with| .inl j=> .inl (j:Int)| .inr r=> .inr r):=by
  intro m
  induction m with
  |zero=>
   intro k N hkm hN _;cases N with
   |zero=>omega
   |succ N=>
    have:k=n:=by omega
    subst this;simp only [X5,he,b5r]
  |succ m ih=>
   intro k N hkm hN hb;cases N with
   |zero=>omega
   |succ N=>
    simp only [X5,hb k (u3 _) (by omega),b5r];cases hq:q k with
    |none=>exact ih (k+1) N (by omega) (by omega) (fun i h1 h2=>hb i (by omega) h2)
    |some r=>rfl
 exact key (n-k) k a2n (by omega) (by unfold a2n;omega) h
theorem a5M {R:Type} {q:Nat→Option R}:∀(m k:Nat),(∀i,k≤i→i<k+m→q i=none)→b5r q k m= .inl (k+m)
 |0,k,_=>rfl
 |m+1,k,h=>by
  simp only [b5r,h k (u3 _) (by omega)];rw [a5M m (k+1) (fun i h1 h2=>h i (by omega) (by omega))];congr 1;omega
theorem a5P {R:Type} {q:Nat→Option R}:∀(m k i:Nat),k≤i→i<k+m→q i≠none→∃j r,k≤j∧j<k+m∧q j=some r∧b5r q k m= .inr r
 |0,k,i,h1,h2,_=>by omega
 |m+1,k,i,h1,h2,h3=>by
  cases hq:q k with
  |some r=>exact⟨k,r,u3 _,by omega,hq,by simp only [b5r,hq]⟩
  |none=>
   have:k≠i:=fun e=>h3 (e▸hq)
   obtain⟨j,r,a,b,c,d⟩:=a5P m (k+1) i (by omega) (by omega) h3;exact⟨j,r,by omega,by omega,c,by simp only [b5r,hq,d]⟩
theorem c5a {body:Int→Option (Sum Int (Sum Int Bool))} (n:Nat) (hn:n≤9223372036854775807) (q:Nat→Prop) [DecidablePred q] (k:Nat) (hk:k≤n)
 (h:∀i,k≤i→i<n→body (i:Int)=some (if q i then .inl ((i+1:Nat):Int)else .inr (.inr false)))
 (he:body (n:Int)=some (.inr (.inl (n:Int)))) (ans:Bool) (hb:ans=true↔∀i,k≤i→i<n→q i):
 (r6 body (k:Int)).bind (fun e=>match e with| .inl _=>some true| .inr r=>some r)=some ans:=by
 rw [a8o n hn (fun i=>if q i then none else some false) k hk (fun i h1 h2=>by rw [h i h1 h2];by_cases hq:q i<;>simp [hq]) he]
 by_cases hall:∀i,k≤i→i<n→q i
 · rw [a5M _ _ (fun i h1 h2=>by simp [hall i h1 (by omega)])];simp only [j3,hb.2 hall]
 · have:∃i,k≤i∧i<n∧¬q i:=by
    refine a6M fun hn2=>hall fun i h1 h2=>a6M fun h3=>hn2 ⟨i,h1,h2,h3⟩
   obtain⟨i,h1,h2,h3⟩:=this;obtain⟨j,r,a,b,c,d⟩:=a5P (q:=fun i=>if q i then none else some false) (n-k) k i h1 (by omega) (by simp [h3])
   have hr:r=false:=by
    by_cases hqj:q j
    · simp [hqj]at c
    · simpa [hqj]using c.symm
   rw [d,hr];have:ans=false:=by cases ans with|true=>exact absurd (hb.1 rfl) hall|false=>rfl
   simp only [j3,this]
theorem b6X {body:Int→Option (Sum Int (Sum Int Bool))} (n:Nat) (hn:n≤9223372036854775807) (q:Nat→Prop) (k:Nat) (hk:k≤n)
 (h:∀i,k≤i→i<n→(q i∧body (i:Int)=some (.inl ((i+1:Nat):Int)))∨(¬q i∧body (i:Int)=some (.inr (.inr false))))
 (he:body (n:Int)=some (.inr (.inl (n:Int)))) (ans:Bool) (hb:ans=true↔∀i,k≤i→i<n→q i):
 (r6 body (k:Int)).bind (fun e=>match e with| .inl _=>some true| .inr r=>some r)=some ans:=by
 letI:DecidablePred q:=fun _=>Classical.propDecidable _
 exact c5a n hn q k hk (fun i h1 h2=>by rcases h i h1 h2 with⟨a,b⟩|⟨a,b⟩<;>simp only [b,a,C7,F7]) he ans hb
theorem a9A {α:Type} (l:List α) (hl:l.length≤9223372036854775807) (P:α→Option Bool) (p:α→Bool) (hP:∀x,x∈l→P x=some (p x)):
 (Option.bind (Option.bind (r6 (fun(v:Int)=>if(decide (v<(l.length:Int)))=true then Option.bind (idx l v) fun e=>Option.bind (P e) fun x=>if x=true then some (.inr (.inr v))else some (.inl (W (v+1)))else some (.inr (.inl v))) 0)
  fun(e:Sum Int Int)=>match e with| .inl _=>some (-1)| .inr r=>some r) fun x=>some (decide (x≥0)))=some (l.any p):=by
 have hs:=a8o (body:=fun(v:Int)=>if(decide (v<(l.length:Int)))=true then Option.bind (idx l v) fun e=>Option.bind (P e) fun x=>if x=true then some (.inr (.inr v))else some (.inl (W (v+1)))else some (.inr (.inl v)))
  l.length hl (fun i=>match l[i]? with|some x=>if p x then some (i:Int)else none|none=>none) 0 (I2 _) (fun i _ h2=>by
   have hx:idx l (i:Int)=some l[i]:=by simp [idx,h2]
   have hlt:((i:Int)<(l.length:Int)):=by omega
   simp only [hlt,V5,C7,hx,j3,hP _ (a2k h2),G7 h2];by_cases hp:p l[i]=true
   · simp [hp]
   · simp [hp];exact W_s (by omega)) (by simp)
 rw [show((0:Int))=((0:Nat):Int) from rfl,hs];by_cases hany:l.any p=true
 · rw [hany];obtain⟨x,hx,hpx⟩:=List.any_eq_true.1 hany;obtain⟨i,hi,rfl⟩:=b1C hx;obtain⟨j,r,a,b,c,d⟩:=a5P (q:=fun i=>match l[i]? with|some x=>if p x then some (i:Int)else none|none=>none) (l.length-0) 0 i (I2 _) (by omega) (by simp [G7 hi,hpx])
   rw [d];have hj:j<l.length:=by omega
   simp only [G7 hj]at c;split at c
   · simp only [U3]at c;subst c;simp
   · cases c
 · rw [a5M _ _ (fun i _ h2=>by
    have hi:i<l.length:=by omega
    simp only [G7 hi];rw [j0];intro hp;exact hany (List.any_eq_true.2 ⟨l[i],a2k hi,hp⟩))]
   simp [Bool.not_eq_true _▸hany]
theorem q9 {α:Type} {p:Prop} [Decidable p] {k:Option α} (h:p):gd p k=k:=j2 h
def c4r (u:Nat):List UInt8:=if u<10 then []else Lib.decDigits (u / 10)
theorem b7f (u:Nat):Lib.decDigits u=c4r u++ [UInt8.ofNat (48+u % 10)]:=by
 unfold c4r;rw [Lib.decDigits];by_cases h:u<10
 · simp [h,Nat.mod_eq_of_lt h]
 · simp [h]
theorem a3H (n lo hi:Int):B0 n lo hi=some (decide (lo≤n∧n≤hi)):=by
 unfold B0;by_cases h:lo≤n<;>simp [h]
theorem c8D (n lo hi:Int):a3a n lo hi=some (decide (lo≤n∧n≤hi)):=by
 unfold a3a;by_cases h:lo≤n<;>simp [h]
def a4c (x:p0):Prop:=(0≤x.Depot∧x.Depot≤5)∧0≤x.No∧x.No≤9999
instance (x : p0) : Decidable (a4c x) := inferInstanceAs (Decidable (_ ∧ _))
theorem c4A (x:p0):a0e x=some (decide (a4c x)):=by
 unfold a0e E1;simp only [a3H,j3];unfold a4c;by_cases h:0≤x.Depot∧x.Depot≤5
 · simp only [h,V5,C7,X6,a1f]
 · simp only [h,a0O,J4,F7,a2F]
theorem c4y (x:p0):a1O x=some (decide (a4c x)):=by
 unfold a1O;simp only [c8D,j3];unfold a4c;by_cases h:0≤x.Depot∧x.Depot≤5
 · simp only [h,V5,C7,X6,a1f]
 · simp only [h,a0O,J4,F7,a2F]
def a3K (s:ByteArray):Prop:=s.size≤160∧∀c∈s.data.toList,32≤c.toNat∧c.toNat≤126
instance (s : ByteArray) : Decidable (a3K s) := inferInstanceAs (Decidable (_ ∧ _))
theorem Y8 (s:ByteArray):s.size=s.data.toList.length:=by rw [a5s];rfl
theorem c4v (s:ByteArray) (hs:s.size≤9223372036854775807):a2b s=some (decide (a3K s)):=by
 unfold a2b;rw [q9 hs];simp only [j3];have hlen:(H5 s).length=s.size:=by unfold H5;rw [a8W,←Y8]
 have key:=a8o (body:=S1 (H5 s)) (H5 s).length (by omega) (fun i=>match s.data.toList[i]? with|some c=>if 32≤c.toNat∧c.toNat≤126 then none else some false|none=>none) 0 (I2 _) (fun i _ hi=>by
  unfold S1;have hi':i<s.data.toList.length:=by rw [←Y8];omega
  rw [j2 (by simpa using hi),Y0 hi,j3,G7 hi']
  have e:(H5 s)[i]=((s.data.toList[i]).toNat:Int):=by simp [H5]
  rw [e,W_s (by omega)];simp only;by_cases h1:(s.data.toList[i]).toNat<32
  · rw [j2 (by simp only [A6];omega),j0 (by omega)]
  · by_cases h2:(s.data.toList[i]).toNat>126
    · rw [j0 (by simp only [A6];omega),j2 (by simp only [A6];omega),j0 (by omega)]
    · rw [j0 (by simp only [A6];omega),j0 (by simp only [A6];omega),j2 (by omega)]) (by unfold S1;rw [j0 (by simp)])
 rw [show((0:Int))=((0:Nat):Int) from rfl,key];by_cases hall:∀c∈s.data.toList,32≤c.toNat∧c.toNat≤126
 · rw [a5M _ _ fun i _ hi=>by
    have hi':i<s.data.toList.length:=by rw [←Y8];omega
    rw [G7 hi'];exact j2 (hall _ (a2k hi'))]
   simp only [j3];congr 1;rw [decide_eq_decide];exact⟨fun h=>⟨by omega,hall⟩,fun h=>by have:=h.1;omega⟩
 · obtain⟨c,hc,hbad⟩:∃c∈s.data.toList,¬(32≤c.toNat∧c.toNat≤126):=by
    refine a6M fun h=>hall fun c hc=>a6M fun h2=>h ⟨c,hc,h2⟩
   obtain⟨i,hi,rfl⟩:=b1C hc
   obtain⟨j,r,_,hj,hq,e⟩:=a5P (q:=fun i=>match s.data.toList[i]? with|some c=>if 32≤c.toNat∧c.toNat≤126 then none else some false|none=>none) ((H5 s).length-0) 0 i (I2 _) (by rw [hlen,Y8];omega) (by
    rw [G7 hi];simp only;rw [j0 hbad];simp)
   have hr:r=false:=by
    split at hq
    · split at hq<;>simp at hq;exact hq
    · cases hq
   rw [e,hr];have:¬a3K s:=fun h=>hall h.2
   simp [this]
theorem c1o (s:ByteArray) (hs:s.size≤9223372036854775807):a3B s=some (decide (a3K s)):=by
 unfold a3B;by_cases h160:s.size≤160
 · rw [j0 (by simp only [A6];omega)]
   have key:=b6X (body:=Y3 s) s.size (by omega) (fun i=>∀c,s.data.toList[i]?=some c→32≤c.toNat∧c.toNat≤126) 0 (I2 _) (fun i _ hi=>by
    unfold Y3;have hi':i<s.data.toList.length:=by rw [←Y8];omega
    rw [j2 (by simpa using hi),Y0 hi',j3,j3,W_s (by omega)]
    have hq:(∀c,s.data.toList[i]?=some c→32≤c.toNat∧c.toNat≤126)↔32≤(s.data.toList[i]).toNat∧(s.data.toList[i]).toNat≤126:=by
     rw [G7 hi'];simp
    rw [hq];by_cases h1:(s.data.toList[i]).toNat<32
    · right;rw [j2 (by simp only [A6];omega)];exact⟨by omega,rfl⟩
    · by_cases h2:(s.data.toList[i]).toNat>126
      · right;rw [j0 (by simp only [A6];omega),j2 (by simp only [A6];omega)];exact⟨by omega,rfl⟩
      · left;rw [j0 (by simp only [A6];omega),j0 (by simp only [A6];omega)];exact⟨by omega,rfl⟩) (by unfold Y3;rw [j0 (by simp)]) (decide (a3K s)) (by
    rw [decide_eq_true_iff];constructor
    · rintro⟨_,h⟩ i _ _ c hc;exact h c (a5D hc)
    · intro h;refine⟨h160,fun c hc=> ?_⟩;obtain⟨i,hi,rfl⟩:=b1C hc;exact h i (I2 _) (by rw [Y8];exact hi) _ (G7 hi))
   exact key
 · rw [j2 (by simp only [A6];omega)];have:¬a3K s:=fun h=>h160 h.1
   simp [this]
def w7 (r:b9):Prop:=a4c r.At∧(0≤r.Kind∧r.Kind≤60)∧(0≤r.Day∧r.Day≤100000)∧(0≤r.Known∧r.Known≤100000)∧a3K r.Text∧
 (if r.Kind=0 then r.Day=0∧r.Text=⟨#[]⟩∧a4c r.Of∧r.Of.Depot=r.At.Depot∧r.Of.No<r.At.No else r.Of=⟨0,0⟩)
instance (r : b9) : Decidable (w7 r) := by unfold w7; infer_instance
theorem a6G (a b:ByteArray):(a.toList==b.toList)=decide (a=b):=by
 rw [a8E,K4,decide_eq_true_iff];constructor
 · intro h;have h2:a.data.toList=b.data.toList:=by rw [ByteArray.toList_eq,ByteArray.toList_eq]at h;exact h
   exact a7r (I8 h2)
 · intro h;rw [h]
theorem R0 (r:b9) (hs:r.Text.size≤9223372036854775807):s8 r=some (decide (w7 r)):=by
 unfold s8 a0X;simp only [a3H,c4A,c4v _ hs,j3,a6G];unfold w7;by_cases h1:a4c r.At
 · by_cases h2:0≤r.Kind∧r.Kind≤60
   · by_cases h3:0≤r.Day∧r.Day≤100000
     · by_cases h4:0≤r.Known∧r.Known≤100000
       · by_cases h5:a3K r.Text
         · simp only [h1,h2,h3,h4,h5,V5,a1x,J4,F7,X6,a1f];by_cases hk:r.Kind=0
           · simp only [hk,beq_self_eq_true,C7];by_cases h6:r.Day=0
             · by_cases h7:r.Text=⟨#[]⟩
               · by_cases h8:a4c r.Of
                 · by_cases h9:r.Of.Depot=r.At.Depot<;>simp [h6,h7,h8,h9]
                 · simp [h6,h7,h8]
               · simp [h6,h7]
             · simp [h6]
           · have:(r.Kind==0)=false:=by simpa using hk
             simp only [this,hk,J4,F7];congr 1;rw [a8E];simp only [A7,K4,A6];constructor
             · rintro⟨a,b⟩;cases hof:r.Of;simp_all
             · intro h;rw [h];simp
         · simp [h1,h2,h3,h4,h5]
       · simp only [h1,h2,h3,h4,V5,a0O,a1x,a5C,J4,F7,C7,X6,a2F,and_false,a1f]
     · simp only [h1,h2,h3,V5,a0O,a1x,a5C,J4,F7,C7,X6,a2F,and_false,a1f]
   · simp only [h1,h2,V5,a0O,a1x,a5C,J4,F7,C7,X6,a2F,and_false,a1f]
 · simp [h1]
theorem a7c (r:b9) (hs:r.Text.size≤9223372036854775807):S0 r=some (if w7 r then 0 else 80):=by
 unfold S0;simp only [c8D,c4y,c1o _ hs,j3,a6G];unfold w7;by_cases h1:a4c r.At
 · by_cases h2:0≤r.Kind∧r.Kind≤60
   · by_cases h3:0≤r.Day∧r.Day≤100000
     · by_cases h4:0≤r.Known∧r.Known≤100000
       · by_cases h5:a3K r.Text
         · simp only [h1,h2,h3,h4,h5,V5,a1x,J4,F7,X6,a1f];by_cases hk:r.Kind=0
           · simp only [hk,beq_self_eq_true,C7];by_cases h6:r.Day=0
             · by_cases h7:r.Text=⟨#[]⟩
               · by_cases h8:a4c r.Of
                 · by_cases h9:r.Of.Depot=r.At.Depot
                   · by_cases h10:r.Of.No<r.At.No
                     · have:¬(r.Of.No≥r.At.No):=by omega
                       simp [h6,h7,h8,h9,h10,this]
                     · have:r.Of.No≥r.At.No:=by omega
                       simp [h6,h7,h8,h9,h10,this]
                   · simp [h6,h7,h8,h9]
                 · simp [h6,h7,h8]
               · simp [h6,h7]
             · simp [h6]
           · have:(r.Kind==0)=false:=by simpa using hk
             simp only [this,hk,J4,F7];by_cases ho:r.Of=⟨0,0⟩
             · simp [ho]
             · have:((r.Of.Depot==0)&&(r.Of.No==0))=false:=by
                cases hb:((r.Of.Depot==0)&&(r.Of.No==0))with
                |false=>rfl
                |true=>
                 simp only [A7,K4]at hb;exact absurd (by cases hof:r.Of;rw [hof]at hb;simp_all) ho
               simp [this,ho]
         · simp [h1,h2,h3,h4,h5]
       · simp only [h1,h2,h3,h4,V5,a0O,a1x,a5C,J4,F7,C7,X6,a2F,and_false,a1f]
     · simp only [h1,h2,h3,V5,a0O,a1x,a5C,J4,F7,C7,X6,a2F,and_false,a1f]
   · simp only [h1,h2,V5,a0O,a1x,a5C,J4,F7,C7,X6,a2F,and_false,a1f]
 · simp [h1]
def E9 (c:e8):Prop:=(0≤c.No∧c.No≤59)∧(1≤c.Parts∧c.Parts≤10)∧(0≤c.Part∧c.Part≤c.Parts-1)∧(1≤c.Size∧c.Size≤24)∧(c.Text.size:Int)=c.Size
instance (c : e8) : Decidable (E9 c) := by unfold E9; infer_instance
theorem c0r (c:e8):a0V c=some (decide (E9 c)):=by
 unfold a0V;simp only [a3H,j3];unfold E9;by_cases h1:0≤c.No∧c.No≤59
 · by_cases h2:1≤c.Parts∧c.Parts≤10
   · rw [a5r (z:=c.Parts-1) (by omega)];by_cases h3:0≤c.Part∧c.Part≤c.Parts-1
     · by_cases h4:1≤c.Size∧c.Size≤24
       · simp only [h1,h2,h3,h4,V5,C7,X6,a1f];congr 1
       · simp only [h1,h2,h3,h4,V5,a0O,C7,J4,F7,X6,a1f,a2F]
     · simp only [h1,h2,h3,V5,a0O,C7,J4,F7,X6,a1f,a2F]
   · simp only [h1,h2,V5,a0O,C7,J4,F7,X6,a1f,a2F]
 · simp only [h1,a0O,J4,F7,a2F]
theorem a1a (n:Int) (h0:0≤n) (h1:n≤1000000):(W5 n).size≤21:=by
 have:=Lib.itoa_length_le n (by omega) (by omega);unfold W5;rw [Y8];simpa using this
theorem b0h {r:b9} (h:w7 r):∀n∈a2e r,0≤n∧n≤100000:=by
 obtain⟨⟨⟨a1,a2⟩,a3,a4⟩,⟨b1,b2⟩,⟨c1,c2⟩,⟨d1,d2⟩,_,hif⟩:=h
 have hof:(0≤r.Of.Depot∧r.Of.Depot≤5)∧0≤r.Of.No∧r.Of.No≤9999:=by
  split at hif
  · exact hif.2.2.1
  · rw [hif];simp
 intro n hn;simp only [a2e,o6,a7l,or_false]at hn;rcases hn with rfl|rfl|rfl|rfl|rfl|rfl|rfl<;>omega
theorem S4 {r:b9} (h:w7 r):r.Text.size≤160:=h.2.2.2.2.1.1
theorem a7Z {r:b9} (h:w7 r):K6 r=some (E4 r):=by
 unfold K6;exact q9 ⟨fun n hn=>by have:=b0h h n hn;omega,by have:=S4 h;omega⟩
theorem c2U (r:b9):E4 r=W5 r.At.Depot++⟨#[32]⟩++W5 r.At.No++⟨#[32]⟩++W5 r.Kind++⟨#[32]⟩++W5 r.Day++⟨#[32]⟩++W5 r.Known++⟨#[32]⟩++W5 r.Of.Depot++⟨#[32]⟩++W5 r.Of.No++⟨#[32]⟩++r.Text:=by
 apply a7r;apply I8;simp [E4,a1F,a2e,W5]
def DV (l:List UInt8):Nat:=l.foldl (fun a c=>10*a+(c.toNat-48)) 0
theorem c2e (l:List UInt8) (c:UInt8):DV (l++ [c])=10*DV l+(c.toNat-48):=by simp [DV]
def Dig (c:UInt8):Prop:=48≤c.toNat∧c.toNat≤57
theorem c6y {k:Nat} (h:k<10):(UInt8.ofNat (48+k)).toNat=48+k:=by simp;omega
theorem c2l (u:Nat):(∀c∈Lib.decDigits u,Dig c)∧DV (Lib.decDigits u)=u∧Lib.decDigits u≠ []:=by
 induction u using Nat.strongRecOn with
 |_ u ih=>
  rw [b7f];have h10:u % 10<10:=Nat.mod_lt _ (by omega);have hl:=c6y h10;unfold c4r;by_cases h:u<10
  · rw [j2 h];refine⟨fun c hc=> ?_, ?_,by simp⟩
    · simp only [a1u,V0]at hc;subst hc;unfold Dig;omega
    · rw [c2e,hl];simp [DV];omega
  · rw [j0 h];obtain⟨i1,i2,_⟩:=ih (u / 10) (by omega);refine⟨fun c hc=> ?_, ?_,by simp⟩
    · rcases u4.1 hc with hc|hc
      · exact i1 c hc
      · simp only [V0]at hc;subst hc;unfold Dig;omega
    · rw [c2e,hl,i2];omega
theorem c7p {u k:Nat} (h:u<10^k) (hk:0<k):(Lib.decDigits u).length≤k:=by
 induction k generalizing u with
 |zero=>omega
 |succ k ih=>
  rw [b7f];unfold c4r;by_cases h9:u<10
  · rw [j2 h9];simp
  · rw [j0 h9]
    have hk0:0<k:=by
     cases k with
     |zero=>simp at h;omega
     |succ k=>omega
    have:=ih (u:=u / 10) (by rw [Nat.pow_succ]at h;exact Nat.div_lt_of_lt_mul (by omega)) hk0;simp;omega
theorem a2N {S E:Type} {body:S→Option (Sum S E)} (st:Nat→S) (n:Nat) (hn:n≤9223372036854775807) (fin:E) (h:∀k,k<n→body (st k)=some (.inl (st (k+1)))) (he:body (st n)=some (.inr fin)):r6 body (st 0)=some fin:=by
 have key:∀(m k N:Nat),k+m=n→m<N→X5 body N (st k)=some fin:=by
  intro m
  induction m with
  |zero=>
   intro k N hk hN;cases N with
   |zero=>omega
   |succ N=>
    obtain rfl:k=n:=by omega
    simp only [X5,he]
  |succ m ih=>
   intro k N hk hN;cases N with
   |zero=>omega
   |succ N=>
    simp only [X5,h k (by omega)];exact ih (k+1) N (by omega) (by omega)
 exact key n 0 a2n (by omega) (by unfold a2n;omega)
theorem c3s (r:b9):(E4 r).data.toList=a1F (a2e r)++r.Text.data.toList:=by
 unfold E4;rw [ByteArray.data_append];simp
theorem a7H {r:b9} (h:w7 r):(E4 r).size≤400:=by
 have hn:=b0h h;simp only [a2e,o6,a7l,or_false,forall_eq_or_imp,forall_eq]at hn;obtain⟨n1,n2,n3,n4,n5,n6,n7⟩:=hn;have s1:=a1a r.At.Depot n1.1 (by omega);have s2:=a1a r.At.No n2.1 (by omega);have s3:=a1a r.Kind n3.1 (by omega);have s4:=a1a r.Day n4.1 (by omega);have s5:=a1a r.Known n5.1 (by omega);have s6:=a1a r.Of.Depot n6.1 (by omega);have s7:=a1a r.Of.No n7.1 (by omega);have hs:(⟨#[32]⟩:ByteArray).size=1:=rfl;have ht:=S4 h;rw [c2U];generalize W5 r.At.Depot=x1 at s1⊢;generalize W5 r.At.No=x2 at s2⊢;generalize W5 r.Kind=x3 at s3⊢;generalize W5 r.Day=x4 at s4⊢;generalize W5 r.Known=x5 at s5⊢;generalize W5 r.Of.Depot=x6 at s6⊢;generalize W5 r.Of.No=x7 at s7⊢;generalize r.Text=x8 at ht⊢;generalize (⟨#[32]⟩:ByteArray)=sp at hs⊢;simp only [ByteArray.size_append,hs];omega
def zR:b9:=⟨⟨0,0⟩,0,0,0,⟨0,0⟩,⟨#[]⟩⟩
theorem b9T:∀(d post:List UInt8),(∀c∈d,c≠32)→Lib.indexByte (d++32::post) 32=d.length
 | [],post,_=>by simp [Lib.indexByte]
 |c::d,post,h=>by
  have ih:=b9T d post fun x hx=>h x (B4 _ hx)
  have hc:=h c D7;simp only [a0i,Lib.indexByte,ih];rw [j0 (by simpa using hc),j0 (by simp)]
  simp
theorem b4W:∀(l:List UInt8) (acc:Nat) (c:UInt8),Lib.parseUint10 acc (l++ [c])=match Lib.parseUint10 acc l with| .ok a=>Lib.parseUint10 a [c]|e=>e
 | [],acc,c=>rfl
 |x::l,acc,c=>by
  simp only [a0i,Lib.parseUint10];split
  · split
    · rfl
    · split
      · rfl
      · exact b4W l _ c
  · rfl
theorem c3o (u:Nat) (hu:u<1000000000000000000):Lib.parseUint10 0 (Lib.decDigits u)= .ok u:=by
 induction u using Nat.strongRecOn with
 |_ u ih=>
  have h10:u % 10<10:=Nat.mod_lt _ (by omega);have hl:=c6y h10;rw [b7f,b4W]
  have hp:Lib.parseUint10 0 (c4r u)= .ok (u / 10):=by
   unfold c4r;by_cases h:u<10
   · rw [j2 h,Nat.div_eq_of_lt h];rfl
   · rw [j0 h];exact ih _ (by omega) (by omega)
  rw [hp];simp only [Lib.parseUint10,hl];rw [j2 (by omega),j0 (by omega),j0 (by omega)];congr 1;omega
theorem c5d (u:Nat) (hu:u<1000000000000000000):Lib.atoiAll (Lib.decDigits u)= .ok (u:Int):=by
 obtain⟨d1,_,d3⟩:=c2l u;have hp:=c3o u hu;cases hd:Lib.decDigits u with
 |nil=>exact absurd hd d3
 |cons c r=>
  have hc:Dig c:=d1 c (by rw [hd];exact D7);unfold Dig at hc;unfold Lib.atoiAll Lib.parseMag;rw [hd]at hp;simp only;rw [j0 (show¬(c.toNat=43∨c.toNat=45) by omega),j0 (by simp),hp];simp only;rw [j0 (by omega),j0 (by omega),j0 (by omega)]
theorem c7r (s:ByteArray) (u:Nat) (hu:u<1000000000000000000) (post:List UInt8) (hs:s.data.toList=Lib.decDigits u++32::post):b5o s=some ((u:Int),⟨post.toArray⟩):=by
 obtain⟨d1,_,d3⟩:=c2l u;have hi:=b9T (Lib.decDigits u) post fun c hc e=>by have:=d1 c hc;subst e;unfold Dig at this;simp at this
 have hsz:=Y8 s;have hlen:=m9 List.length hs;simp only [I9,P3]at hlen;unfold b5o a7d;rw [hs,hi,j2 (by omega)]
 have e1:(s.extract 0 (Lib.decDigits u).length).data.toList=Lib.decDigits u:=by
  rw [b6R];simp only [b1l,List.extract_eq_take_drop,hs,a7k,a4K,List.take_left]
 have e2:s.extract ((Lib.decDigits u).length+1) s.size=⟨post.toArray⟩:=by
  apply a7r;apply I8;rw [b6R];simp only [b1l,List.extract_eq_take_drop,hs];rw [show(Lib.decDigits u).length+1=(Lib.decDigits u++ [32]).length by simp,show Lib.decDigits u++32::post=(Lib.decDigits u++ [32])++post by simp,List.drop_left,a3n (by simp;omega)]
 simp only [a1M,e1,c5d u hu,e2]
theorem c2j {r:b9} (h:w7 r):∀k,k≤7→a7A k (E4 r)=some ((a2e r).take k,⟨(a1F ((a2e r).drop k)++r.Text.data.toList).toArray⟩)
 |0,_=>by
  simp only [a7A,List.take_zero,a7k];congr 2
 |k+1,hk=>by
  have hk':k<(a2e r).length:=hk;have hn:=b0h h _ (a2k hk');obtain⟨u,hu⟩:=Int.eq_ofNat_of_zero_le hn.1;simp only [a7A,c2j h k (by omega)]
  have:=c7r ⟨(a1F ((a2e r).drop k)++r.Text.data.toList).toArray⟩ u (by omega) (a1F ((a2e r).drop (k+1))++r.Text.data.toList) (by
   rw [b6k hk',hu];simp only [a1F,R2,Lib.itoa_nonneg];simp)
  rw [this];simp only;rw [a6T hk',hu]
theorem b7F {r:b9} (h:w7 r):L1 (E4 r)=some (r,true):=by
 have hz:=a7H h;unfold L1;rw [q9 (by omega),c2j h 7 (u3 _)];have e1:(a2e r).take 7=a2e r:=rfl
 have e2:(⟨(a1F ((a2e r).drop 7)++r.Text.data.toList).toArray⟩:ByteArray)=r.Text:=by
  apply a7r;apply I8;simp [a2e,a1F]
 have e3:b4I (a2e r) r.Text=r:=rfl;simp only [e1,e2,e3];rw [R0 r (by have:=S4 h;omega),j3,j2 (by simpa using h),a7Z h,j3,a6G]
 simp
theorem c9L (s:ByteArray) (hs:s.size≤281474976710656) (h:∀r,w7 r→E4 r≠s):L1 s=some (zR,false):=by
 unfold L1;rw [q9 hs];cases hd:a7A 7 s with
 |none=>rfl
 |some p=>
  obtain⟨l,t⟩:=p;have ht:=(a7o hd).2;simp only;have hT:(b4I l t).Text.size≤9223372036854775807:=by show t.size≤_;omega
  rw [R0 _ hT,j3];by_cases hok:w7 (b4I l t)
  · rw [j2 (by simpa using hok),a7Z hok,j3,a6G]
    have:=h _ hok;rw [j0 (by simpa using this)];rfl
  · rw [j0 (by simpa using hok)];rfl
def B9 (n:Nat):Nat:=(n+23) / 24
def a5h (s:ByteArray) (i:Nat):ByteArray:=s.extract (24*i) (min s.size (24*(i+1)))
def a2m (s:ByteArray) (no:Int) (i:Nat):e8:=⟨no,(i:Int),((B9 s.size:Nat):Int),((a5h s i).size:Int),a5h s i⟩
def a2i (s:ByteArray) (no:Int):List e8:=(List.range (B9 s.size)).map (a2m s no)
theorem a6v (s:ByteArray) (no:Int):(a2i s no).length=B9 s.size:=by simp [a2i]
theorem a7M {n:Nat} (h:n≤400):B9 n≤17:=by unfold B9;omega
theorem c0Y (l:List UInt8):(l.map fun b=>(b.toNat:Int)).map (fun n=>UInt8.ofNat n.toNat)=l:=by
 rw [List.map_map]
 conv=>rhs;rw [←List.map_id l]
 apply List.map_congr_left;intro c _;simp
theorem c4F (s:ByteArray) (a b:Nat):a6W (sub (H5 s) a b)=s.extract a b:=by
 apply a7r;apply I8;unfold a6W H5 sub;rw [b6R,←List.map_drop,←List.map_take];simp only [c0Y,b1l,List.extract_eq_take_drop]
theorem b9w (s:ByteArray) (a b:Nat) (h:b≤s.size):(sub (H5 s) a b).length=b-a:=by
 have:(H5 s).length=s.size:=by unfold H5;rw [a8W,←Y8]
 unfold sub;simp;omega
theorem c3E {n:Nat} {pre post:List Nat} {x:Nat} (h:List.range n=pre++x::post):x=pre.length∧pre.length<n:=by
 have h1:(List.range n)[pre.length]?=some x:=by rw [h];simp
 have h2:=L6.1 h1;obtain⟨g1,g2⟩:=h2;simp at g1 g2;exact⟨g2.symm,g1⟩
theorem c6J (s:ByteArray) (hz:s.size≤400):G9 (H5 s) 24=some ((List.range (B9 s.size)).map fun i=>sub (H5 s) (24*i) (min s.size (24*(i+1))),()):=by
 have hb:(H5 s).length=s.size:=by unfold H5;rw [a8W,←Y8]
 have hP:B9 s.size≤17:=a7M hz;unfold G9
 have key:=b4e (body:=u9 (H5 s) 24) (List.range (B9 s.size)) (by simp;omega) (fun k=>((24*k:Nat):Int)) (fun i=> [sub (H5 s) (24*i) (min s.size (24*(i+1)))]) ((24*B9 s.size:Nat):Int) (fun pre x post hx=>by
  obtain⟨rfl,hlt⟩:=c3E hx;generalize pre.length=k at hlt⊢;have hk24:24*k<s.size:=by unfold B9 at hlt;omega
  unfold u9;rw [j2 (by simp only [A6];omega),q9 (by omega),j3,a1M];have hl:(sub (H5 s) (24*k) (H5 s).length).length=s.size-24*k:=by rw [hb];exact b9w s _ _ (u3 _)
  have e:W (((24*k:Nat):Int)+(if((sub (H5 s) (24*k) (H5 s).length).length:Int)<24 then((sub (H5 s) (24*k) (H5 s).length).length:Int)else 24))=((min s.size (24*(k+1)):Nat):Int):=by
   rw [hl];split
   · rw [a5r (by omega)];omega
   · rw [a5r (by omega)];omega
  rw [e,q9 (by omega),j3,a1M];have e2:W (((24*k:Nat):Int)+24)=((24*(k+1):Nat):Int):=by rw [a5r (by omega)];omega
  rw [e2];rfl) (by
  unfold u9;rw [List.length_range,j0 (by simp only [A6];unfold B9;omega)])
 have key2:b4K (u9 (H5 s) 24) 0=_:=key;rw [key2];simp [b6I,List.flatMap_singleton']
 induction List.range (B9 s.size)with
 |nil=>rfl
 |cons x l ih=>simp [ih]
def b7Z (no:Int):Nat→List (List Int)→List e8
 |_, []=> []
 |k,y::l=>⟨no,(k:Int),0,(y.length:Int),a6W y⟩::b7Z no (k+1) l
theorem c6k (no:Int):∀(l:List (List Int)) (acc:List e8),acc.length+l.length≤1000→P6 (a0u no) l acc=some (.inl (acc++b7Z no acc.length l))
 | [],acc,_=>by simp [P6,b7Z]
 |y::l,acc,h=>by
  simp only [P3]at h;simp only [P6,a0u];rw [q9 (by simp;omega)];simp only;rw [c6k no l _ (by simp;omega)];simp [b7Z]
theorem b2O (no:Int):∀(l:List (List Int)) (k:Nat),(b7Z no k l).length=l.length
 | [],_=>rfl
 |y::l,k=>by simp [b7Z,b2O no l]
theorem c2I (no:Int):∀(l:List (List Int)) (k i:Nat) (h:i<l.length),(b7Z no k l)[i]?=some ⟨no,((k+i:Nat):Int),0,(l[i].length:Int),a6W l[i]⟩
 |y::l,k,0,h=>by simp [b7Z]
 |y::l,k,i+1,h=>by
  simp only [b7Z,List.getElem?_cons_succ,List.getElem_cons_succ];rw [c2I no l (k+1) i (by simpa using h)]
  congr 2;omega
theorem c8c (v:List e8) (hv:v.length≤1000):r6 (N8 v) (0,v)=some ((v.length:Int),v.map fun c=>⟨c.No,c.Part,(v.length:Int),c.Size,c.Text⟩):=by
 have key:=a2N (body:=N8 v) (fun k=>((k:Int),(v.take k).map (fun c=>(⟨c.No,c.Part,(v.length:Int),c.Size,c.Text⟩:e8))++v.drop k)) v.length (by omega) ((v.length:Int),v.map fun c=>⟨c.No,c.Part,(v.length:Int),c.Size,c.Text⟩) (fun k hk=>by
  unfold N8;dsimp only;rw [j2 (by simp only [A6];omega)];have hlen:((v.take k).map (fun c=>(⟨c.No,c.Part,(v.length:Int),c.Size,c.Text⟩:e8))++v.drop k).length=v.length:=by simp;omega
  have hidx:idx ((v.take k).map (fun c=>(⟨c.No,c.Part,(v.length:Int),c.Size,c.Text⟩:e8))++v.drop k) (k:Int)=some v[k]:=by
   rw [Y0 (by omega)];rw [List.getElem_append_right (by simp;omega)];simp [a0z (a5y hk)]
  rw [hidx,j3,j3,W_s (by omega),hlen,a1M];congr 3;rw [List.set_append_right _ _ (by simp;omega)];simp only [a8W,V2,a0z (a5y hk),Nat.sub_self];rw [b6k hk,List.set_cons_zero,a6T hk,List.map_append,a1V];rfl) (by
  unfold N8;dsimp only;rw [j0 (by simp),a4u,List.drop_length,a8A])
 rw [List.take_zero,a7k,a4U,a1u]at key;exact key
theorem a8k {r:b9} (h:w7 r) (no:Int):Y4 r no=some (a2i (E4 r) no):=by
 have hz:=a7H h;unfold Y4 U0;rw [a7Z h,j3];generalize E4 r=s at hz⊢;have hP:B9 s.size≤17:=a7M hz;rw [q9 (by omega),j3,j0 (by decide),j3];dsimp only;rw [c6J s hz,j3];dsimp only;rw [c6k no _ _ (by simp;omega),j3];dsimp only;rw [c8c _ (by simp [b2O];omega),j3];dsimp only;congr 1;apply List.ext_getElem?;intro i;simp only [a1u,List.getElem?_map,a1r];by_cases hi:i<B9 s.size
 · rw [c2I no _ 0 i (by simpa using hi)]
   simp only [a2i,List.getElem?_map,List.getElem_map,List.getElem_range,List.getElem?_range hi,a5K,b2O,a8W,List.length_range,a0h];congr 1;unfold a2m;have hb:=c4F s (24*i) (min s.size (24*(i+1)));have hl:=b9w s (24*i) (min s.size (24*(i+1))) (by omega);have hl2:(a5h s i).size=min s.size (24*(i+1))-24*i:=by unfold a5h;rw [ByteArray.size_extract];omega
   rw [hb,hl,hl2];rfl
 · rw [a9R (by simp [b2O];omega),a9R (by rw [a6v];omega)];rfl
theorem c6p (a b:e8):((a.No==b.No)&&((a.Part==b.Part)&&((a.Parts==b.Parts)&&((a.Size==b.Size)&&(a.Text.toList==b.Text.toList)))))=decide (a=b):=by
 rw [a8E,a6G];simp only [A7,K4,A6];cases a;cases b;simp
theorem a9U (a b:b9):((a.At.Depot==b.At.Depot)&&((a.At.No==b.At.No)&&((a.Kind==b.Kind)&&((a.Day==b.Day)&&((a.Known==b.Known)&&((a.Of.Depot==b.Of.Depot)&&((a.Of.No==b.Of.No)&&(a.Text.toList==b.Text.toList))))))))=decide (a=b):=by
 rw [a8E,a6G];simp only [A7,K4,A6];obtain⟨⟨a1,a2⟩,a3,a4,a5,⟨a6,a7⟩,a8⟩:=a;obtain⟨⟨b1,b2⟩,b3,b4,b5,⟨b6,b7⟩,b8⟩:=b;simp [and_assoc]
theorem c6e (a b:p0):((a.Depot==b.Depot)&&(a.No==b.No))=decide (a=b):=by
 rw [a8E];simp only [A7,K4,A6];cases a;cases b;simp
theorem c3v {α:Type} [DecidableEq α] {body:(Bool×Int)→Option (Sum (Bool×Int) (Bool×Int))} (a b:List α) (hl:a.length≤9223372036854775800)
 (h1:∀(i:Nat) (hi:i<a.length) (hj:i<b.length),body (true,(i:Int))=some (.inl (decide (a[i]=b[i]),((i+1:Nat):Int))))
 (h2:∀i:Nat,body (false,(i:Int))=some (.inr (false,(i:Int)))) (h3:body (true,(a.length:Int))=some (.inr (true,(a.length:Int)))):
 Option.bind (r6 body (((a.length:Int)==(b.length:Int)),0)) (fun(x:Bool×Int)=>match x with|(same,_)=>some same)=some (decide (a=b)):=by
 by_cases hab:a.length=b.length
 · obtain⟨e,he,i,rfl⟩:=a0w (body:=body) (fun st=>∃(i:Nat),i≤a.length∧st.2=(i:Int)∧(st.1=true→a.take i=b.take i)∧(st.1=false→a≠b)) (fun st=>2*a.length+2-(2*st.2.toNat+if st.1 then 0 else 1))
    (fun e=>∃i:Int,e=(decide (a=b),i)) (by
    rintro⟨s,_⟩ ⟨i,hi,rfl,ht,hf⟩;cases s with
    |false=>
     left;refine⟨_,h2 i,i, ?_⟩;have:=hf rfl;simp [this]
    |true=>
     have ht:=ht rfl;rcases a3Y i a.length with h|h
     · right;refine⟨_,h1 i h (by omega),⟨i+1,h,rfl,fun hd=> ?_,fun hd e=> ?_⟩, ?_⟩
       · rw [a6T h,a6T (by omega),ht,b1J hd]
       · subst e;simp at hd
       · simp only [a1M];split<;>simp<;>omega
     · left;obtain rfl:i=a.length:=by omega
       refine⟨_,h3,(a.length:Int), ?_⟩
       have:a=b:=by
        rw [a4u,hab,a4u]at ht;exact ht
       simp [this]) (((a.length:Int)==(b.length:Int)),0) ⟨0,I2 _,rfl,fun _=>rfl,fun h=>by rw [hab]at h;simp at h⟩ (by unfold a2n;simp only;omega)
   rw [he];rfl
 · have e:((a.length:Int)==(b.length:Int))=false:=by rw [beq_eq_false_iff_ne];omega
   rw [e]
   have:r6 body (false,0)=some (false,0):=by
    have:=a2N (body:=body) (fun _=>(false,(0:Int))) 0 (by omega) (false,0) (fun k hk=>by omega) (h2 0);exact this
   rw [this];have hne:a≠b:=fun e=>hab (by rw [e])
   simp [hne]
theorem b3I (a b:List b9) (hl:a.length≤9223372036854775800):R3 a b=some (decide (a=b)):=by
 unfold R3;refine c3v a b hl (fun i hi hj=> ?_) (fun i=> ?_) ?_
 · unfold K8;dsimp only;rw [j2 (by simp only [A6];omega),j2 rfl,Y0 hi,Y0 hj,j3,j3,a9U,W_s (by omega)]
 · unfold K8;dsimp only;split<;>rfl
 · unfold K8;dsimp only;rw [j0 (by simp)]
theorem b9H (a b:List e8) (hl:a.length≤9223372036854775800):D4 a b=some (decide (a=b)):=by
 unfold D4;by_cases hab:a.length=b.length
 · rw [j0 (by simp [hab])];refine b6X a.length (by omega) (fun i=>a[i]?=b[i]?) 0 (I2 _) (fun i _ hi=> ?_) ?_ _ ?_
   · unfold B3;rw [j2 (by simp only [A6];omega),Y0 hi,Y0 (show i<b.length by omega),j3,j3,c6p,W_s (by omega),G7 hi,G7 (show i<b.length by omega)];by_cases h:a[i]=b[i]'(by omega)
     · left;refine⟨by rw [h], ?_⟩;rw [j0 (by simp [h])]
     · right;refine⟨by simpa using h, ?_⟩;rw [j2 (by simp [h])]
   · unfold B3;rw [j0 (by simp)]
   · rw [decide_eq_true_iff];constructor
     · intro h i _ _;rw [h]
     · intro h;apply List.ext_getElem?;intro i;by_cases hi:i<a.length
       · exact h i (I2 _) hi
       · rw [a9R (by omega),a9R (by omega)]
 · rw [j2 (by simpa using (by omega:(a.length:Int)≠(b.length:Int)))]
   have:a≠b:=fun e=>hab (by rw [e])
   simp [this]
abbrev I6:=Int×Int×Int×Int×Int×Int
def cnt (l:List b9) (d:Int):Nat:=l.countP fun r=>r.At.Depot==d
def N7 (l:List b9):I6:=((cnt l 0:Nat),(cnt l 1:Nat),(cnt l 2:Nat),(cnt l 3:Nat),(cnt l 4:Nat),(cnt l 5:Nat))
def a8r (t:I6):List Int:= [t.1,t.2.1,t.2.2.1,t.2.2.2.1,t.2.2.2.2.1,t.2.2.2.2.2]
def y8 (d:Int):Prop:=0≤d∧d≤5
theorem Q7 {d:Int} (h:y8 d):d=0∨d=1∨d=2∨d=3∨d=4∨d=5:=by unfold y8 at h;omega
theorem c2O (d:Int):cnt [] d=0:=rfl
theorem a1H (l:List b9) (r:b9) (d:Int):cnt (l++ [r]) d=cnt l d+if r.At.Depot=d then 1 else 0:=by
 unfold cnt;rw [b0Q];by_cases h:r.At.Depot=d<;>simp [h]
theorem c0C (l:List b9) (d:Int):cnt l d≤l.length:=List.countP_le_length
theorem a6o (l:List b9) {d:Int} (h:y8 d):idx (a8r (N7 l)) d=some ((cnt l d:Nat):Int):=by
 rcases Q7 h with rfl|rfl|rfl|rfl|rfl|rfl<;>rfl
theorem a6w (l:List b9) (hl:l.length≤1000000) (hd:∀r∈l,y8 r.At.Depot):S8 l=some (N7 l):=by
 have key:=a1l (body:=V7 l) (R:=Unit) l (by omega) (fun k (s:I6)=>((k:Int),s.1,s.2.1,s.2.2.1,s.2.2.2.1,s.2.2.2.2.1,s.2.2.2.2.2)) (fun s x=> .inl ((if x.At.Depot=0 then s.1+1 else s.1),(if x.At.Depot=1 then s.2.1+1 else s.2.1),(if x.At.Depot=2 then s.2.2.1+1 else s.2.2.1),(if x.At.Depot=3 then s.2.2.2.1+1 else s.2.2.2.1),(if x.At.Depot=4 then s.2.2.2.2.1+1 else s.2.2.2.2.1),(if x.At.Depot=5 then s.2.2.2.2.2+1 else s.2.2.2.2.2))) (fun _=>((0:Int),(0:Int),(0:Int),(0:Int),(0:Int),(0:Int),(0:Int))) (fun s=>((l.length:Int),s.1,s.2.1,s.2.2.1,s.2.2.2.1,s.2.2.2.2.1,s.2.2.2.2.2)) (fun pre s=>s=N7 pre) (by
  rintro pre x post s hp rfl;have hx:y8 x.At.Depot:=hd x (by rw [hp];simp);have hpl:pre.length<l.length:=by rw [hp];simp
  have hb:∀d,cnt pre d≤pre.length:=c0C pre;constructor
  · unfold V7;dsimp only;rw [j2 (by simp only [A6];omega)];have hi:idx l ((pre.length:Nat):Int)=some x:=by rw [hp];exact a3F
    rw [hi,j3,q9 (by unfold y8 at hx;omega)];have e:=a6o pre hx;unfold a8r at e;rw [e,j3,q9 (by unfold y8 at hx;omega),j3];have hw:W ((cnt pre x.At.Depot:Nat)+1)=((cnt pre x.At.Depot:Nat):Int)+1:=a5r (by have:=hb x.At.Depot;omega);rw [hw,W_s (by omega)];simp only [j3,N7];rcases Q7 hx with h|h|h|h|h|h<;>rw [h]<;>rfl
  · intro s' hs';simp only [Sum.inl.injEq]at hs';subst hs';unfold N7;simp only [a1H];refine Prod.ext ?_ (Prod.ext ?_ (Prod.ext ?_ (Prod.ext ?_ (Prod.ext ?_ ?_))))<;>(dsimp only;split<;>simp)) (by
  rintro s _;unfold V7;dsimp only;rw [j0 (by simp)]) (0,0,0,0,0,0) (by simp [N7,cnt])
 unfold S8;have key2:r6 (V7 l) (0,0,0,0,0,0,0)=_:=key;rw [key2]
 have hrun:∀(post pre:List b9),P5 (R:=Unit) (fun(s:I6) (x:b9)=> .inl ((if x.At.Depot=0 then s.1+1 else s.1),(if x.At.Depot=1 then s.2.1+1 else s.2.1),(if x.At.Depot=2 then s.2.2.1+1 else s.2.2.1),(if x.At.Depot=3 then s.2.2.2.1+1 else s.2.2.2.1),(if x.At.Depot=4 then s.2.2.2.2.1+1 else s.2.2.2.2.1),(if x.At.Depot=5 then s.2.2.2.2.2+1 else s.2.2.2.2.2))) post (N7 pre)= .inl (N7 (pre++post)):=by
  intro post
  induction post with
  |nil=>intro pre;simp [P5]
  |cons x post ih=>
   intro pre;simp only [P5];rw [show pre++x::post=(pre++ [x])++post by simp,←ih (pre++ [x])];congr 1;unfold N7;simp only [a1H];refine Prod.ext ?_ (Prod.ext ?_ (Prod.ext ?_ (Prod.ext ?_ (Prod.ext ?_ ?_))))<;>(dsimp only;split<;>simp)
 have h0:((0,0,0,0,0,0):I6)=N7 []:=by simp [N7,cnt]
 have hr:=hrun l [];rw [←h0]at hr;rw [hr];rfl
theorem c2k (l:List b9) (hl:l.length≤1000000) (hd:∀r∈l,y8 r.At.Depot):a4m l=some (N7 l):=a6w l hl hd
theorem a2O {r:b9} (h:w7 r):y8 r.At.Depot:=h.1.1
def U7 (l:List b9) (r:b9):Prop:=l.length<60∧((cnt l r.At.Depot:Nat):Int)=r.At.No
instance (l : List b9) (r : b9) : Decidable (U7 l r) := by unfold U7; infer_instance
theorem c2b (l:List b9) (r:b9) (hl:l.length≤1000000) (hd:∀r∈l,y8 r.At.Depot) (hr:y8 r.At.Depot):a1Z l r=some (decide (U7 l r)):=by
 unfold a1Z U7;by_cases h:l.length<60
 · rw [j2 (by simp only [A6];omega),a6w l hl hd,j3];have e:=a6o l hr;unfold a8r at e;rw [e,j3];simp only [h,X6];congr 1
 · rw [j0 (by simp only [A6];omega)];simp [h]
def Written (l:List b9):Prop:=∀(i:Nat) (r:b9),l[i]?=some r→w7 r∧U7 (l.take i) r
theorem Written.len {l:List b9} (h:Written l):l.length≤60:=by
 rcases a3Y 60 l.length with hl|hl
 · have:=(h 60 l[60] (G7 hl)).2.1;simp at this;omega
 · exact hl
theorem Written.rec {l:List b9} (h:Written l) {r:b9} (hr:r∈l):w7 r:=by
 obtain⟨i,hi,rfl⟩:=b1C hr;exact(h i _ (G7 hi)).1
theorem Written.dep {l:List b9} (h:Written l) {r:b9} (hr:r∈l):y8 r.At.Depot:=a2O (h.rec hr)
theorem Written.nil:Written []:=fun i r h=>by simp at h
theorem Written.snoc {l:List b9} (h:Written l) {r:b9} (hr:w7 r) (hn:U7 l r):Written (l++ [r]):=by
 intro i x hx;rcases Nat.lt_trichotomy i l.length with h1|h1|h1
 · rw [b1B h1]at hx;have:=h i x hx;rwa [b0s (a5y h1)]
 · subst h1;simp at hx;subst hx;simpa using ⟨hr,hn⟩
 · rw [a9R (by simp;omega)]at hx;cases hx
theorem b7L {body:Int→Option (Sum Int (Sum Int Bool))} (l:List b9) (hl:l.length≤9223372036854775800) (ans:Bool) (ha:ans=true↔Written l)
 (h:∀(i:Nat) (hi:i<l.length),(∀r∈l.take i,w7 r)→i≤60→body (i:Int)=some (if w7 l[i]∧U7 (l.take i) l[i]then .inl ((i+1:Nat):Int)else .inr (.inr false)))
 (he:body (l.length:Int)=some (.inr (.inl (l.length:Int)))):(r6 body 0).bind (fun e=>match e with| .inl _=>some true| .inr r=>some r)=some ans:=by
 obtain⟨e,h1,h2⟩:=a0w (body:=body) (fun st=>∃i:Nat,st=(i:Int)∧i≤l.length∧Written (l.take i)) (fun st=>l.length-st.toNat) (fun e=>match e with| .inl _=>Written l| .inr r=>r=false∧¬Written l) (by
  rintro _ ⟨i,rfl,hi,hw⟩;rcases a3Y i l.length with hlt|hge
  · have hlen:=hw.len;have hb:=h i hlt (fun r hr=>hw.rec hr) (by simp at hlen;omega);by_cases hok:w7 l[i]∧U7 (l.take i) l[i]
    · right;rw [j2 hok]at hb;refine⟨_,hb,⟨i+1,rfl,hlt, ?_⟩, ?_⟩
      · rw [a6T hlt];exact hw.snoc hok.1 hok.2
      · simp only [a1M];omega
    · left;rw [j0 hok]at hb;exact⟨_,hb,rfl,fun hw2=>hok (hw2 i _ (G7 hlt))⟩
  · left;obtain rfl:i=l.length:=by omega
    refine⟨_,he, ?_⟩;rw [a4u]at hw;exact hw) 0 ⟨0,rfl,I2 _,by rw [List.take_zero];exact Written.nil⟩ (by unfold a2n;simp only [Int.toNat_zero];omega)
 rw [h1];cases e with
 |inl _=>simp only [j3];rw [ha.2 h2]
 |inr r=>
  obtain⟨rfl,h2⟩:=h2;have:ans=false:=by cases ans with|false=>rfl|true=>exact absurd (ha.1 rfl) h2
  simp only [j3];rw [this]
open Classical in theorem areWritten_eq (l : List b9) (hl : l.length ≤ 9223372036854775800) (hs : ∀ r ∈ l, r.Text.size ≤ 9223372036854775807) : O7 l = some (decide (Written l)) := by
  unfold O7;refine b7L l hl _ (by simp) (fun i hi hpre h60 => ?_) ?_
  · unfold P1;rw [j2 (by simp only [A6]; omega), Y0 hi, j3, R0 _ (hs _ (a2k hi)), j3];by_cases hok : w7 l[i]
    · rw [j0 (by simp [hok]), q9 (by omega), j3];have e : sub l 0 ((i : Int)).toNat = l.take i := by unfold sub; simp
      rw [e, c2b _ _ (by simp; omega) (fun r hr => a2O (hpre r hr)) (a2O hok), j3, W_s (by omega)];by_cases hn : U7 (l.take i) l[i] <;> simp [hok, hn]
    · rw [j2 (by simp [hok])];simp [hok]
  · unfold P1;rw [j0 (by simp)]
open Classical in noncomputable def decF (t : ByteArray) : Option b9 := if h : ∃ r, w7 r ∧ E4 r = t then some (Classical.choose h) else none
theorem c7K {r q:b9} (hr:w7 r) (hq:w7 q) (h:E4 r=E4 q):r=q:=by
 have h1:=b7F hr;rw [h,b7F hq]at h1;simp only [U3,a4p,and_true]at h1;exact h1.symm
theorem a8i {t:ByteArray} {r:b9} (h:decF t=some r):w7 r∧E4 r=t:=by
 unfold decF at h;split at h
 · rename_i hx;cases h;exact Classical.choose_spec hx
 · cases h
theorem b3e {r:b9} (h:w7 r):decF (E4 r)=some r:=by
 have hx:∃q,w7 q∧E4 q=E4 r:=⟨r,h,rfl⟩;unfold decF;rw [dif_pos hx];congr 1;have:=Classical.choose_spec hx;exact c7K this.1 h this.2
theorem c4d {t:ByteArray} (h:decF t=none):∀r,w7 r→E4 r≠t:=fun r hr e=>by
 subst e;rw [b3e hr]at h;cases h
theorem c3p (t:ByteArray) (ht:t.size≤281474976710656):L1 t=some (match decF t with|some r=>(r,true)|none=>(zR,false)):=by
 cases h:decF t with
 |none=>exact c9L t ht (c4d h)
 |some r=>obtain⟨h1,rfl⟩:=a8i h;exact b7F h1
def a0G (l:List e8) (no p q:Int):Option e8:=l.find? fun c=>decide (E9 c∧c.No=no∧c.Part=p∧(q=0∨c.Parts=q))
theorem b2j {l:List e8} {no p q:Int} {c:e8} (h:a0G l no p q=some c):E9 c∧c.No=no∧c.Part=p∧(q=0∨c.Parts=q):=by
 have:=List.find?_some h;exact b1J this
def a2L (l:List e8) (no q:Int):Nat→Int→Option ByteArray
 |0,_=>some ⟨#[]⟩
 |n+1,i=>match a0G l no i q with
  |none=>none
  |some c=>match a2L l no q n (i+1)with
   |none=>none
   |some t=>some (c.Text++t)
def a5B (l:List e8) (no:Int):Option ByteArray:=match a0G l no 0 0 with
 |none=>none
 |some c=>a2L l no c.Parts c.Parts.toNat 0
noncomputable def a5o (l:List e8):Nat→List b9→List b9
 |0,out=>out
 |n+1,out=>match a5B l (out.length:Int)with
  |none=>out
  |some t=>match decF t with
   |none=>out
   |some r=>if U7 out r then a5o l n (out++ [r])else out
noncomputable def a6S (l:List e8):List b9:=a5o l 61 []
theorem a8F (l:List e8):∀(n:Nat) (out:List b9),Written out→Written (a5o l n out)
 |0,out,h=>h
 |n+1,out,h=>by
  simp only [a5o];split
  · exact h
  · split
    · exact h
    · rename_i r hr;split
      · rename_i hn;exact a8F l n _ (h.snoc (a8i hr).1 hn)
      · exact h
theorem b5l (l:List e8):Written (a6S l):=a8F l 61 [] Written.nil
def ofK:Int→List b9→List e8
 |_, []=> []
 |k,r::l=>a2i (E4 r) k++ofK (k+1) l
def ofF (l:List b9):List e8:=ofK 0 l
theorem b3i:∀(l m:List b9) (k:Int),ofK k (l++m)=ofK k l++ofK (k+l.length) m
 | [],m,k=>by simp [ofK]
 |r::l,m,k=>by
  simp only [a0i,ofK,b3i l m (k+1),a1V,P3];rw [show k+1+(l.length:Int)=k+((l.length+1:Nat):Int) by omega]
theorem b4S (l:List b9) (r:b9):ofF (l++ [r])=ofF l++a2i (E4 r) (l.length:Int):=by
 unfold ofF;rw [b3i];simp [ofK]
theorem b2L:∀(l:List b9) (k:Int),(∀r∈l,w7 r)→(ofK k l).length≤17*l.length
 | [],_,_=>by simp [ofK]
 |r::l,k,h=>by
  have h1:=b2L l (k+1) fun x hx=>h x (B4 _ hx)
  have h2:=a7M (a7H (h r D7));simp only [ofK,I9,P3,a6v];omega
theorem c6c (l:List b9) (h:∀r∈l,w7 r) (hl:l.length≤1000):a4b l=some (ofF l):=by
 have key:=a2N (body:=Y5 l) (fun k=>(ofF (l.take k),(k:Int))) l.length (by omega) (ofF l,(l.length:Int)) (fun k hk=>by
  unfold Y5;dsimp only;have hlen:=b2L (l.take k) 0 fun r hr=>h r (a1P hr)
  have hp:=a7M (a7H (h l[k] (a2k hk)));rw [j2 (by simp only [A6];omega),Y0 hk,j3,a8k (h _ (a2k hk)),j3,q9 (by unfold ofF;rw [a6v];simp at hlen;omega),W_s (by omega)];congr 3;rw [a6T hk,b4S];simp [a0z (a5y hk)]) (by
  unfold Y5;dsimp only;rw [j0 (by simp),a4u])
 unfold a4b;rw [List.take_zero]at key;have key2:r6 (Y5 l) ([],0)=_:=key;rw [key2];rfl
theorem c7T (t:ByteArray):(⟨#[]⟩:ByteArray)++t=t:=by
 apply a7r;apply I8;rw [ByteArray.data_append];simp
theorem c7O (t:ByteArray):t++(⟨#[]⟩:ByteArray)=t:=by
 apply a7r;apply I8;rw [ByteArray.data_append];simp
theorem b0G (b:o4) (h:(b.Thread.length+b.Loose.length)*48≤140737488355328):a1C b=some (b.Thread++b.Loose):=by
 unfold a1C H6
 have k1:r6 (j9 [b.Thread,b.Loose]) (0,0)=some (((b.Thread.length+b.Loose.length:Nat):Int),2):=
  a2N (body:=j9 [b.Thread,b.Loose]) (fun k=>match k with|0=>(0,0)|1=>((b.Thread.length:Int),1)|_=>(((b.Thread.length+b.Loose.length:Nat):Int),2)) 2 (by omega) _ (fun k hk=>by
   match k,hk with
   |0,_=>
    show j9 [b.Thread,b.Loose] (0,0)=some (.inl ((b.Thread.length:Int),1));unfold j9;dsimp only;rw [j2 (by simp),show idx [b.Thread,b.Loose] 0=some b.Thread from rfl,j3,a5r (z:=(0:Int)+(b.Thread.length:Int)) (by omega),j0 (by simp only [A6];omega),show W ((0:Int)+1)=1 from rfl,Int.zero_add]
   |1,_=>
    show j9 [b.Thread,b.Loose] ((b.Thread.length:Int),1)=some (.inl (((b.Thread.length+b.Loose.length:Nat):Int),2));unfold j9;dsimp only;rw [j2 (by simp),show idx [b.Thread,b.Loose] 1=some b.Loose from rfl,j3,a5r (z:=(b.Thread.length:Int)+(b.Loose.length:Int)) (by omega),j0 (by simp only [A6];omega),show W ((1:Int)+1)=2 from rfl];rfl) (by
   show j9 [b.Thread,b.Loose] (((b.Thread.length+b.Loose.length:Nat):Int),2)=some (.inr (((b.Thread.length+b.Loose.length:Nat):Int),2));unfold j9;dsimp only;rw [j0 (by simp)])
 have k2:r6 (j7 [b.Thread,b.Loose]) (0,([]:List e8))=some (2,b.Thread++b.Loose):=
  a2N (body:=j7 [b.Thread,b.Loose]) (fun k=>match k with|0=>(0, [])|1=>(1,b.Thread)|_=>(2,b.Thread++b.Loose)) 2 (by omega) _ (fun k hk=>by
   match k,hk with
   |0,_=>
    show j7 [b.Thread,b.Loose] (0, [])=some (.inl (1,b.Thread));unfold j7;dsimp only;rw [j2 (by simp),show idx [b.Thread,b.Loose] 0=some b.Thread from rfl,j3,q9 (by simp;omega),show W ((0:Int)+1)=1 from rfl,a1u]
   |1,_=>
    show j7 [b.Thread,b.Loose] (1,b.Thread)=some (.inl (2,b.Thread++b.Loose));unfold j7;dsimp only;rw [j2 (by simp),show idx [b.Thread,b.Loose] 1=some b.Loose from rfl,j3,q9 (by omega),show W ((1:Int)+1)=2 from rfl]) (by
   show j7 [b.Thread,b.Loose] (2,b.Thread++b.Loose)=some (.inr (2,b.Thread++b.Loose));unfold j7;dsimp only;rw [j0 (by simp)])
 rw [k1,j3];dsimp only;rw [q9 (by omega),k2];rfl
theorem c4R (b:o4) (h:(b.Thread.length+b.Loose.length)*48≤140737488355328):a0m b=some ((b.Thread++b.Loose).filter (fun c=>decide (E9 c)),()):=by
 unfold a0m;rw [b0G b h,j3];have hl:(b.Thread++b.Loose).length≤9223372036854775800:=by rw [I9];omega
 generalize b.Thread++b.Loose=l at hl
 have key:=b4e (body:=I4 l) l (by omega) (fun k=>(k:Int)) (fun c=>if E9 c then [c]else []) (l.length:Int) (fun pre x post hx=>by
  unfold I4;rw [j2 (by rw [hx];simp only [A6];exact a8X),show idx l ((pre.length:Nat):Int)=some x from by rw [hx];exact a3F,j3,c0r,j3];have hlt:pre.length<l.length:=by rw [hx];simp
  rw [W_s (by omega)];by_cases hw:E9 x
  · simp [hw,emit]
  · simp [hw]) (by
  unfold I4;rw [j0 (by simp)])
 have key2:b4K (I4 l) 0=_:=key;rw [key2];simp only [b6I,a8A];congr 2
 induction l with
 |nil=>rfl
 |cons x l ih=>
  simp only [R2,List.filter_cons];clear key key2
  have ih':List.flatMap (fun c=>if E9 c then [c]else []) l=List.filter (fun c=>decide (E9 c)) l:=by
   clear ih hl
   induction l with
   |nil=>rfl
   |cons y l ih=>simp only [R2,List.filter_cons,ih];by_cases hy:E9 y<;>simp [hy]
  rw [ih'];by_cases hx:E9 x<;>simp [hx]
section
variable {K V : Type} [DecidableEq K]
theorem b5L (l:List (K×V)) (k:K) (v:V) (j:K):C6 (a6V l k v) j=if j=k then some v else C6 l j:=by
 induction l with
 |nil=>simp [a6V,C6]
 |cons p l ih=>
  obtain⟨a,x⟩:=p;simp only [a6V];by_cases h:k=a
  · subst h;simp only [C7,C6];by_cases hj:j=k<;>simp [hj]
  · rw [j0 h];simp only [C6];by_cases hj:j=a
    · subst hj;rw [j2 rfl,j2 rfl,j0 (fun e=>h e.symm)]
    · rw [j0 hj,j0 hj,ih]
end
def plc (c:e8):C9:=⟨c.No,c.Part,c.Parts⟩
theorem c2J:∀(ws:List e8) (a:List (C9×ByteArray)) (b:List (Int×Int)),∃a' b',P6 Q4 ws (a,b)=some (.inl (a',b'))∧
 (∀p,C6 a' p=(C6 a p).or ((ws.find? fun c=>decide (plc c=p)).map (·.Text)))∧(∀k,C6 b' k=(C6 b k).or ((ws.find? fun c=>decide (c.No=k∧c.Part=0)).map (·.Parts)))
 | [],a,b=>⟨a,b,rfl,fun p=>by simp,fun k=>by simp⟩
 |c::ws,a,b=>by
  have hstep:∃a1 b1,Q4 (a,b) c=some (.inl (a1,b1))∧(∀p,C6 a1 p=(C6 a p).or (if plc c=p then some c.Text else none))∧(∀k,C6 b1 k=(C6 b k).or (if c.No=k∧c.Part=0 then some c.Parts else none)):=by
   unfold Q4;dsimp only
   have ha:∀p,(C6 a (plc c)).isSome=false→C6 (a6V a (plc c) c.Text) p=(C6 a p).or (if plc c=p then some c.Text else none):=fun p h=>by
    rw [b5L];by_cases hp:p=plc c
    · subst hp;rw [j2 rfl,j2 rfl];cases hm:C6 a (plc c)with
      |none=>rfl
      |some v=>rw [hm]at h;cases h
    · rw [j0 hp,j0 (fun e=>hp e.symm)];simp
   have ha2:∀p,(C6 a (plc c)).isSome=true→C6 a p=(C6 a p).or (if plc c=p then some c.Text else none):=fun p h=>by
    by_cases hp:plc c=p
    · subst hp;cases hm:C6 a (plc c)with
      |none=>rw [hm]at h;cases h
      |some v=>rfl
    · rw [j0 hp];simp
   have hb:∀k,(C6 b c.No).isSome=false→c.Part=0→C6 (a6V b c.No c.Parts) k=(C6 b k).or (if c.No=k∧c.Part=0 then some c.Parts else none):=fun k h h0=>by
    rw [b5L];by_cases hp:k=c.No
    · subst hp;rw [j2 rfl,j2 ⟨rfl,h0⟩];cases hm:C6 b c.No with
      |none=>rfl
      |some v=>rw [hm]at h;cases h
    · rw [j0 hp,j0 (fun e=>hp e.1.symm)];simp
   have hb2:∀k,((C6 b c.No).isSome=true∨c.Part≠0)→C6 b k=(C6 b k).or (if c.No=k∧c.Part=0 then some c.Parts else none):=fun k h=>by
    by_cases hp:c.No=k∧c.Part=0
    · rcases h with h|h
      · rw [hp.1]at h;cases hm:C6 b k with
        |none=>rw [hm]at h;cases h
        |some v=>rfl
      · exact absurd hp.2 h
    · rw [j0 hp];simp
   have e:(⟨c.No,c.Part,c.Parts⟩:C9)=plc c:=rfl;rw [e];cases h1:(C6 a (plc c)).isSome with
   |false=>
    rw [j2 (by decide)];cases h2:(C6 b c.No).isSome with
    |false=>
     rw [j2 (by decide)];by_cases h0:c.Part=0
     · rw [j2 (by simpa using h0)]
       exact⟨_,_,rfl,fun p=>ha p h1,fun k=>hb k h2 h0⟩
     · rw [j0 (by simpa using h0)]
       exact⟨_,_,rfl,fun p=>ha p h1,fun k=>hb2 k (.inr h0)⟩
    |true=>
     rw [j0 (by decide)];exact⟨_,_,rfl,fun p=>ha p h1,fun k=>hb2 k (.inl h2)⟩
   |true=>
    rw [j0 (by decide)];cases h2:(C6 b c.No).isSome with
    |false=>
     rw [j2 (by decide)];by_cases h0:c.Part=0
     · rw [j2 (by simpa using h0)]
       exact⟨_,_,rfl,fun p=>ha2 p h1,fun k=>hb k h2 h0⟩
     · rw [j0 (by simpa using h0)]
       exact⟨_,_,rfl,fun p=>ha2 p h1,fun k=>hb2 k (.inr h0)⟩
    |true=>
     rw [j0 (by decide)];exact⟨_,_,rfl,fun p=>ha2 p h1,fun k=>hb2 k (.inl h2)⟩
  obtain⟨a1,b1,h1,h2,h3⟩:=hstep;obtain⟨a2,b2,h4,h5,h6⟩:=c2J ws a1 b1;refine⟨a2,b2,by simp only [P6,h1];exact h4,fun p=> ?_,fun k=> ?_⟩
  · rw [h5,h2,Option.or_assoc];congr 1;simp only [List.find?_cons];by_cases hp:plc c=p<;>simp [hp]
  · rw [h6,h3,Option.or_assoc];congr 1;simp only [List.find?_cons];by_cases hp:c.No=k∧c.Part=0<;>simp [hp]
theorem b2f {α:Type} (p q:α→Bool) (l:List α):(l.filter p).find? q=l.find? fun x=>p x&&q x:=by
 induction l with
 |nil=>rfl
 |cons x l ih=>
  simp only [List.filter_cons,List.find?_cons];by_cases hp:p x=true
  · simp [hp,List.find?_cons,ih]
  · simp [hp,ih]
structure c9s (l:List e8) (A:List (C9×ByteArray)) (B:List (Int×Int)):Prop where
 a:∀k i q:Int,q≠0→C6 A ⟨k,i,q⟩=(a0G l k i q).map (·.Text)
 b:∀k:Int,C6 B k=(a0G l k 0 0).map (·.Parts)
theorem c8i (l:List e8):∃A B,P6 Q4 (l.filter fun c=>decide (E9 c)) (([]:List (C9×ByteArray)),([]:List (Int×Int)))=some (.inl (A,B))∧c9s l A B:=by
 obtain⟨A,B,h1,h2,h3⟩:=c2J (l.filter fun c=>decide (E9 c)) [] [];refine⟨A,B,h1,⟨fun k i q hq=> ?_,fun k=> ?_⟩⟩
 · rw [h2];simp only [C6,Option.none_or,b2f];unfold a0G;congr 2;funext c;rw [a8E];simp only [A7,A6,plc,C9.mk.injEq,hq,false_or]
 · rw [h3];simp only [C6,Option.none_or,b2f];unfold a0G;congr 2;funext c;rw [a8E];simp
theorem c5Z {l:List e8} {A:List (C9×ByteArray)} {B:List (Int×Int)} (hM:c9s l A B) (k P:Int) (hP:(C6 B k).getD 0=P) (hP0:P≠0) (hP10:P≤10):
 ∀(n:Nat) (i:Int) (s:ByteArray) (fine:Bool) (N:Nat),0≤i→i+n=P→s.size+24*n≤24*20→n<N→
  ∃s' fine' i',X5 (E2 A B k) N (s,fine,i)=some (s',fine',i')∧s'.size≤24*20∧(fine=false→fine'=false)∧(fine=true→match a2L l k P n i with|some t=>fine'=true∧s'=s++t|none=>fine'=false)
 |0,i,s,fine,N,h0,hi,hs,hN=>by
  cases N with
  |zero=>omega
  |succ N=>
   refine⟨s,fine,i, ?_,by omega,fun h=>h,fun h=>⟨h,(c7O s).symm⟩⟩;simp only [X5];unfold E2;dsimp only;rw [hP,j0 (by simp only [A6];omega)]
 |n+1,i,s,fine,N,h0,hi,hs,hN=>by
  cases N with
  |zero=>omega
  |succ N=>
   have ha:=hM.a k i P hP0
   have hsz:((C6 A ⟨k,i,P⟩).getD ⟨#[]⟩).size≤24:=by
    rw [ha];cases hp:a0G l k i P with
    |none=>exact I2 _
    |some c=>
     have hw:=(b2j hp).1;unfold E9 at hw;simp only [a5K,Option.getD_some];omega
   have hb:E2 A B k (s,fine,i)=some (.inl (s++(C6 A ⟨k,i,P⟩).getD ⟨#[]⟩,fine&&(C6 A ⟨k,i,P⟩).isSome,i+1)):=by
    unfold E2;dsimp only;rw [hP,j2 (by simp only [A6];omega),q9 (by omega),a5r (z:=i+1) (by omega)];cases fine<;>rfl
   simp only [X5,hb];obtain⟨s',fine',i',h1,h2,h3,h4⟩:=c5Z hM k P hP hP0 hP10 n (i+1) (s++(C6 A ⟨k,i,P⟩).getD ⟨#[]⟩) (fine&&(C6 A ⟨k,i,P⟩).isSome) N (by omega) (by omega) (by rw [ByteArray.size_append];omega) (by omega);refine⟨s',fine',i',h1,h2,fun hf=>h3 (by rw [hf];rfl),fun hf=> ?_⟩;simp only [a2L];cases hp:a0G l k i P with
   |none=>
    dsimp only;exact h3 (by rw [ha,hp];simp)
   |some c=>
    have h5:=h4 (by rw [hf,ha,hp];rfl);dsimp only;cases hg:a2L l k P n (i+1)with
    |none=>rw [hg]at h5;exact h5
    |some t=>
     rw [hg]at h5;refine⟨h5.1, ?_⟩;rw [h5.2,ha,hp];simp only [a5K,Option.getD_some];rw [ByteArray.append_assoc]
theorem c1s {l:List e8} {A:List (C9×ByteArray)} {B:List (Int×Int)} (hM:c9s l A B) (out:List b9) (hw:Written out):
 Q3 A B (out,(out.length:Int))=some (match a5B l (out.length:Int)with
  |none=> .inr (out,(out.length:Int))
  |some t=>match decF t with
   |none=> .inr (out,(out.length:Int))
   |some r=>if U7 out r then .inl (out++ [r],((out.length+1:Nat):Int))else .inr (out,(out.length:Int))):=by
 have hlen:=hw.len;have hdep:∀r∈out,y8 r.At.Depot:=fun r hr=>hw.dep hr
 have hb:=hM.b (out.length:Int);unfold Q3;dsimp only;unfold a5B;cases hp:a0G l (out.length:Int) 0 0 with
 |none=>
  rw [hp]at hb;have hP:(C6 B (out.length:Int)).getD 0=0:=by rw [hb];rfl
  have hloop:r6 (E2 A B (out.length:Int)) (⟨#[]⟩,decide ((C6 B (out.length:Int)).getD 0>0),0)=some (⟨#[]⟩,false,0):=by
   rw [hP]
   exact a2N (body:=E2 A B (out.length:Int)) (fun _=>((⟨#[]⟩:ByteArray),false,(0:Int))) 0 (by omega) _ (fun k hk=>by omega) (by
    unfold E2;dsimp only;rw [hP,j0 (by decide)])
  rw [hloop,j3];dsimp only;rw [j2 (by decide)]
 |some c0=>
  obtain⟨hw0,g1,g2,_⟩:=b2j hp;have hw1:=hw0;unfold E9 at hw1;rw [hp]at hb;have hP:(C6 B (out.length:Int)).getD 0=c0.Parts:=by rw [hb];rfl
  obtain⟨P,hPn⟩:∃P:Nat,c0.Parts=P:=⟨c0.Parts.toNat,by omega⟩;obtain⟨s',fine',i',h1,h2,_,h4⟩:=c5Z hM (out.length:Int) c0.Parts hP (by omega) (by omega) P 0 ⟨#[]⟩ true a2n (by omega) (by omega) (by show 0+24*P≤_;omega) (by unfold a2n;omega);have h4:=h4 rfl;have hfine:decide ((C6 B (out.length:Int)).getD 0>0)=true:=by rw [hP];simp only [A6];omega
  have hloop:r6 (E2 A B (out.length:Int)) (⟨#[]⟩,decide ((C6 B (out.length:Int)).getD 0>0),0)=some (s',fine',i'):=by rw [hfine];exact h1
  rw [hloop,j3];dsimp only;rw [show c0.Parts.toNat=P by omega];cases hg:a2L l (out.length:Int) c0.Parts P 0 with
  |none=>
   rw [hg]at h4;subst h4;dsimp only;rw [j2 (by decide)]
  |some t=>
   rw [hg]at h4;obtain⟨rfl,rfl⟩:=h4;rw [c7T]at h2⊢;dsimp only;rw [j0 (by decide),c3p t (by omega),j3];cases hd:decF t with
   |none=>
    dsimp only;rw [j2 (by decide)]
   |some r=>
    obtain⟨hr,he⟩:=a8i hd;dsimp only;rw [j0 (by decide),c2b out r (by omega) hdep (a2O hr),j3];by_cases hn:U7 out r
    · rw [j0 (by simp [hn]),q9 (by simp;omega),j2 hn,W_s (by omega)]
    · rw [j2 (by simp [hn]),j0 hn]
theorem a5N (b:o4) (h:(b.Thread.length+b.Loose.length)*48≤140737488355328):D0 b=some (⟨ofF (a6S (b.Thread++b.Loose)), []⟩,a6S (b.Thread++b.Loose)):=by
 unfold D0 a5g;rw [j3,c4R b h,j3];generalize b.Thread++b.Loose=l;obtain⟨A,B,h1,hM⟩:=c8i l;dsimp only;rw [h1,j3];dsimp only
 have key:∀(n:Nat) (out:List b9) (N:Nat),Written out→61-out.length≤n→n<N→X5 (Q3 A B) N (out,(out.length:Int))=some (a5o l n out,((a5o l n out).length:Int)):=by
  intro n
  induction n with
  |zero=>
   intro out N hw hn hN;have:=hw.len;omega
  |succ n ih=>
   intro out N hw hn hN;cases N with
   |zero=>omega
   |succ N=>
    simp only [X5,c1s hM out hw,a5o];cases ht:a5B l (out.length:Int)with
    |none=>rfl
    |some t=>
     dsimp only;cases hd:decF t with
     |none=>rfl
     |some r=>
      dsimp only;by_cases hnx:U7 out r
      · rw [j2 hnx,j2 hnx];have:=ih (out++ [r]) N (hw.snoc (a8i hd).1 hnx) (by simp;omega) (by omega);simp only [I9,List.length_singleton]at this;exact this
      · rw [j0 hnx,j0 hnx]
 have hk:r6 (Q3 A B) ([],0)=_:=key 61 [] a2n Written.nil (by simp) (by unfold a2n;omega);rw [hk,j3];dsimp only;have hw:=b5l l;rw [show a5o l 61 []=a6S l from rfl,c6c _ (fun r hr=>hw.rec hr) (by have:=hw.len;omega)];rfl
def a2j (picks:List Int) (i:Nat):Int:=if picks.length=0 then 0 else picks.getD (i % picks.length) 0
def b6T (l:List Int):Prop:=∀x∈l,-9223372036854775808≤x∧x≤9223372036854775807
theorem c5u {picks:List Int} (h:b6T picks) (i:Nat): -9223372036854775808≤a2j picks i∧a2j picks i≤9223372036854775807:=by
 unfold a2j;by_cases h0:picks.length=0
 · rw [j2 h0];omega
 · rw [j0 h0];have:i % picks.length<picks.length:=Nat.mod_lt _ (by omega);have:=h picks[i % picks.length] (a2k this);simpa [List.getD,G7 ‹_›]using this
theorem c8g {picks:List Int} (h0:picks.length≠0) (i:Nat):idx picks ((i:Int).tmod (picks.length:Int))=some (a2j picks i):=by
 have hlt:i % picks.length<picks.length:=Nat.mod_lt _ (by omega);have e:(i:Int).tmod (picks.length:Int)=((i % picks.length:Nat):Int):=by rw [Int.tmod_eq_emod_of_nonneg (by omega)];rfl
 rw [e,Y0 hlt];unfold a2j;rw [j0 h0];simp [List.getD,G7 hlt]
theorem d0P {x n:Int} (hx: -9223372036854775808≤x∧x≤9223372036854775807) (hn:1≤n∧n≤4611686018427387904):(W (x.tmod n+n)).tmod n=x % n:=by
 have h1:=Int.tmod_lt_of_pos x (show 0<n by omega)
 have h2: -n<x.tmod n:=by
  have:=Int.neg_lt_of_neg_lt (show-(x.tmod n)<n from by rw [←Int.neg_tmod];exact Int.tmod_lt_of_pos _ (by omega));exact this
 rw [a5r (by omega),Int.tmod_eq_emod_of_nonneg (by omega),Int.add_emod_right];have h3:x=n*x.tdiv n+x.tmod n:=(Int.mul_tdiv_add_tmod x n).symm
 conv=>rhs;rw [h3]
 rw [Int.mul_add_emod_self_left]
theorem b9Z (picks:List Int) (hp:b6T picks) (i:Nat) (n:Int) (hn:1≤n∧n≤4611686018427387904):a1R picks (i:Int) n=some (a2j picks i % n):=by
 unfold a1R;by_cases h0:picks.length=0
 · rw [j2 (by simp [h0])];unfold a2j;rw [j2 h0];simp
 · rw [j0 (by simpa using h0),q9 (by omega),c8g h0,j3,q9 (by omega),q9 (by omega),d0P (c5u hp i) hn]
theorem a4o (x m:Int) (hx: -9223372036854775808≤x∧x≤9223372036854775807) (hm:1≤m∧m≤4611686018427387904):J8 x m=some (x % m):=by
 unfold J8;rw [q9 (by omega),q9 (by omega),d0P hx hm]
def b3v (picks:List Int) (i:Nat) (out:List e8) (c:e8):List e8:=
 if a2j picks (2*i) % 4=0 then out
 else if a2j picks (2*i) % 4=3 then c::out
 else if a2j picks (2*i) % 4=1∧0<c.Text.size then out++ [⟨c.No,c.Part,c.Parts,c.Size,c.Text.extract 0 (a2j picks (2*i+1) % c.Text.size).toNat⟩]
 else out++ [c]
def a3O (picks:List Int):Nat→List e8→List e8→List e8
 |_,out, []=>out
 |i,out,c::l=>a3O picks (i+1) (b3v picks i out c) l
theorem c3X (picks:List Int) (i:Nat) (out:List e8) (c:e8):(b3v picks i out c).length≤out.length+1:=by
 unfold b3v;split
 · omega
 · split
   · simp
   · split<;>simp
theorem b0T (picks:List Int):∀(l:List e8) (i:Nat) (out:List e8),(a3O picks i out l).length≤out.length+l.length
 | [],_,_=>by simp [a3O]
 |c::l,i,out=>by
  have h1:=b0T picks l (i+1) (b3v picks i out c);have h2:=c3X picks i out c;simp only [a3O,P3];omega
theorem b3j (picks:List Int):∀(l:List e8) (i:Nat) (out:List e8) (c:e8),a3O picks i out (l++ [c])=b3v picks (i+l.length) (a3O picks i out l) c
 | [],i,out,c=>by simp [a3O]
 |x::l,i,out,c=>by
  simp only [a0i,a3O,b3j picks l (i+1),P3];rw [show i+1+l.length=i+(l.length+1) by omega]
def a5H (b:o4) (picks:List Int):o4:=⟨b.Thread,a3O picks 0 [] b.Loose⟩
structure c1W (b:o4):Prop where
 t:b.Thread.length*48≤140737488355328
 l:(b.Loose.length+1)*48≤140737488355328
 s:∀c∈b.Loose,c.Text.size≤281474976710656
theorem d2N (x:Int):0≤x % 4∧x % 4<4:=by omega
theorem a5G (b:o4) (picks:List Int) (h:c1W b) (hp:b6T picks) (hpl:picks.length≤9223372036854775800):D3 b picks=some (a5H b picks):=by
 unfold D3 k9;have ht:=h.t;have hl:=h.l;rw [q9 (by omega),j3]
 have key:=a2N (body:=Q1 b picks) (fun k=>((k:Int),([]:List e8),([]:List e8),([]:List e8),a3O picks 0 [] (b.Loose.take k))) b.Loose.length (by omega) ((b.Loose.length:Int), [], [], [],a3O picks 0 [] b.Loose) (fun k hk=>by
  have hlen:=b0T picks (b.Loose.take k) 0 [];simp only [a1r,V2,a0h]at hlen;have hsn:=b3j picks (b.Loose.take k) 0 [] b.Loose[k];rw [←a6T hk]at hsn;simp only [V2,a0z (a5y hk),a0h]at hsn;have htx:=h.s b.Loose[k] (a2k hk);unfold Q1;dsimp only;rw [hsn];generalize hO:a3O picks 0 [] (b.Loose.take k)=out at hlen⊢;have e2:W (2*(k:Int))=((2*k:Nat):Int):=by rw [a5r (by omega)];omega
  rw [j2 (by simp only [A6];omega),Y0 hk,j3,e2,b9Z picks hp _ 4 (by omega),j3,W_s (by omega)];have hm:=d2N (a2j picks (2*k));unfold b3v;by_cases h0:a2j picks (2*k) % 4=0
  · rw [j2 (by simp [h0]),j2 h0]
  · rw [j0 (by simpa using h0),j0 h0]
    by_cases h3:a2j picks (2*k) % 4=3
    · rw [j2 (by simp [h3]),j2 h3];unfold H4;rw [q9 (by simp),j0 (by simp)];by_cases hz:out.length=0
      · have:out= []:=a3t hz;subst this;rw [j2 (by simp),q9 (by simp)];rfl
      · rw [j0 (by simp only [K4];omega),q9 (by simp;omega)];rfl
    · rw [j0 (by simpa using h3),j0 h3]
      by_cases h1:a2j picks (2*k) % 4=1
      · rw [j2 (by simp [h1])];by_cases hs:0<b.Loose[k].Text.size
        · rw [j2 (by simp only [A6];omega),j2 ⟨h1,hs⟩];have e3:W (((2*k:Nat):Int)+1)=((2*k+1:Nat):Int):=W_s (by omega);have hpos:0≤a2j picks (2*k+1) % (b.Loose[k].Text.size:Int):=Int.emod_nonneg _ (by omega);have hlt:a2j picks (2*k+1) % (b.Loose[k].Text.size:Int)<(b.Loose[k].Text.size:Int):=b1t _ (by omega);rw [e3,b9Z picks hp _ _ (by omega),j3,q9 (by omega)];unfold a3f M4;rw [q9 (by rw [ByteArray.size_extract];omega),j3,j3,q9 (by simp;omega)]
        · rw [j0 (by simp only [A6];omega),j0 (by rintro⟨_,h⟩;exact hs h),q9 (by simp;omega)]
      · rw [j0 (by simpa using h1),j0 (by rintro⟨h,_⟩;exact h1 h),q9 (by simp;omega)]) (by
  unfold Q1;dsimp only;rw [j0 (by simp),a4u])
 rw [List.take_zero]at key;have key2:r6 (Q1 b picks) (0, [], [], [], [])=_:=key;rw [key2];rfl
def Bef (a b:p0):Prop:=a.Depot<b.Depot∨(a.Depot=b.Depot∧a.No<b.No)
instance (a b : p0) : Decidable (Bef a b) := by unfold Bef; infer_instance
theorem Bef.trans {a b c:p0} (h:Bef a b) (k:Bef b c):Bef a c:=by unfold Bef at*;omega
theorem Bef.irr (a:p0):¬Bef a a:=by unfold Bef;omega
theorem Bef.tri (a b:p0):Bef a b∨a=b∨Bef b a:=by
 obtain⟨a1,a2⟩:=a;obtain⟨b1,b2⟩:=b;unfold Bef;simp only [p0.mk.injEq];omega
def a2z (l:List b9):Prop:=l.Pairwise fun a b=>Bef a.At b.At
def a0I (l:List b9):Prop:=l.Pairwise fun a b=>a.At≠b.At
theorem a2z.once {l:List b9} (h:a2z l):a0I l:=by
 unfold a2z at h;unfold a0I;exact h.imp fun {a b} (h:Bef a.At b.At) (e:a.At=b.At)=>Bef.irr b.At (e▸h)
theorem a8c:∀ {l m:List b9},a2z l→a2z m→(∀r,r∈l↔r∈m)→l=m
 | [], [],_,_,_=>rfl
 | [],y::m,_,_,h=>by have:=(h y).2 D7;cases this
 |x::l, [],_,_,h=>by have:=(h x).1 D7;cases this
 |x::l,y::m,hl,hm,h=>by
  unfold a2z at hl hm;simp only [a9X]at hl hm
  have e:x=y:=by
   rcases o6.1 ((h x).1 D7)with e|h1
   · exact e
   · rcases o6.1 ((h y).2 D7)with e|h2
     · exact e.symm
     · exact absurd ((hm.1 x h1).trans (hl.1 y h2)) (Bef.irr _)
  subst e;congr 1;refine a8c hl.2 hm.2 fun r=> ?_
  constructor
  · intro hr;rcases o6.1 ((h r).1 (B4 _ hr))with e|h1
    · subst e;exact absurd (hl.1 r hr) (Bef.irr _)
    · exact h1
  · intro hr;rcases o6.1 ((h r).2 (B4 _ hr))with e|h1
    · subst e;exact absurd (hm.1 r hr) (Bef.irr _)
    · exact h1
def a5u (p:List b9) (r:b9):Prop:=w7 r∧(∀y,p.getLast?=some y→Bef y.At r.At)∧((cnt p r.At.Depot:Nat):Int)=r.At.No
def R9 (l:List b9):Prop:=∀(i:Nat) (r:b9),l[i]?=some r→a5u (l.take i) r
def a6x (l:List b9):Prop:=l.length≤60∧R9 l
theorem R9.nil:R9 []:=fun i r h=>by simp at h
theorem a9g {l:List b9} {r:b9}:R9 (l++ [r])↔R9 l∧a5u l r:=by
 constructor
 · intro h;refine⟨fun i x hx=> ?_, ?_⟩
   · obtain⟨hi,rfl⟩:=L6.1 hx;have:=h i l[i] (by rw [b1B hi,hx]);rwa [b0s (a5y hi)]at this
   · have:=h l.length r (by simp);simpa using this
 · intro⟨h,hr⟩ i x hx;rcases Nat.lt_trichotomy i l.length with h1|h1|h1
   · rw [b1B h1]at hx;have:=h i x hx;rwa [b0s (a5y h1)]
   · subst h1;simp at hx;subst hx;simpa using hr
   · rw [a9R (by simp;omega)]at hx;cases hx
theorem R9.facts:∀(n:Nat) {l:List b9},l.length=n→R9 l→(∀r∈l,w7 r)∧a2z l∧∀x,l.getLast?=some x→(∀r∈l,r=x∨Bef r.At x.At)∧((cnt l x.At.Depot:Nat):Int)=x.At.No+1∧∀d,x.At.Depot<d→cnt l d=0
 |0,l,hn,_=>by
  obtain rfl:=List.length_eq_zero_iff.1 hn;exact⟨by simp,List.Pairwise.nil,by simp⟩
 |n+1,l,hn,h=>by
  rcases List.eq_nil_or_concat l with rfl|⟨L,b,rfl⟩
  · simp at hn
  · rw [List.concat_eq_append]at h hn⊢;obtain⟨h1,h2⟩:=a9g.1 h;obtain⟨f1,f2,f3⟩:=R9.facts n (by simpa using hn) h1
    obtain⟨b1,b2,b3⟩:=h2
    have hb:∀r∈L,Bef r.At b.At:=fun r hr=>by
     cases hg:L.getLast? with
     |none=>rw [List.getLast?_eq_none_iff]at hg;subst hg;cases hr
     |some y=>
      rcases(f3 y hg).1 r hr with e|e
      · rw [e];exact b2 y hg
      · exact e.trans (b2 y hg)
    refine⟨fun r hr=> ?_, ?_,fun x hx=> ?_⟩
    · rcases u4.1 hr with hr|hr
      · exact f1 r hr
      · obtain rfl:=V0.1 hr;exact b1
    · unfold a2z at f2⊢;rw [List.pairwise_append];exact⟨f2,List.pairwise_singleton _ _,fun a ha c hc=>by obtain rfl:=V0.1 hc;exact hb a ha⟩
    · rw [List.getLast?_concat]at hx;cases hx;refine⟨fun r hr=> ?_, ?_,fun d hd=> ?_⟩
      · rcases u4.1 hr with hr|hr
        · exact .inr (hb r hr)
        · exact .inl (V0.1 hr)
      · rw [a1H,j2 rfl];omega
      · rw [a1H,j0 (by omega)];cases hg:L.getLast? with
        |none=>rw [List.getLast?_eq_none_iff]at hg;subst hg;rfl
        |some y=>
         have:=b2 y hg;have:=(f3 y hg).2.2 d (by unfold Bef at this;omega);omega
theorem R9.rec {l:List b9} (h:R9 l) {r:b9} (hr:r∈l):w7 r:=(R9.facts _ rfl h).1 r hr
theorem R9.rise {l:List b9} (h:R9 l):a2z l:=(R9.facts _ rfl h).2.1
theorem R9.dep {l:List b9} (h:R9 l) {r:b9} (hr:r∈l):y8 r.At.Depot:=a2O (h.rec hr)
open Classical in theorem book_loop {S E : Type} {body : S → Option (Sum S E)} (l : List b9) (hl : l.length ≤ 9223372036854775800) (enc : Nat → S) (yes no : E)
    (h : ∀ (i : Nat) (hi : i < l.length), R9 (l.take i) → body (enc i) = some (if a5u (l.take i) l[i] then .inl (enc (i + 1)) else .inr no))
    (he : body (enc l.length) = some (.inr yes)) : r6 body (enc 0) = some (if R9 l then yes else no) := by
  have key := a1l (body := body) l (by omega) (fun k (_ : List b9) => enc k) (fun p x => if a5u p x then .inl (p ++ [x]) else .inr ()) (fun _ : Unit => no) (fun _ => yes) (fun pre s => s = pre ∧ R9 pre)
    (fun pre x post s hp ⟨hs, hb⟩ => by
      subst hs;have hlt : s.length < l.length := by rw [hp]; simp
      have e1 : l.take s.length = s := by rw [hp]; simp
      have e2 : l[s.length] = x := by simp only [hp]; simp
      have := h s.length hlt (by rw [e1]; exact hb);rw [e1, e2] at this;by_cases hk : a5u s x
      · rw [j2 hk] at this ⊢;exact ⟨this, fun s' hs' => by cases hs'; exact ⟨rfl, a9g.2 ⟨hb, hk⟩⟩⟩
      · rw [j0 hk] at this ⊢;exact ⟨this, fun s' hs' => by cases hs'⟩) (fun s _ => he) [] ⟨rfl, R9.nil⟩
  rw [key]
  have run : ∀ (post pre : List b9), R9 pre → P5 (R := Unit) (fun p x => if a5u p x then .inl (p ++ [x]) else .inr ()) post pre = if R9 (pre ++ post) then .inl (pre ++ post) else .inr () := by
    intro post
    induction post with
    | nil => intro pre hp; simp [P5, hp]
    | cons x post ih =>
      intro pre hp;unfold P5;by_cases hk : a5u pre x
      · rw [j2 hk];dsimp only;rw [ih _ (a9g.2 ⟨hp, hk⟩)];simp
      · rw [j0 hk]
        have : ¬ R9 (pre ++ x :: post) := fun hb => hk (by
          have := hb pre.length x (by simp);simpa using this)
        rw [j0 this]
  rw [run l [] R9.nil, a1u];by_cases hb : R9 l <;> simp [hb]
def a3s (p:List b9):Int×Int:=match p.getLast? with|none=>(-1,0)|some y=>(y.At.Depot,y.At.No)
theorem c0w (p:List b9) (r:b9):a3s (p++ [r])=(r.At.Depot,r.At.No):=by unfold a3s;rw [List.getLast?_concat]
theorem c3F {p:List b9} {r:b9} (h:R9 p) (hr:w7 r):a5u p r↔(r.At.Depot=(a3s p).1∧r.At.No=(a3s p).2+1)∨((a3s p).1<r.At.Depot∧r.At.No=0):=by
 have hd:=a2O hr;unfold y8 at hd;obtain⟨f1,f2,f3⟩:=R9.facts _ rfl h;unfold a5u a3s;cases hg:p.getLast? with
 |none=>
  rw [List.getLast?_eq_none_iff]at hg;subst hg;simp only [c2O,reduceCtorEq,false_implies,implies_true,X6,hr];omega
 |some y=>
  obtain⟨_,g2,g3⟩:=f3 y hg;simp only [U3,forall_eq',hr,X6];unfold Bef;rcases Int.lt_trichotomy r.At.Depot y.At.Depot with h1|h1|h1
  · omega
  · rw [h1];omega
  · have:=g3 _ h1;omega
open Classical in theorem isBook_eq (b : y0) (hl : b.Records.length ≤ 9223372036854775800) (hs : ∀ r ∈ b.Records, r.Text.size ≤ 9223372036854775807) : K9 b = some (decide (a6x b.Records)) := by
  obtain ⟨l⟩ := b;dsimp only at hl hs;unfold K9
  have key := book_loop (body := D1 ⟨l⟩) l hl (fun k => ((k : Int), (a3s (l.take k)).1, (a3s (l.take k)).2)) (.inl ((l.length : Int), (a3s l).1, (a3s l).2)) (.inr false)
    (fun i hi hb => by
      unfold D1;dsimp only;rw [j2 (by simp only [A6]; omega), Y0 hi, j3, a6T hi, c0w, R0 _ (hs _ (a2k hi)), W_s (by omega)];by_cases hok : w7 l[i]
      · have hn : 0 ≤ l[i].At.No ∧ l[i].At.No ≤ 9999 := hok.1.2
        have hn2 : (a3s (l.take i)).2 + 1 ≤ 9223372036854775807 ∧ -9223372036854775808 ≤ (a3s (l.take i)).2 + 1 := by
          unfold a3s;cases hg : (l.take i).getLast? with
          | none => decide
          | some y =>
            have : 0 ≤ y.At.No ∧ y.At.No ≤ 9999 := (hb.rec (List.mem_of_getLast? hg)).1.2;dsimp only;omega
        rw [a5r (z := (a3s (l.take i)).2 + 1) ⟨hn2.2, hn2.1⟩];simp only [hok, V5, a1x, j3, J4, F7, K4, A6, a3q, beq_eq_false_iff_ne, ne_eq];have hq := c3F hb hok;by_cases hS : a5u (l.take i) l[i]
        · rw [j2 hS];rcases hq.1 hS with ⟨a1, a2⟩ | ⟨a1, a2⟩
          · rw [j2 a1, j2 a2]; rfl
          · rw [j0 (by omega), j2 a1, j0 (by decide), j0 (fun hh => hh a2)]
        · rw [j0 hS];have hq2 := fun hh => hS (hq.2 hh)
          by_cases a1 : l[i].At.Depot = (a3s (l.take i)).1
          · rw [j2 a1, j0 (fun a2 => hq2 (.inl ⟨a1, a2⟩)), j0 (by omega)];split <;> rfl
          · rw [j0 a1];by_cases a3 : l[i].At.Depot > (a3s (l.take i)).1
            · rw [j2 a3, j0 (by decide), j2 (fun a2 => hq2 (.inr ⟨a3, a2⟩))]
            · rw [j0 a3];split <;> rfl
      · have hS : ¬ a5u (l.take i) l[i] := fun hS => hok hS.1
        simp only [hok, a0O, a5C, j3, C7, hS, F7];split
        · split
          · rfl
          · split <;> rfl
        · split <;> rfl)
    (by unfold D1; dsimp only; rw [j0 (by simp), a4u])
  have e0 : r6 (D1 ⟨l⟩) (0, -1, 0) = _ := key;rw [e0, j3];unfold a6x;by_cases hb : R9 l
  · rw [j2 hb];dsimp only;simp only [hb, and_true];congr 1;by_cases h60 : l.length ≤ 60
    · simp only [h60, V5, A6]; omega
    · simp only [h60, a0O, b3f]; omega
  · rw [j0 hb];simp [hb]
theorem b9Q (a b:p0):a2R a b=some (decide (Bef a b)):=by
 unfold a2R Bef;by_cases h1:a.Depot<b.Depot
 · simp [h1]
 · by_cases h2:a.Depot=b.Depot
   · simp [h2]
   · simp [h1,h2]
open Classical in theorem Check_eq (b : y0) (hs : ∀ r ∈ b.Records, r.Text.size ≤ 9223372036854775807) : a4Q b = some (if a6x b.Records then 0 else 81) := by
  obtain ⟨l⟩ := b;dsimp only at hs;unfold a4Q a6x;by_cases h60 : l.length ≤ 60
  · rw [j0 (by simp only [A6]; omega)]
    have key := book_loop (body := U9 ⟨l⟩) l (by omega) (fun k => (k : Int)) (.inl (l.length : Int)) (.inr 81)
      (fun i hi hb => by
        unfold U9;dsimp only;have hdep : ∀ r ∈ l.take i, y8 r.At.Depot := fun r hr => hb.dep hr
        have hi60 : i ≤ 60 := by omega
        have es : sub l 0 ((i : Int)).toNat = l.take i := by unfold sub; simp
        rw [j2 (by simp only [A6]; omega), Y0 hi, j3, a7c _ (hs _ (a2k hi)), j3, q9 (by omega)];simp only [j3, es];rw [c2k _ (by simp; omega) hdep];simp only [j3];rw [W_s (by omega)];by_cases hok : w7 l[i]
        · rw [j0 (by simp [hok])];have hc := a6o (l.take i) (a2O hok);rw [a8r] at hc;simp only [hc, j3]
          have hcd : (if (((cnt (l.take i) l[i].At.Depot : Nat) : Int) != l[i].At.No) = true then some (Sum.inr (Sum.inr (81 : Int))) else some (Sum.inl ((i + 1 : Nat) : Int)) : Option (Sum Int (Sum Int Int))) = if ((cnt (l.take i) l[i].At.Depot : Nat) : Int) = l[i].At.No then some (.inl ((i + 1 : Nat) : Int)) else some (.inr (.inr 81)) := by
            by_cases hh : ((cnt (l.take i) l[i].At.Depot : Nat) : Int) = l[i].At.No <;> simp [hh]
          rw [hcd];by_cases h0 : i = 0
          · subst h0;rw [j0 (by simp)];unfold a5u;by_cases hh : ((cnt (l.take 0) l[0].At.Depot : Nat) : Int) = l[0].At.No
            · rw [j2 hh, j2 ⟨hok, by simp, hh⟩]
            · rw [j0 hh, j0 (fun hx => hh hx.2.2)]
          · rw [j2 (by simp only [A6]; omega), a5r (by omega)];have hj : i - 1 < l.length := by omega
            have ej : ((i : Int) - 1) = ((i - 1 : Nat) : Int) := by omega
            have hg : (l.take i).getLast? = some l[i - 1] := by
              rw [List.getLast?_eq_getElem?, V2, a0z (by omega), a4v, j2 (by omega), G7 hj]
            rw [ej, Y0 hj, j3, b9Q, j3];unfold a5u;rw [hg];by_cases hbf : Bef l[i - 1].At l[i].At
            · rw [j0 (by simp [hbf])];by_cases hh : ((cnt (l.take i) l[i].At.Depot : Nat) : Int) = l[i].At.No
              · rw [j2 hh, j2 ⟨hok, by intro y hy; cases hy; exact hbf, hh⟩]
              · rw [j0 hh, j0 (fun hx => hh hx.2.2)]
            · rw [j2 (by simp [hbf]), j0 (fun hx => hbf (hx.2.1 _ rfl))]
        · rw [j2 (by simp [hok]), j0 (fun hx => hok hx.1)])
      (by unfold U9; dsimp only; rw [j0 (by simp)])
    have e0 : r6 (U9 ⟨l⟩) 0 = _ := key;rw [e0, j3];by_cases hb : R9 l
    · rw [j2 hb]; simp [hb, h60]
    · rw [j0 hb]; simp [hb]
  · rw [j2 (by simp only [A6]; omega), j0 (fun hx => h60 hx.1)]
theorem ltR (a b:b9):Go.Proofs.ltOf b0v a b=true↔Bef a.At b.At:=by
 unfold Go.Proofs.ltOf Bef;rw [decide_eq_true_iff];unfold b0v
 have hc:∀x y:Int,(a6Y x y= -1∧x<y)∨(a6Y x y=1∧y<x)∨(a6Y x y=0∧x=y):=fun x y=>by
  unfold a6Y;by_cases h1:x<y
  · exact .inl ⟨by rw [j2 h1],h1⟩
  · by_cases h2:x>y
    · exact .inr (.inl ⟨by rw [j0 h1,j2 h2],h2⟩)
    · exact .inr (.inr ⟨by rw [j0 h1,j0 h2],by omega⟩)
 rcases hc a.At.Depot b.At.Depot with⟨e1,g1⟩|⟨e1,g1⟩|⟨e1,g1⟩<;>rcases hc a.At.No b.At.No with⟨e2,g2⟩|⟨e2,g2⟩|⟨e2,g2⟩<;>rw [e1,e2]<;>simp [orI]<;>omega
theorem E0 (l:List b9):(w5 l).Perm l:=by
 obtain⟨⟨h1,_,h3⟩,_⟩:=a7R l;have e1:(a4a l).extract 0 l.toArray.size=a4a l:=by rw [←h1];simp
 have e2:l.toArray.extract 0 l.toArray.size=l.toArray:=by simp
 rw [e1,e2]at h3;simpa [w5]using h3
theorem a0I.perm {l m:List b9} (h:a0I l) (p:l.Perm m):a0I m:=by
 unfold a0I at*;exact(p.pairwise_iff (fun {a b} (h:a.At≠b.At)=>h.symm)).1 h
theorem a0Z {l:List b9} (h:a0I l):a2z (w5 l):=by
 have ho:a0I (w5 l):=h.perm (E0 l).symm;obtain⟨⟨h1,_,_⟩,h2⟩:=a7R l;unfold a0I at ho;unfold a2z;rw [b3G]at ho⊢;intro i j hi hj hij;have hne:=ho i j hi hj hij;have hs:(w5 l).length=(a4a l).size:=by simp [w5]
 have hlt:=h2 i j (I2 _) hij (by rw [←h1];omega);have e1:(a4a l)[j]! =(w5 l)[j]:=by simp only [w5];rw [getElem!_pos (a4a l) j (by omega)];simp
 have e2:(a4a l)[i]! =(w5 l)[i]:=by simp only [w5];rw [getElem!_pos (a4a l) i (by omega)];simp
 rw [e1,e2]at hlt;have hn:¬Bef (w5 l)[j].At (w5 l)[i].At:=fun hb=>by rw [(ltR _ _).2 hb]at hlt;cases hlt
 rcases Bef.tri (w5 l)[i].At (w5 l)[j].At with g|g|g
 · exact g
 · exact absurd g hne
 · exact absurd g hn
theorem a9e {l m:List b9} (h:a2z m) (p:m.Perm l):w5 l=m:=by
 refine a8c (a0Z (h.once.perm p)) h fun r=> ?_
 rw [(E0 l).mem_iff,p.mem_iff]
theorem c0U {l:List b9} (h:a2z l):w5 l=l:=a9e h (List.Perm.refl _)
def b2A:List b9→b9→List b9
 | [],r=> [r]
 |x::l,r=>if Bef x.At r.At then x::b2A l r else r::x::l
theorem a5m:∀(l:List b9) (r:b9),(b2A l r).Perm (r::l)
 | [],r=>List.Perm.refl _
 |x::l,r=>by
  unfold b2A;split
  · exact((a5m l r).cons x).trans (List.Perm.swap r x l)
  · exact List.Perm.refl _
theorem c4P (l:List b9) (r:b9):(b2A l r).length=l.length+1:=by simpa using (a5m l r).length_eq
theorem b0Z:∀ {l:List b9} {r:b9},a2z l→(∀x∈l,x.At≠r.At)→a2z (b2A l r)
 | [],r,_,_=>List.pairwise_singleton _ _
 |x::l,r,h,hn=>by
  unfold a2z at h;obtain⟨h1,h2⟩:=a9X.1 h;unfold b2A;split
  · rename_i hb;refine a9X.2 ⟨fun y hy=> ?_,b0Z h2 fun y hy=>hn y (B4 _ hy)⟩;rcases o6.1 ((a5m l r).mem_iff.1 hy)with e|hy
    · rw [e];exact hb
    · exact h1 y hy
  · rename_i hb
    have hx:Bef r.At x.At:=by
     rcases Bef.tri r.At x.At with g|g|g
     · exact g
     · exact absurd g.symm (hn x D7)
     · exact absurd g hb
    refine a9X.2 ⟨fun y hy=> ?_,h⟩;rcases o6.1 hy with e|hy
    · rw [e];exact hx
    · exact hx.trans (h1 y hy)
theorem c4q {l:List b9} {r:b9} (h:a2z l) (hn:∀x∈l,x.At≠r.At):w5 (l++ [r])=b2A l r:=
 a9e (b0Z h hn) ((a5m l r).trans (List.perm_append_comm (l₁:= [r]) (l₂:=l)))
def a8u (l:List b9) (r:b9):Nat:=(l.takeWhile fun x=>decide (Bef x.At r.At)).length
theorem c8n (l:List b9) (r:b9):a8u l r≤l.length:=(List.takeWhile_sublist _).length_le
theorem b4H:∀(l:List b9) (r:b9),b2A l r=l.take (a8u l r)++ [r]++l.drop (a8u l r)
 | [],r=>rfl
 |x::l,r=>by
  unfold b2A a8u;by_cases hb:Bef x.At r.At
  · rw [j2 hb,List.takeWhile_cons_of_pos (by simpa using hb),b4H l r]
    simp [a8u]
  · rw [j0 hb,List.takeWhile_cons_of_neg (by simpa using hb)]
    simp
theorem c2i (r:b9):∀(l:List b9) (s:Nat),(match P5 (fun(s:Nat) (x:b9)=>if Bef x.At r.At then .inl (s+1)else(.inr s:Sum Nat Nat)) l s with| .inl s'=>(s':Int)| .inr s'=>(s':Int))=((s+a8u l r:Nat):Int)
 | [],s=>by simp [P5,a8u]
 |x::l,s=>by
  unfold P5 a8u;by_cases hb:Bef x.At r.At
  · rw [j2 hb,List.takeWhile_cons_of_pos (by simpa using hb)]
    dsimp only;rw [c2i r l (s+1),P3];unfold a8u;congr 1;omega
  · rw [j0 hb,List.takeWhile_cons_of_neg (by simpa using hb)]
    simp
theorem c6j (l:List b9) (r:b9) (hl:l.length≤1000000):a8g l r=some (b2A l r):=by
 unfold a8g
 have key:=a1l (body:=W7 l r) l (by omega) (fun k (_:Nat)=>(k:Int)) (fun(s:Nat) (x:b9)=>if Bef x.At r.At then .inl (s+1)else(.inr s:Sum Nat Nat)) (fun s=>(s:Int)) (fun s=>(s:Int)) (fun pre s=>s=pre.length)
  (fun pre x post s hp hs=>by
   subst hp hs;unfold W7;rw [j2 (by simp only [A6];exact a8X),a3F,j3,b9Q,j3,W_s (by simp at hl;omega)];by_cases hb:Bef x.At r.At
   · rw [j2 (by simp [hb]),j2 hb];exact⟨rfl,fun s' hs'=>by cases hs';simp⟩
   · rw [j0 (by simp [hb]),j0 hb];exact⟨rfl,fun s' hs'=>by cases hs'⟩)
  (fun s hs=>by subst hs;unfold W7;rw [j0 (by simp)]) 0 rfl
 have key2:r6 (W7 l r) 0=_:=key
 have key3:r6 (W7 l r) 0=some ((a8u l r:Nat):Int):=by
  rw [key2];have:=c2i r l 0;rw [a0h]at this;generalize P5 (fun(s:Nat) (x:b9)=>if Bef x.At r.At then .inl (s+1)else(.inr s:Sum Nat Nat)) l 0=q at this⊢
  cases q<;>exact m9 some this
 rw [key3,j3];have hp:=c8n l r;rw [q9 (by omega),j3,q9 (by omega),j3,b4H];have e1:sub l 0 ((a8u l r:Nat):Int).toNat=l.take (a8u l r):=by unfold sub;simp
 have e2:sub l ((a8u l r:Nat):Int).toNat l.length=l.drop (a8u l r):=by unfold sub;rw [a1M,a3n (by simp)]
 rw [e1,e2];have l1:(l.take (a8u l r)).length≤1000000:=by simp;omega
 have l2:(l.drop (a8u l r)).length≤1000000:=by simp;omega
 rw [q9 (by simp only [a1r];omega),q9 (by simp only [a1u,P3,a1r];omega),q9 (by simp only [a1u,I9,P3,a1r];omega),a1u]
theorem Written.once {l:List b9} (h:Written l):a0I l:=by
 unfold a0I;rw [b3G];intro i j hi hj hij he;have a:=(h i _ (G7 hi)).2.2;have b:=(h j _ (G7 hj)).2.2;have hd:l[i].At.Depot=l[j].At.Depot:=by rw [he]
 have hn:l[i].At.No=l[j].At.No:=by rw [he]
 have e:cnt (l.take (i+1)) l[i].At.Depot=cnt (l.take i) l[i].At.Depot+1:=by
  rw [a6T hi,a1H,j2 rfl]
 have m:cnt (l.take (i+1)) l[i].At.Depot≤cnt (l.take j) l[i].At.Depot:=by
  have:l.take (i+1)=(l.take j).take (i+1):=by rw [a7g,a0z (by omega)]
  rw [this];exact(List.take_sublist _ _).countP_le
 rw [←hd,←hn]at b;omega
theorem c0v (x y:Int):R6 x y=some (if x<y then-1 else if x>y then 1 else 0):=by
 unfold R6 a0W;simp only [bne_self_eq_false,j3,J4,F7,A6];by_cases h:x<y
 · simp [h]
 · by_cases h2:x>y<;>simp [h,h2]
theorem d1I (a b:Int):a3w [a,b]=some (if a≠0 then a else b):=by
 unfold a3w
 have key:=a1l (body:=Y1 [a,b]) [a,b] (by simp) (fun k (_:Unit)=>(k:Int)) (fun _ (x:Int)=>if x≠0 then(.inr x:Sum Unit Int)else .inl ()) (fun x=> .inr x) (fun _=> .inl 2) (fun _ _=>True)
  (fun pre x post s hp _=>by
   have hlen:pre.length≤1:=by
    have:=m9 List.length hp;simp at this;omega
   rw [hp];unfold Y1;rw [j2 (by simp only [A6];exact a8X),a3F,j3,W_s (by omega)];by_cases h:x=0
   · simp [h]
   · simp [h])
  (fun s _=>rfl) () trivial
 have key2:r6 (Y1 [a,b]) 0=_:=key;rw [key2];by_cases ha:a=0
 · by_cases hb:b=0
   · simp [P5,ha,hb]
   · simp [P5,ha,hb]
 · simp [P5,ha]
theorem b8R (r:b9) (t:p0):Z9 r t=some (if Bef r.At t then-1 else if r.At=t then 0 else 1):=by
 unfold Z9 a3g;simp only [c0v,j3,d1I];obtain⟨⟨d,n⟩,_⟩:=r;obtain⟨e,m⟩:=t;unfold Bef;simp only [p0.mk.injEq,U3];rcases Int.lt_trichotomy d e with h1|h1|h1
 · simp [h1]
 · subst h1;rcases Int.lt_trichotomy n m with h2|h2|h2
   · simp [h2]
   · simp [h2]
   · have a:¬n<m:=by omega
     have b:¬n=m:=by omega
     simp [h2,a,b]
 · have a:¬d<e:=by omega
   have b:¬d=e:=by omega
   simp [h1,a,b]
theorem c9m {z:Int} (h:0≤z∧z≤18446744073709551615):IntKind.u64.wrap z=z:=by
 simp only [IntKind.wrap,IntKind.signed,IntKind.bits];simp;omega
theorem d2I (i j:Nat) (h:i+j≤9223372036854775807):W ((IntKind.u64.wrap (W ((i:Int)+(j:Int)))).fdiv (2^(min (1:Int).toNat IntKind.u64.bits)))=(((i+j) / 2:Nat):Int):=by
 have e:(2:Int)^(min (1:Int).toNat IntKind.u64.bits)=2:=by decide
 rw [e,a5r (z:=(i:Int)+j) (by omega),c9m (by omega),Int.fdiv_eq_ediv_of_nonneg _ (by omega)];have e2:((i:Int)+j) / 2=(((i+j) / 2:Nat):Int):=by simp
 rw [e2,a5r (by omega)]
theorem c7k (l:List b9) (hl:l.length≤4611686018427387903) (hs:a2z l) (t:p0):∃i:Nat,W8 ⟨l⟩ t=some ((i:Int),decide (∃v,l[i]?=some v∧v.At=t))∧(∀v,v∈l→v.At=t→l[i]?=some v):=by
 unfold W8 n8;have hlt2:∀(i j:Nat) (hi:i<l.length) (hj:j<l.length),i<j→Bef l[i].At l[j].At:=fun i j hi hj hij=>b3G.1 hs i j hi hj hij
 have hmono:∀(i j:Nat) (hi:i<l.length) (hj:j<l.length),i≤j→Bef l[j].At t→Bef l[i].At t:=by
  intro i j hi hj hij hb;rcases Nat.lt_or_eq_of_le hij with h|h
  · exact(hlt2 i j hi hj h).trans hb
  · subst h;exact hb
 obtain⟨e,h1,i,h2,h3,h4,h5⟩:=a0w (body:=l4 l t) (fun st:Int×Int=>∃i j:Nat,st=((i:Int),(j:Int))∧i≤j∧j≤l.length∧(∀k (hk:k<l.length),k<i→Bef l[k].At t)∧(∀k (hk:k<l.length),j≤k→¬Bef l[k].At t))
  (fun st=>(st.2-st.1).toNat) (fun st=>∃i:Nat,st=((i:Int),(i:Int))∧i≤l.length∧(∀k (hk:k<l.length),k<i→Bef l[k].At t)∧(∀k (hk:k<l.length),i≤k→¬Bef l[k].At t)) (by
  rintro⟨_,_⟩ ⟨i,j,he,hij,hj,ha,hb⟩;cases he;unfold l4;by_cases hlt:i<j
  · right;have c:(i:Int)<(j:Int):=by omega
    have hm:(i+j) / 2<l.length:=by omega
    simp only [c,V5,C7,d2I i j (by omega),Y0 hm,j3,b8R];by_cases hc:Bef l[(i+j) / 2].At t
    · refine⟨((((i+j) / 2+1:Nat):Int),(j:Int)), ?_,⟨(i+j) / 2+1,j,rfl,by omega,hj,fun k hk hki=> ?_,hb⟩,by simp only;omega⟩
      · simp only [hc,C7,show decide ((-1:Int)<0)=true from rfl];rw [a5r (z:=(((i+j) / 2:Nat):Int)+1) (by omega)];rfl
      · exact hmono k ((i+j) / 2) hk hm (by omega) hc
    · refine⟨((i:Int),(((i+j) / 2:Nat):Int)), ?_,⟨i,(i+j) / 2,rfl,by omega,by omega,ha,fun k hk hki=> ?_⟩,by simp only;omega⟩
      · have:decide ((if l[(i+j) / 2].At=t then(0:Int)else 1)<0)=false:=by split<;>rfl
        simp only [hc,F7,this,J4]
      · exact fun h=>hc (hmono ((i+j) / 2) k hm hk hki h)
  · left;have c:¬(i:Int)<(j:Int):=by omega
    obtain rfl:i=j:=by omega
    exact⟨_,by simp only [c,a0O,J4,F7],i,rfl,hj,ha,hb⟩) (0,(l.length:Int)) ⟨0,l.length,rfl,by omega,by omega,by omega,by omega⟩ (by unfold a2n;simp only;omega)
 subst h2;rw [h1];refine⟨i, ?_,fun v hv he=> ?_⟩
 · by_cases hi:i<l.length
   · have c:(i:Int)<(l.length:Int):=by omega
     have hge:=h5 i hi (u3 _);simp only [j3,c,V5,C7,Y0 hi,b8R,hge,F7,G7 hi,U3,exists_eq_left'];by_cases he:l[i].At=t<;>simp [he]
   · have c:¬(i:Int)<(l.length:Int):=by omega
     simp only [j3,c,a0O,J4,F7];rw [a9R (by omega)];simp
 · obtain⟨k,hk,rfl⟩:=b1C hv;rcases Nat.lt_trichotomy k i with g|g|g
   · have:=h4 k hk g;rw [he]at this;exact absurd this (Bef.irr _)
   · subst g;exact G7 hk
   · have hi:i<l.length:=by omega
     have:=hlt2 i k hi hk g;rw [he]at this;exact absurd this (h5 i hi (u3 _))
def fnd (l:List b9) (t:p0):Option b9:=l.find? fun v=>decide (v.At=t)
theorem a0K {l:List b9} {t:p0} {v:b9} (h:fnd l t=some v):v∈l∧v.At=t:=
 ⟨List.mem_of_find?_eq_some h,by simpa using List.find?_some h⟩
theorem a5T {l:List b9} {t:p0} (h:fnd l t=none):∀v∈l,v.At≠t:=fun v hv=>by
 have:=List.find?_eq_none.1 h v hv;simpa using this
theorem b9L (l:List b9) (hl:l.length≤1000000) (hs:a2z l) (t:p0):∃i:Int,W8 ⟨l⟩ t=some (i,(fnd l t).isSome)∧∀v,fnd l t=some v→idx l i=some v:=by
 obtain⟨i,h1,h2⟩:=c7k l (by omega) hs t;refine⟨(i:Int), ?_,fun v hv=> ?_⟩
 · rw [h1];congr 2;cases hf:fnd l t with
   |none=>
    have hn:=a5T hf;simp only [Option.isSome_none,b3f];rintro⟨v,hv,he⟩;exact hn v (a5D hv) he
   |some v=>
    obtain⟨g1,g2⟩:=a0K hf;simp only [Option.isSome_some,A6];exact⟨v,h2 v g1 g2,g2⟩
 · obtain⟨g1,g2⟩:=a0K hv;have h3:=h2 v g1 g2;obtain⟨hi,he⟩:=L6.1 h3;rw [Y0 hi,he]
theorem b9o (t:p0):∀(l:List b9) (s:Nat),(match P5 (fun(s:Nat) (x:b9)=>if x.At=t then(.inr s:Sum Nat Nat)else .inl (s+1)) l s with| .inl _=>fnd l t=none| .inr k=>∃v,fnd l t=some v∧s≤k∧l[k-s]?=some v)
 | [],s=>rfl
 |x::l,s=>by
  unfold P5;by_cases h:x.At=t
  · rw [j2 h];exact⟨x,by simp [fnd,h],u3 _,by simp⟩
  · rw [j0 h];have ih:=b9o t l (s+1);have e:fnd (x::l) t=fnd l t:=by simp [fnd,h]
    rw [e];dsimp only;generalize P5 (fun(s:Nat) (x:b9)=>if x.At=t then(.inr s:Sum Nat Nat)else .inl (s+1)) l (s+1)=q at ih⊢
    cases q with
    |inl _=>exact ih
    |inr k=>
     obtain⟨v,a,b,c⟩:=ih;refine⟨v,a,by omega, ?_⟩;have:k-s=(k-(s+1))+1:=by omega
     rw [this,List.getElem?_cons_succ];exact c
theorem c3L (l:List b9) (hl:l.length≤1000000) (t:p0):∃z:Int,a6u l t=some z∧(fnd l t=none→z= -1)∧∀v,fnd l t=some v→0≤z∧idx l z=some v:=by
 unfold a6u
 have key:=a1l (body:=Y6 l t) l (by omega) (fun k (_:Nat)=>(k:Int)) (fun(s:Nat) (x:b9)=>if x.At=t then(.inr s:Sum Nat Nat)else .inl (s+1)) (fun s=> .inr (s:Int)) (fun s=> .inl (s:Int)) (fun pre s=>s=pre.length)
  (fun pre x post s hp hs=>by
   subst hp hs;unfold Y6;rw [j2 (by simp only [A6];exact a8X),a3F,j3,c6e,W_s (by simp at hl;omega)];by_cases hb:x.At=t
   · rw [j2 (by simp [hb]),j2 hb];exact⟨rfl,fun s' hs'=>by cases hs'⟩
   · rw [j0 (by simp [hb]),j0 hb];exact⟨rfl,fun s' hs'=>by cases hs';simp⟩)
  (fun s hs=>by subst hs;unfold Y6;rw [j0 (by simp)]) 0 rfl
 have key2:r6 (Y6 l t) 0=_:=key;rw [key2,j3];have hr:=b9o t l 0;generalize P5 (fun(s:Nat) (x:b9)=>if x.At=t then(.inr s:Sum Nat Nat)else .inl (s+1)) l 0=q at hr⊢
 cases q with
 |inl _=>exact⟨-1,rfl,fun _=>rfl,fun v hv=>by rw [hr]at hv;cases hv⟩
 |inr k=>
  obtain⟨v,a,_,c⟩:=hr;refine⟨(k:Int),rfl,(fun h=>by rw [a]at h;cases h),fun v' hv'=> ?_⟩;rw [a]at hv';cases hv';rw [a4K]at c;obtain⟨hi,he⟩:=L6.1 c;exact⟨by omega,by rw [Y0 hi,he]⟩
def b0y (a:List b9) (s:List b9) (x:b9):Sum (List b9) Unit:=match fnd a x.At with|some v=>if v=x then .inl s else .inr ()|none=> .inl (s++ [x])
def c6m (a:List b9) (s:List b9) (x:b9):Sum (List b9) Unit:=match fnd a x.At with|some v=>if v=x then .inl s else .inr ()|none=> .inl (b2A s x)
theorem b4f (a:List b9):∀(post s s':List b9),s'.Perm s→a2z s'→(∀y∈s,y∈a∨∀x∈post,y.At≠x.At)→a0I post→
 (∃t t',P5 (b0y a) post s= .inl t∧P5 (c6m a) post s'= .inl t'∧t'.Perm t∧a2z t')∨(P5 (b0y a) post s= .inr ()∧P5 (c6m a) post s'= .inr ())
 | [],s,s',hp,hr,_,_=> .inl ⟨s,s',rfl,rfl,hp,hr⟩
 |x::post,s,s',hp,hr,hm,ho=>by
  unfold a0I at ho;obtain⟨o1,o2⟩:=a9X.1 ho;have hm':∀y∈s,y∈a∨∀x∈post,y.At≠x.At:=fun y hy=>(hm y hy).imp id fun h z hz=>h z (B4 _ hz)
  unfold P5;have ed:b0y a s x=match fnd a x.At with|some v=>if v=x then .inl s else .inr ()|none=> .inl (s++ [x]):=rfl
  have er:c6m a s' x=match fnd a x.At with|some v=>if v=x then .inl s' else .inr ()|none=> .inl (b2A s' x):=rfl
  rw [ed,er];cases hf:fnd a x.At with
  |some v=>
   dsimp only;by_cases hv:v=x
   · rw [j2 hv,j2 hv];exact b4f a post s s' hp hr hm' o2
   · rw [j0 hv,j0 hv];exact .inr ⟨rfl,rfl⟩
  |none=>
   dsimp only;have hn:=a5T hf
   have hx:∀y∈s',y.At≠x.At:=fun y hy=>by
    rcases hm y (hp.mem_iff.1 hy)with h|h
    · exact hn y h
    · exact h x D7
   refine b4f a post _ _ ?_ (b0Z hr hx) ?_ o2
   · exact(a5m s' x).trans ((hp.cons x).trans (List.perm_append_comm (l₁:= [x]) (l₂:=s)))
   · intro y hy;rcases u4.1 hy with hy|hy
     · exact hm' y hy
     · obtain rfl:=V0.1 hy;exact .inr fun z hz=>o1 z hz
theorem c0i (a b:List b9) (ha:a.length≤60) (hb:b.length≤60) (hr:a2z a):r6 (M3 ⟨a⟩ ⟨b⟩) (0,a)=some (match P5 (b0y a) b a with| .inl s=> .inl ((b.length:Int),s)| .inr _=> .inr (⟨[]⟩,82)):=by
 have key:=a1l (body:=M3 ⟨a⟩ ⟨b⟩) b (by omega) (fun k (s:List b9)=>((k:Int),s)) (b0y a) (fun _=> .inr (⟨[]⟩,82)) (fun s=> .inl ((b.length:Int),s)) (fun pre s=>s.length≤60+pre.length)
  (fun pre x post s hp hs=>by
   subst hp;obtain⟨i,h1,h2⟩:=b9L a (by omega) hr x.At;unfold M3 b0y;dsimp only;rw [j2 (by simp only [A6];exact a8X),a3F,j3,h1,j3,W_s (by simp at hb;omega)];dsimp only;cases hf:fnd a x.At with
   |some v=>
    rw [j2 (show(some v).isSome=true from rfl),h2 v hf,j3,a9U];dsimp only;by_cases hv:v=x
    · rw [j0 (by simp [hv]),j0 (by simp),j2 hv];exact⟨rfl,fun s' hs'=>by cases hs';simp;omega⟩
    · rw [j2 (by simp [hv]),j0 hv];exact⟨rfl,fun s' hs'=>by cases hs'⟩
   |none=>
    have hx:s.length≤1000:=by simp at hb;omega
    rw [j0 (by simp),j2 (show(!(none:Option b9).isSome)=true from rfl),q9 (by simp only [P3,a1r];omega)];exact⟨rfl,fun s' hs'=>by cases hs';simp;omega⟩)
  (fun s hs=>by unfold M3;dsimp only;rw [j0 (by simp)]) a (by simp;omega)
 have k2:r6 (M3 ⟨a⟩ ⟨b⟩) (0,a)=_:=key;rw [k2];generalize P5 (b0y a) b a=q;cases q<;>rfl
def a0L (l:List b9) (r:b9):Bool×Int:=
 match fnd l r.At with
 |some v=>if v=r then(false,0)else(false,82)
 |none=>if((cnt l r.At.Depot:Nat):Int)<r.At.No then(false,83)else if l.length=60 then(false,2)else(true,0)
theorem c2W (l:List b9) (r:b9) (hl:l.length≤1000000) (hd:∀r∈l,y8 r.At.Depot) (hs:r.Text.size≤9223372036854775807):a6g l r=some (if w7 r then a0L l r else(false,80)):=by
 unfold a6g a0L;rw [a7c _ hs,j3];by_cases hr:w7 r
 · obtain⟨z,h1,h2,h3⟩:=c3L l hl r.At;rw [j0 (by simp [hr]),j2 hr,h1,j3];cases hf:fnd l r.At with
   |some v=>
    obtain⟨g1,g2⟩:=h3 v hf;rw [j2 (by simpa using g1),g2,j3,a9U]
    dsimp only;by_cases hv:v=r
    · rw [j2 (by simp [hv]),j2 hv]
    · rw [j0 (by simp [hv]),j0 hv]
   |none=>
    have hz:=h2 hf;subst hz;have hc:=a6o l (a2O hr);rw [a8r]at hc;rw [j0 (by decide),c2k l hl hd,j3,hc,j3];dsimp only;by_cases h4:((cnt l r.At.Depot:Nat):Int)<r.At.No
    · rw [j2 (by simpa using h4),j2 h4]
    · rw [j0 (by simpa using h4),j0 h4]
      by_cases h5:l.length=60
      · rw [j2 (by simp [h5]),j2 h5]
      · rw [j0 (by simp only [K4];omega),j0 h5]
 · rw [j2 (by simp [hr]),j0 hr]
theorem c5I (b:y0) (r:b9) (hb:b.Records.length≤9223372036854775800) (hs:∀r∈b.Records,r.Text.size≤9223372036854775807) (hr:r.Text.size≤9223372036854775807):
 ∃x,a0d b r=some x∧a7X b r=some x∧x.1.Records.length≤61:=by
 obtain⟨l⟩:=b;dsimp only at hb hs;unfold a0d a7X;rw [isBook_eq _ hb hs,Check_eq _ hs,R0 _ hr];simp only [j3];by_cases h:a6x l
 · have hl:=h.1;have hd:∀r∈l,y8 r.At.Depot:=fun r hr=>h.2.dep hr
   rw [c2W l r (by omega) hd hr];simp only [h,V5,a1x,J4,C7,F7,bne_self_eq_false,j3];by_cases hk:w7 r
   · simp only [hk,V5,a1x,J4,C7,F7];obtain⟨i,h1,h2⟩:=b9L l (by omega) h.2.rise r.At;rw [h1,j3];dsimp only;cases hf:fnd l r.At with
     |some v=>
      rw [j2 (show(some v).isSome=true from rfl),h2 v hf,j3,a9U]
      skip
      by_cases hv:v=r
      · have ha:a0L l r=(false,0):=by unfold a0L;rw [hf];exact j2 hv
        rw [j2 (by simp [hv]),ha];unfold u5;rw [q9 (by omega),j3,c0U h.2.rise];refine⟨_,rfl, ?_,by dsimp only;omega⟩;dsimp only;rw [j0 (by decide),j2 (show(!false)=true from rfl),q9 (by simp only [a1r];omega)];rfl
      · have ha:a0L l r=(false,82):=by unfold a0L;rw [hf];exact j0 hv
        rw [j0 (by simp [hv]),ha];exact⟨_,rfl,rfl,by simp⟩
     |none=>
      have hn:=a5T hf;have hc:=a6o l (a2O hk);rw [a8r]at hc;rw [j0 (by simp),a6w l (by omega) hd,j3,hc,j3]
      skip
      by_cases h4:((cnt l r.At.Depot:Nat):Int)<r.At.No
      · have ha:a0L l r=(false,83):=by unfold a0L;rw [hf];exact j2 h4
        rw [j2 (by simpa using h4),ha]
        exact⟨_,rfl,rfl,by simp⟩
      · rw [j0 (by simpa using h4)]
        by_cases h5:l.length=60
        · have ha:a0L l r=(false,2):=by unfold a0L;rw [hf];dsimp only;rw [j0 h4,j2 h5]
          rw [j2 (by simp [h5]),ha];exact⟨_,rfl,rfl,by simp⟩
        · have ha:a0L l r=(true,0):=by unfold a0L;rw [hf];dsimp only;rw [j0 h4,j0 h5]
          rw [j0 (by simp only [K4];omega),ha];unfold j1 u5;rw [q9 (by omega),j3,q9 (by simp only [P3,a1r];omega),q9 (by simp only [I9,P3,a1r];omega),j3,c4q h.2.rise hn];refine⟨_,rfl, ?_,by dsimp only;rw [c4P];omega⟩;dsimp only;rw [j0 (by decide),j0 (by decide),c6j l r (by omega)];rfl
   · simp only [hk,a0O,a5C,C7,F7,show((80:Int) !=0)=true from rfl];exact⟨_,rfl,rfl,by simp⟩
 · simp only [h,a0O,a5C,C7,F7,show((81:Int) !=0)=true from rfl];exact⟨_,rfl,rfl,by simp⟩
abbrev N5:=Int×Int×Int×Int×Int
def I64 (x:Int):Prop:= -9223372036854775808≤x∧x≤9223372036854775807
def d2o (n:N5):Prop:=I64 n.1∧I64 n.2.1∧I64 n.2.2.1∧I64 n.2.2.2.1∧I64 n.2.2.2.2
theorem c4V (n:Int) (h:I64 n):∃t,a4F n=some t∧a3K t:=by
 unfold a4F;rw [a4o n 6 h (by omega),j3];have hc:n % 6=0∨n % 6=1∨n % 6=2∨n % 6=3∨n % 6=4∨n % 6=5:=by omega
 rcases hc with e|e|e|e|e|e<;>rw [e]<;>exact⟨_,rfl,by decide+kernel⟩
def low (l:List b9) (d n:Int):Nat:=l.countP fun r=>r.At.Depot==d&&decide (r.At.No<n)
theorem c5H (l:List b9) (r:b9) (d n:Int):low (l++ [r]) d n=low l d n+if r.At.Depot=d∧r.At.No<n then 1 else 0:=by
 unfold low;rw [b0Q,List.countP_singleton];congr 1;by_cases a:r.At.Depot=d<;>by_cases b:r.At.No<n<;>simp [a,b]
theorem Written.pre {l:List b9} {r:b9} (h:Written (l++ [r])):Written l∧w7 r∧U7 l r:=by
 refine⟨fun i x hx=> ?_, ?_⟩
 · obtain⟨hi,rfl⟩:=L6.1 hx;have:=h i l[i] (by rw [b1B hi,hx]);rwa [b0s (a5y hi)]at this
 · have:=h l.length r (by simp);simpa using this
theorem Written.low:∀(k:Nat) {l:List b9},l.length=k→Written l→(∀r∈l,r.At.No<((cnt l r.At.Depot:Nat):Int))∧∀(d:Int) (n:Nat),n≤cnt l d→low l d n=n
 |0,l,hk,_=>by
  obtain rfl:=List.length_eq_zero_iff.1 hk;exact⟨by simp,fun d n hn=>by rw [c2O]at hn;unfold Proofs.YtggdlgclohnbaaaGreatDoor.low;simp;omega⟩
 |k+1,l,hk,h=>by
  rcases List.eq_nil_or_concat l with rfl|⟨L,b,rfl⟩
  · simp at hk
  · rw [List.concat_eq_append]at h hk⊢;obtain⟨h1,h2,h3,h4⟩:=h.pre;obtain⟨f1,f2⟩:=Written.low k (by simpa using hk) h1
    refine⟨fun r hr=> ?_,fun d n hn=> ?_⟩
    · rw [a1H];rcases u4.1 hr with hr|hr
      · have:=f1 r hr;split<;>omega
      · obtain rfl:=V0.1 hr;rw [j2 rfl];omega
    · rw [a1H]at hn;rw [c5H];by_cases a:b.At.Depot=d
      · rw [j2 a]at hn;rw [a]at h4;rcases a3Y (cnt L d) n with g|g
        · obtain rfl:n=cnt L d+1:=by omega
          rw [j2 ⟨a,by omega⟩]
          have e:Proofs.YtggdlgclohnbaaaGreatDoor.low L d ((cnt L d+1:Nat):Int)=Proofs.YtggdlgclohnbaaaGreatDoor.low L d ((cnt L d:Nat):Int):=by
           unfold Proofs.YtggdlgclohnbaaaGreatDoor.low;apply List.countP_congr;intro x hx;have:=f1 x hx;simp only [A7,K4,A6];constructor
           · rintro⟨a1,_⟩;rw [a1]at this;exact⟨a1,this⟩
           · rintro⟨a1,a2⟩;exact⟨a1,by omega⟩
          rw [e,f2 d _ (u3 _)]
        · rw [j0 (by omega),f2 d n g,a5i]
      · rw [j0 a]at hn;rw [j0 (fun x=>a x.1),f2 d n (by omega),a5i]
theorem a7n {l:List b9} (h:Written l):a6x (w5 l):=by
 have hp:=E0 l;have hr:=a0Z h.once;obtain⟨f1,f2⟩:=Written.low _ rfl h;refine⟨by rw [hp.length_eq];exact h.len,fun i r hi=> ?_⟩;obtain⟨hlt,rfl⟩:=L6.1 hi;have hm:(w5 l)[i]∈l:=hp.mem_iff.1 (a2k hlt);refine⟨h.rec hm,fun y hy=> ?_, ?_⟩
 · have hj:0<i:=by
    rcases Nat.eq_zero_or_pos i with e|e
    · subst e;simp at hy
    · exact e
   rw [List.getLast?_eq_getElem?,V2,a0z (by omega),a4v,j2 (by omega)]at hy;obtain⟨_,rfl⟩:=L6.1 hy;exact b3G.1 hr (i-1) i (by omega) hlt (by omega)
 · have hno:0≤(w5 l)[i].At.No:=(h.rec hm).1.2.1;have hl:=f1 _ hm;obtain⟨k,hk⟩:∃k:Nat,(w5 l)[i].At.No=(k:Int):=⟨(w5 l)[i].At.No.toNat,by omega⟩;have hlow:=f2 (w5 l)[i].At.Depot k (by omega);have e1:low (w5 l) (w5 l)[i].At.Depot k=low l (w5 l)[i].At.Depot k:=hp.countP_eq _
   have e2:low (w5 l) (w5 l)[i].At.Depot k=cnt ((w5 l).take i) (w5 l)[i].At.Depot:=by
    unfold low cnt
    have key:∀p:b9→Bool,(w5 l).countP p=((w5 l).take i).countP p+((w5 l).drop i).countP p:=fun p=>by
     rw [←b0Q,a8C]
    rw [key]
    have z:((w5 l).drop i).countP (fun r=>r.At.Depot==(w5 l)[i].At.Depot&&decide (r.At.No<(k:Int)))=0:=by
     rw [List.countP_eq_zero];intro x hx;obtain⟨j,hj,rfl⟩:=List.mem_drop_iff_getElem.1 hx;simp only [A7,K4,A6];rintro⟨a1,a2⟩;rcases Nat.eq_zero_or_pos j with e|e
     · subst e;simp only [a5i]at a2;omega
     · have:=b3G.1 hr i (i+j) hlt (by omega) (by omega);unfold Bef at this;omega
    rw [z,a5i];apply List.countP_congr;intro x hx;obtain⟨j,hj,rfl⟩:=List.mem_take_iff_getElem.1 hx;have:=b3G.1 hr j i (by omega) hlt (by omega);unfold Bef at this;simp only [A7,K4,A6];constructor
    · exact fun a=>a.1
    · exact fun a=>⟨a,by omega⟩
   rw [←e2,e1,hlow,hk]
theorem b6Z (a:List b9):∀(post s:List b9),(∀x∈post,∀v,fnd a x.At=some v→v=x)→(∀y∈a,y∈s)→∃t,P5 (b0y a) post s= .inl t∧∀r,r∈t↔r∈s∨r∈post
 | [],s,_,_=>⟨s,rfl,by simp⟩
 |x::post,s,h,hs=>by
  have h':∀y∈post,∀v,fnd a y.At=some v→v=y:=fun y hy=>h y (B4 _ hy)
  have ed:b0y a s x=match fnd a x.At with|some v=>if v=x then .inl s else .inr ()|none=> .inl (s++ [x]):=rfl
  unfold P5;rw [ed];cases hf:fnd a x.At with
  |some v=>
   have hv:=h x D7 v hf;subst hv;dsimp only;rw [j2 rfl];obtain⟨t,e1,e2⟩:=b6Z a post s h' hs;refine⟨t,e1,fun r=> ?_⟩;rw [e2,o6];have:v∈s:=hs v (a0K hf).1;constructor
   · rintro(g|g)
     · exact .inl g
     · exact .inr (.inr g)
   · rintro(g|g|g)
     · exact .inl g
     · subst g;exact .inl this
     · exact .inr g
  |none=>
   obtain⟨t,e1,e2⟩:=b6Z a post (s++ [x]) h' fun y hy=>a1q _ (hs y hy)
   refine⟨t,e1,fun r=> ?_⟩;rw [e2,u4,V0,o6,or_assoc]
theorem b2P {G:List b9} (h:a0I G) {x y:b9} (hx:x∈G) (hy:y∈G) (e:x.At=y.At):x=y:=by
 obtain⟨i,hi,rfl⟩:=b1C hx;obtain⟨j,hj,rfl⟩:=b1C hy;have hp:=b3G.1 h;rcases Nat.lt_trichotomy i j with g|g|g
 · exact absurd e (hp i j hi hj g)
 · subst g;rfl
 · exact absurd e.symm (hp j i hj hi g)
theorem c4Y (a b G c:List b9) (ha:a6x a) (hb:a6x b) (hG:a0I G) (ga:∀r∈a,r∈G) (gb:∀r∈b,r∈G) (hc:a2z c) (hm:∀r,r∈c↔r∈a∨r∈b) (h60:c.length≤60) (hsa:∀r∈a,r.Text.size≤9223372036854775807) (hsb:∀r∈b,r.Text.size≤9223372036854775807):
 a3D ⟨a⟩ ⟨b⟩=some (⟨c⟩,0):=by
 have la:=ha.1;have lb:=hb.1;unfold a3D;rw [isBook_eq ⟨a⟩ (by dsimp only;omega) hsa,isBook_eq ⟨b⟩ (by dsimp only;omega) hsb];simp only [j3,ha,hb,V5,a1x,J4,F7];unfold j1;rw [q9 (by omega),j3,c0i a b la lb ha.2.rise,j3]
 obtain⟨t0,r1,r2⟩:=b6Z a b a (fun x hx v hv=>by
  obtain⟨g1,g2⟩:=a0K hv;exact b2P hG (ga v g1) (gb x hx) g2) (fun y hy=>hy)
 rcases b4f a b a a (List.Perm.refl _) ha.2.rise (fun y hy=> .inl hy) hb.2.rise.once with⟨t,t',e1,e2,e3,e4⟩|⟨e1,e2⟩
 · rw [r1]at e1;cases e1;have hct:c=t':=a8c hc e4 fun r=>by rw [hm,e3.mem_iff,r2]
   subst hct;have:=e3.length_eq;rw [r1];dsimp only;rw [j0 (by simp only [A6];omega)];unfold u5;rw [q9 (by omega),j3,a9e e4 e3]
 · rw [r1]at e1;cases e1
theorem a0b (n:Int) (h0:0≤n) (h1:n≤100000):(W5 n).size≤6:=by
 obtain⟨u,rfl⟩:∃u:Nat,n=(u:Int):=⟨n.toNat,by omega⟩;unfold W5;rw [Y8,Lib.itoa_nonneg];exact c7p (by omega) (by omega)
theorem b0Y {r:b9} (h:w7 r):1≤(E4 r).size∧(E4 r).size≤216:=by
 have hn:=b0h h;simp only [a2e,o6,a7l,or_false,forall_eq_or_imp,forall_eq]at hn;obtain⟨n1,n2,n3,n4,n5,n6,n7⟩:=hn;have s1:=a0b r.At.Depot n1.1 n1.2;have s2:=a0b r.At.No n2.1 n2.2;have s3:=a0b r.Kind n3.1 n3.2;have s4:=a0b r.Day n4.1 n4.2;have s5:=a0b r.Known n5.1 n5.2;have s6:=a0b r.Of.Depot n6.1 n6.2;have s7:=a0b r.Of.No n7.1 n7.2;have hs:(⟨#[32]⟩:ByteArray).size=1:=rfl;have ht:=S4 h;rw [c2U];generalize W5 r.At.Depot=x1 at s1⊢;generalize W5 r.At.No=x2 at s2⊢;generalize W5 r.Kind=x3 at s3⊢;generalize W5 r.Day=x4 at s4⊢;generalize W5 r.Known=x5 at s5⊢;generalize W5 r.Of.Depot=x6 at s6⊢;generalize W5 r.Of.No=x7 at s7⊢;generalize r.Text=x8 at ht⊢;generalize (⟨#[32]⟩:ByteArray)=sp at hs⊢;simp only [ByteArray.size_append,hs];omega
theorem c0y (s:ByteArray) (i:Nat):(a5h s i).size=min s.size (24*(i+1))-24*i:=by
 unfold a5h;rw [ByteArray.size_extract];omega
theorem b3H {r:b9} (h:w7 r) {k i:Nat} (hk:k≤59) (hi:i<B9 (E4 r).size):E9 (a2m (E4 r) (k:Int) i):=by
 obtain⟨h1,h2⟩:=b0Y h;have hp:=c0y (E4 r) i;unfold E9 a2m;dsimp only;unfold B9 at hi⊢;omega
theorem c2D {c:e8}:∀(F:List b9) (k:Nat),c∈ofK (k:Int) F↔∃(j i:Nat) (r:b9),F[j]?=some r∧i<B9 (E4 r).size∧c=a2m (E4 r) ((k+j:Nat):Int) i
 | [],k=>by simp [ofK]
 |x::F,k=>by
  have e:((k:Int)+1)=((k+1:Nat):Int):=rfl;unfold ofK;rw [u4,e,c2D F (k+1)];constructor
  · rintro(h|⟨j,i,r,h1,h2,h3⟩)
    · unfold a2i at h;obtain⟨i,hi,rfl⟩:=J6.1 h;exact⟨0,i,x,rfl,a4H.1 hi,rfl⟩
    · exact⟨j+1,i,r,by simpa using h1,h2,by rw [h3];congr 1;omega⟩
  · rintro⟨j,i,r,h1,h2,h3⟩;cases j with
    |zero=>
     left;simp at h1;subst h1;unfold a2i;exact J6.2 ⟨i,a4H.2 h2,h3.symm⟩
    |succ j=>
     right;exact⟨j,i,r,by simpa using h1,h2,by rw [h3];congr 1;omega⟩
theorem b2I {c:e8} (F:List b9):c∈ofF F↔∃(j i:Nat) (r:b9),F[j]?=some r∧i<B9 (E4 r).size∧c=a2m (E4 r) (j:Int) i:=by
 have:=c2D (c:=c) F 0;unfold ofF;simpa using this
theorem b0u {l:List e8} {F:List b9} (hF:Written F) (hl:∀c∈l,E9 c→c∈ofF F) {j i:Nat} {r:b9} (hj:F[j]?=some r) (hi:i<B9 (E4 r).size) (q:Int) (hq:q=0∨q=((B9 (E4 r).size:Nat):Int)):
 a0G l (j:Int) (i:Int) q=if a2m (E4 r) (j:Int) i∈l then some (a2m (E4 r) (j:Int) i)else none:=by
 have hlen:=hF.len;obtain⟨hjl,hje⟩:=L6.1 hj;have hr:w7 r:=hF.rec (a5D hj)
 have uniq:∀c∈l,E9 c→c.No=(j:Int)→c.Part=(i:Int)→c=a2m (E4 r) (j:Int) i:=by
  intro c hc h0 h1 h2;obtain⟨j',i',r',g1,g2,rfl⟩:=(b2I F).1 (hl c hc h0);have e1:j'=j:=by have:(j':Int)=(j:Int):=h1;omega
  have e2:i'=i:=by have:(i':Int)=(i:Int):=h2;omega
  subst e1 e2;rw [hj]at g1;cases g1;rfl
 unfold a0G;by_cases hm:a2m (E4 r) (j:Int) i∈l
 · rw [j2 hm];cases hf:l.find? (fun c=>decide (E9 c∧c.No=(j:Int)∧c.Part=(i:Int)∧(q=0∨c.Parts=q)))with
   |none=>
    have:=List.find?_eq_none.1 hf _ hm;refine absurd (decide_eq_true ?_) this;exact⟨b3H hr (by omega) hi,rfl,rfl,hq.imp id fun h=>h.symm⟩
   |some c=>
    have h0:=List.find?_some hf;have h1:=b1J h0;rw [uniq c (List.mem_of_find?_eq_some hf) h1.1 h1.2.1 h1.2.2.1]
 · rw [j0 hm,List.find?_eq_none];intro c hc h1;have h1:=b1J h1;have:=uniq c hc h1.1 h1.2.1 h1.2.2.1;rw [this]at hc;exact hm hc
theorem c4E (s:ByteArray) (i:Nat):a5h s i++s.extract (24*(i+1)) s.size=s.extract (24*i) s.size:=by
 unfold a5h;apply a7r;apply I8;have hsz:s.size=s.data.toList.length:=Y8 s;simp only [ByteArray.data_append,b6R,Array.toList_append,b1l,List.extract];generalize s.data.toList=l at hsz⊢;rw [hsz];rcases a3Y (24*(i+1)) l.length with h|h
 · rw [Nat.min_eq_right (by omega)];have e1:l.drop (24*(i+1))=(l.drop (24*i)).drop 24:=by rw [List.drop_drop];rfl
   have e2:24*(i+1)-24*i=24:=by omega
   rw [e2,e1,a3n (l:=(l.drop (24*i)).drop 24) (by simp;omega),a8C,a3n (by simp)]
 · rw [a0z (by omega),b6w h];simp
theorem c8x (s:ByteArray) (a:Nat) (h:s.size≤a):s.extract a s.size=⟨#[]⟩:=by
 apply a7r;apply I8;simp only [b6R,b1l,List.extract];rw [b6w (by rw [←Y8];exact h)];simp
theorem c7C (s:ByteArray):s.extract 0 s.size=s:=by
 apply a7r;apply I8;simp only [b6R,b1l,List.extract];rw [a7k,a3n (by rw [←Y8];omega)]
section
variable {l : List e8} {F : List b9} {j : Nat} {r : b9}
theorem b1U (hF:Written F) (hl:∀c∈l,E9 c→c∈ofF F) (hj:F[j]?=some r):∀(n i:Nat),i+n=B9 (E4 r).size→(∀k,i≤k→k<B9 (E4 r).size→a2m (E4 r) (j:Int) k∈l)→a2L l (j:Int) ((B9 (E4 r).size:Nat):Int) n (i:Int)=some ((E4 r).extract (24*i) (E4 r).size)
 |0,i,hi,_=>by
  rw [c8x _ _ (by unfold B9 at hi;omega)];rfl
 |n+1,i,hi,h=>by
  have e:((i:Int)+1)=((i+1:Nat):Int):=rfl;unfold a2L;rw [b0u hF hl hj (by omega) _ (.inr rfl),j2 (h i (u3 _) (by omega)),e];dsimp only;rw [b1U hF hl hj n (i+1) (by omega) fun k hk hk2=>h k (by omega) hk2];exact m9 some (c4E _ _)
theorem b1z (hF:Written F) (hl:∀c∈l,E9 c→c∈ofF F) (hj:F[j]?=some r):∀(n i:Nat),i+n=B9 (E4 r).size→(∃k,i≤k∧k<B9 (E4 r).size∧a2m (E4 r) (j:Int) k∉l)→a2L l (j:Int) ((B9 (E4 r).size:Nat):Int) n (i:Int)=none
 |0,i,hi,⟨k,h1,h2,_⟩=>by omega
 |n+1,i,hi,⟨k,h1,h2,h3⟩=>by
  have e:((i:Int)+1)=((i+1:Nat):Int):=rfl;unfold a2L;rw [b0u hF hl hj (by omega) _ (.inr rfl),e];by_cases hm:a2m (E4 r) (j:Int) i∈l
  · rw [j2 hm];dsimp only;have:i≠k:=fun h=>h3 (h▸hm)
    rw [b1z hF hl hj n (i+1) (by omega) ⟨k,by omega,h2,h3⟩]
  · rw [j0 hm]
theorem c3c (hF:Written F) (hl:∀c∈l,E9 c→c∈ofF F) (hj:F[j]?=some r) (h:∀k,k<B9 (E4 r).size→a2m (E4 r) (j:Int) k∈l):a5B l (j:Int)=some (E4 r):=by
 have hr:w7 r:=hF.rec (a5D hj);have hp:0<B9 (E4 r).size:=by have:=(b0Y hr).1;unfold B9;omega
 have h0:=b0u hF hl hj hp 0 (.inl rfl);rw [j2 (h 0 hp)]at h0;have h0:a0G l (j:Int) 0 0=_:=h0;unfold a5B;rw [h0];have:=b1U hF hl hj (B9 (E4 r).size) 0 (by omega) fun k _ hk=>h k hk
 rw [Nat.mul_zero,c7C]at this;exact this
theorem c4s (hF:Written F) (hl:∀c∈l,E9 c→c∈ofF F) (hj:F[j]?=some r) (h:∃k,k<B9 (E4 r).size∧a2m (E4 r) (j:Int) k∉l):a5B l (j:Int)=none:=by
 have hr:w7 r:=hF.rec (a5D hj);have hp:0<B9 (E4 r).size:=by have:=(b0Y hr).1;unfold B9;omega
 have h0:=b0u hF hl hj hp 0 (.inl rfl);have h0:a0G l (j:Int) 0 0=_:=h0;unfold a5B;rw [h0];obtain⟨k,h1,h2⟩:=h;have:=b1z hF hl hj (B9 (E4 r).size) 0 (by omega) ⟨k,I2 _,h1,h2⟩;split
 · rfl
 · rename_i c hc;split at hc
   · cases hc;exact this
   · cases hc
theorem c5s (hl:∀c∈l,E9 c→c∈ofF F) (hj:F.length≤j):a5B l (j:Int)=none:=by
 have:a0G l (j:Int) 0 0=none:=by
  unfold a0G;rw [List.find?_eq_none];intro c hc h1;have h1:=b1J h1;obtain⟨j',i',r',g1,g2,rfl⟩:=(b2I F).1 (hl c hc h1.1);have e1:(j':Int)=(j:Int):=h1.2.1;have:=(L6.1 g1).1;omega
 unfold a5B;rw [this]
end
theorem c6F {l:List e8} {F:List b9} (hF:Written F) (hl:∀c∈l,E9 c→c∈ofF F) (m:Nat) (hm:m≤F.length)
 (hall:∀(j:Nat) (r:b9),j<m→F[j]?=some r→∀k,k<B9 (E4 r).size→a2m (E4 r) (j:Int) k∈l)
 (hmiss:∀r,F[m]?=some r→∃k,k<B9 (E4 r).size∧a2m (E4 r) (m:Int) k∉l):a6S l=F.take m:=by
 have hlen:=hF.len
 have key:∀(n k:Nat),k≤m→m-k<n→a5o l n (F.take k)=F.take m:=by
  intro n
  induction n with
  |zero=>intro k _ h;omega
  |succ n ih=>
   intro k hk hn;have hkl:(F.take k).length=k:=by simp;omega
   unfold a5o;rw [hkl];rcases a3Y k m with h|h
   · have hkF:k<F.length:=by omega
     have hj:F[k]?=some F[k]:=G7 hkF;have hw:=hF k _ hj;rw [c3c hF hl hj (hall k _ h hj)];dsimp only;rw [b3e hw.1];dsimp only;rw [j2 hw.2,←a6T hkF];exact ih (k+1) h (by omega)
   · obtain rfl:k=m:=by omega
     cases hj:F[k]? with
     |none=>rw [c5s hl (by have:=List.getElem?_eq_none_iff.1 hj;exact this)]
     |some r=>rw [c4s hF hl hj (hmiss r hj)]
 exact key 61 0 (I2 _) (by omega)
open Classical in theorem have_eq (b : o4) (w : List b9) (hb : (b.Thread.length + b.Loose.length) * 48 ≤ 140737488355328) (hl : w.length ≤ 9223372036854775800) (hs : ∀ r ∈ w, r.Text.size ≤ 9223372036854775807) : W9 b w = some (decide (Written w ∧ b.Thread ++ b.Loose = ofF w)) := by
  unfold W9;rw [areWritten_eq w hl hs, j3];by_cases h : Written w
  · have := h.len;rw [j2 (by simp [h]), b0G b hb, j3, c6c w (fun r hr => h.rec hr) (by omega), j3, b9H _ _ (by rw [I9]; omega), j3];simp [h]
  · rw [j0 (by simp [h])];simp [h]
theorem b6y (r:b9):∀(l:List b9) (s:Nat),(match P5 (fun(s:Nat) (x:b9)=>if r=x then(.inr s:Sum Nat Nat)else .inl (s+1)) l s with| .inl _=>decide (r∈l)=false| .inr _=>decide (r∈l)=true)
 | [],s=>by simp [P5]
 |x::l,s=>by
  unfold P5;by_cases h:r=x
  · rw [j2 h];simp [h]
  · rw [j0 h];have ih:=b6y r l (s+1);dsimp only;generalize P5 (fun(s:Nat) (x:b9)=>if r=x then(.inr s:Sum Nat Nat)else .inl (s+1)) l (s+1)=q at ih⊢
    cases q<;>simpa [h]using ih
theorem b8m (l:List b9) (hl:l.length≤1000000) (r:b9):u1 l r=some (decide (r∈l)):=by
 unfold u1 E6
 have key:=a1l (body:=o5 l r) l (by omega) (fun k (_:Nat)=>(k:Int)) (fun(s:Nat) (x:b9)=>if r=x then(.inr s:Sum Nat Nat)else .inl (s+1)) (fun s=> .inr (s:Int)) (fun s=> .inl (s:Int)) (fun pre s=>s=pre.length)
  (fun pre x post s hp hs=>by
   subst hp hs;unfold o5;rw [j2 (by simp only [A6];exact a8X),a3F,j3,a9U,W_s (by simp at hl;omega)];by_cases hb:r=x
   · rw [j2 (by simp [hb]),j2 hb];exact⟨rfl,fun s' hs'=>by cases hs'⟩
   · rw [j0 (by simp [hb]),j0 hb];exact⟨rfl,fun s' hs'=>by cases hs';simp⟩)
  (fun s hs=>by subst hs;unfold o5;rw [j0 (by simp)]) 0 rfl
 have k2:r6 (o5 l r) 0=_:=key;rw [k2,j3];have hr:=b6y r l 0;generalize P5 (fun(s:Nat) (x:b9)=>if r=x then(.inr s:Sum Nat Nat)else .inl (s+1)) l 0=q at hr⊢
 cases q with
 |inl _=>dsimp only at hr⊢;rw [hr];rfl
 |inr k=>
  dsimp only at hr⊢;rw [hr,j3];simp
theorem Written.take {l:List b9} (h:Written l) (n:Nat):Written (l.take n):=by
 intro i r hi;rw [a4v]at hi;split at hi
 · rename_i hn;have:=h i r hi;rw [a7g,a0z (by omega)];exact this
 · cases hi
structure Bx (b:o4) (l:List b9) (n:Nat):Prop where
 w:Written l
 t:b.Thread=ofF (l.take n)
 a:b.Thread++b.Loose=ofF l
 f:n≤l.length
theorem b2n (picks:List Int):∀(l:List e8) (i:Nat) (out:List e8),(∀c∈l,E9 c)→∀c∈a3O picks i out l,E9 c→c∈out∨c∈l
 | [],_,_,_,c,hc,_=> .inl hc
 |x::l,i,out,h,c,hc,hw=>by
  unfold a3O at hc;rcases b2n picks l (i+1) _ (fun c hc=>h c (B4 _ hc)) c hc hw with h1|h1
  · have hx:=h x D7;unfold b3v at h1;split at h1
    · exact .inl h1
    · split at h1
      · rcases o6.1 h1 with h2|h2
        · exact .inr (h2▸D7)
        · exact .inl h2
      · split at h1
        · rename_i h3;rcases u4.1 h1 with h2|h2
          · exact .inl h2
          · exfalso;have h2:=V0.1 h2;subst h2;have e1:=hw.2.2.2.2;have e2:=hx.2.2.2.2;dsimp only at e1;rw [←e2,ByteArray.size_extract]at e1;have e3:=b1t (a2j picks (2*i+1)) (b:=(x.Text.size:Int)) (by omega);have e4:=Int.emod_nonneg (a2j picks (2*i+1)) (b:=(x.Text.size:Int)) (by omega);omega
        · rcases u4.1 h1 with h2|h2
          · exact .inl h2
          · exact .inr (V0.1 h2▸D7)
  · exact .inr (B4 _ h1)
theorem b5R (P:Nat→Prop):∀n:Nat,∃m,m≤n∧(∀j,j<m→P j)∧(m=n∨¬P m)
 |0=>⟨0,u3 _,fun j h=>absurd h (Nat.not_lt_zero _), .inl rfl⟩
 |n+1=>by
  obtain⟨m,h1,h2,h3⟩:=b5R P n;rcases Classical.em (P n)with hp|hp
  · rcases h3 with h3|h3
    · subst h3;refine⟨m+1,u3 _,fun j hj=> ?_, .inl rfl⟩;rcases a3Y j m with h|h
      · exact h2 j h
      · have e:j=m:=by omega
        subst e;exact hp
    · exact⟨m,by omega,h2, .inr h3⟩
  · rcases h3 with h3|h3
    · subst h3;exact⟨m,by omega,h2, .inr hp⟩
    · exact⟨m,by omega,h2, .inr h3⟩
theorem b0S {w:List b9} (h:Written w) {c:e8} (hc:c∈ofF w):E9 c:=by
 obtain⟨j,i,r,h1,h2,rfl⟩:=(b2I w).1 hc;have:=h.len;have:=(L6.1 h1).1;exact b3H (h.rec (a5D h1)) (by omega) h2
theorem Bx.len {b:o4} {w:List b9} {f:Nat} (h:Bx b w f):b.Thread.length+b.Loose.length≤1020:=by
 have h1:=b2L w 0 (fun r hr=>h.w.rec hr);have h2:=h.w.len;have h3:(b.Thread++b.Loose).length=(ofK 0 w).length:=m9 List.length h.a;rw [I9]at h3;omega
theorem Bx.loose {b:o4} {w:List b9} {f:Nat} (h:Bx b w f) {c:e8} (hc:c∈b.Loose):c∈ofF w:=by rw [←h.a];exact a3e _ hc
theorem Bx.sz {b:o4} {w:List b9} {f:Nat} (h:Bx b w f):c1W b:=⟨by have:=h.len;omega,by have:=h.len;omega,fun c hc=>by
 have:=b0S h.w (h.loose hc);have h1:=this.2.2.2.1;have h2:=this.2.2.2.2;omega⟩
theorem Bx.open_fall {b:o4} {w:List b9} {f:Nat} (h:Bx b w f) (picks:List Int):∃m,f≤m∧m≤w.length∧a6S ((a5H b picks).Thread++(a5H b picks).Loose)=w.take m:=by
 have hall:∀c∈(a5H b picks).Thread++(a5H b picks).Loose,E9 c→c∈ofF w:=by
  intro c hc hw;rcases u4.1 hc with h1|h1
  · rw [←h.a];exact a1q _ h1
  · rcases b2n picks b.Loose 0 [] (fun c hc=>b0S h.w (h.loose hc)) c h1 hw with h2|h2
    · cases h2
    · exact h.loose h2
 obtain⟨m,h1,h2,h3⟩:=b5R (fun j=>∀r,w[j]?=some r→∀k,k<B9 (E4 r).size→a2m (E4 r) (j:Int) k∈(a5H b picks).Thread++(a5H b picks).Loose) w.length;refine⟨m, ?_,h1,c6F h.w hall m h1 (fun j r hj=>h2 j hj r) fun r hr=> ?_⟩
 · rcases a3Y m f with hm|hm
   · exfalso;have hf:=h.f;rcases h3 with h3|h3
     · omega
     · refine h3 fun r hr k hk=>a1q _ ?_
       show _∈b.Thread;rw [h.t];refine(b2I _).2 ⟨m,k,r, ?_,hk,rfl⟩;rw [List.getElem?_take_of_lt hm];exact hr
   · exact hm
 · rcases h3 with h3|h3
   · subst h3;simp at hr
   · refine a6M fun hno=>h3 fun r' hr' k hk=>a6M fun hc=>hno ⟨k, ?_, ?_⟩
     · rw [hr]at hr';cases hr';exact hk
     · rw [hr]at hr';cases hr';exact hc
theorem Bx.opened {b:o4} {w:List b9} {f:Nat} (h:Bx b w f) (m:Nat) (hm:m≤w.length):Bx ⟨ofF (w.take m), []⟩ (w.take m) m:=
 ⟨h.w.take m,by rw [a7g,Nat.min_self],by rw [a8A],by rw [V2];omega⟩
theorem Bx.bound {b:o4} {w:List b9} {f:Nat} (h:Bx b w f):Bx ⟨b.Thread++b.Loose, []⟩ w w.length:=⟨h.w,by rw [a4u];exact h.a,by rw [a8A];exact h.a,u3 _⟩
theorem Bx.more {b:o4} {w:List b9} {f:Nat} (h:Bx b w f) {x:b9} (hx:w7 x) (hn:U7 w x):Bx ⟨b.Thread,b.Loose++a2i (E4 x) (w.length:Int)⟩ (w++ [x]) f:=
 ⟨h.w.snoc hx hn,by rw [b0s h.f];exact h.t,by rw [←a1V,h.a,b4S],by have:=h.f;simp;omega⟩
theorem Bx.nil:Bx ⟨[], []⟩ [] 0:=⟨Written.nil,by simp [ofF,ofK],by simp [ofF,ofK],u3 _⟩
theorem Written.item {w:List b9} (h:Written w) {d:Int} {n:Nat} (hn:n<cnt w d):∃r∈w,r.At=⟨d,(n:Int)⟩:=by
 have hl:=(Written.low _ rfl h).2 d;have h1:=hl n (by omega);have h2:=hl (n+1) (by omega);refine a6M fun hno=> ?_
 have:Go.Proofs.YtggdlgclohnbaaaGreatDoor.low w d ((n+1:Nat):Int)=Go.Proofs.YtggdlgclohnbaaaGreatDoor.low w d (n:Int):=by
  unfold Go.Proofs.YtggdlgclohnbaaaGreatDoor.low;refine List.countP_congr fun r hr=> ?_
  simp only [A7,K4,A6];constructor
  · rintro⟨h3,h4⟩;refine⟨h3, ?_⟩;rcases(show r.At.No<(n:Int)∨(n:Int)≤r.At.No by omega)with h5|h5
    · exact h5
    · exfalso;refine hno ⟨r,hr, ?_⟩;have e:r.At.No=(n:Int):=by omega
      obtain⟨⟨d',n'⟩,_⟩:=r;dsimp only at h3 e⊢;rw [h3,e]
  · rintro⟨h3,h4⟩;exact⟨h3,by omega⟩
 omega
theorem Written.lt {w:List b9} (h:Written w) {r:b9} (hr:r∈w):r.At.No<((cnt w r.At.Depot:Nat):Int):=(Written.low _ rfl h).1 r hr
theorem c5N {w:List b9} (h:a0I w) {r:b9} (hr:r∈w):fnd w r.At=some r:=by
 cases hf:fnd w r.At with
 |none=>exact absurd rfl (a5T hf r hr)
 |some v=>
  obtain⟨h1,h2⟩:=a0K hf;rw [b2P h h1 hr h2]
theorem c6w {w v:List b9} (h:a0I w) (p:v.Perm w) (t:p0):fnd v t=fnd w t:=by
 cases hf:fnd v t with
 |some x=>
  obtain⟨h1,h2⟩:=a0K hf;rw [←h2,c5N h (p.mem_iff.1 h1)]
 |none=>
  cases hg:fnd w t with
  |none=>rfl
  |some y=>
   obtain⟨h1,h2⟩:=a0K hg;exact absurd h2 (a5T hf y (p.mem_iff.2 h1))
theorem c4Q {w v:List b9} (p:v.Perm w) (d:Int):cnt v d=cnt w d:=p.countP_eq _
theorem c1E {w v:List b9} (h:a0I w) (p:v.Perm w) (r:b9):a0L v r=a0L w r:=by
 unfold a0L;rw [c6w h p,c4Q p,p.length_eq]
def a3T (w:List b9) (r:b9):Int:=if w7 r then(a0L w r).2 else 80
theorem c2S {w:List b9} (h:Written w) {r:b9} (hr:r∈w):a3T w r=0:=by
 unfold a3T a0L;rw [j2 (h.rec hr),c5N h.once hr];simp
theorem b9K {w:List b9} (h:Written w) {r:b9} (hr:r∉w) (he:a3T w r=0):w7 r∧U7 w r∧a0L w r=(true,0):=by
 unfold a3T at he;split at he
 · rename_i hk;unfold a0L at he⊢;cases hf:fnd w r.At with
   |some v=>
    rw [hf]at he;dsimp only at he;split at he
    · rename_i hv;exact absurd (hv▸(a0K hf).1) hr
    · cases he
   |none=>
    rw [hf]at he;dsimp only at he;split at he
    · cases he
    · rename_i h1;split at he
      · cases he
      · rename_i h2;refine⟨hk,⟨by have:=h.len;omega, ?_⟩, ?_⟩
        · rcases(show r.At.No<((cnt w r.At.Depot:Nat):Int)∨((cnt w r.At.Depot:Nat):Int)≤r.At.No by omega)with h3|h3
          · exfalso;have h0:0≤r.At.No:=hk.1.2.1;obtain⟨x,g1,g2⟩:=h.item (d:=r.At.Depot) (n:=r.At.No.toNat) (by omega);refine a5T hf x g1 ?_;rw [g2,a9E h0]
          · omega
        · dsimp only;rw [j0 h1,j0 h2]
 · cases he
theorem c1X {w:List b9} (h:Written w) {r:b9} (hk:w7 r) (hn:U7 w r):r∉w∧a3T w r=0:=by
 have hx:∀v∈w,v.At≠r.At:=fun v hv e=>by
  have h1:=h.lt hv;have h2:=hn.2;rw [e]at h1;omega
 refine⟨fun hm=>hx r hm rfl, ?_⟩;unfold a3T a0L;rw [j2 hk];cases hf:fnd w r.At with
 |some v=>exact absurd (a0K hf).2 (hx v (a0K hf).1)
 |none=>
  have h1:=hn.1;have h2:=hn.2;dsimp only;rw [j0 (by omega),j0 (by omega)]
def P9 (b:o4) (w:List b9) (r:b9):o4×List b9×Int:=
 if r∈w then(b,w,0)else if a3T w r=0 then(⟨b.Thread,b.Loose++a2i (E4 r) (w.length:Int)⟩,w++ [r],0)else(⟨[], []⟩, [],a3T w r)
def HB (b:o4) (w:List b9):Prop:=Written w∧b.Thread++b.Loose=ofF w
theorem HB.of {b:o4} {w:List b9} {f:Nat} (h:Bx b w f):HB b w:=⟨h.w,h.a⟩
theorem HB.len {b:o4} {w:List b9} (h:HB b w):b.Thread.length+b.Loose.length≤1020:=by
 have h1:=b2L w 0 (fun r hr=>h.1.rec hr);have h2:=h.1.len;have h3:(b.Thread++b.Loose).length=(ofK 0 w).length:=m9 List.length h.2;rw [I9]at h3;omega
theorem b3b (b:o4) (w:List b9) (r:b9) (h:Written w):(P9 b w r).2.2=a3T w r:=by
 unfold P9;split
 · rename_i hm;exact(c2S h hm).symm
 · split
   · rename_i h1;exact h1.symm
   · rfl
theorem c8t (l:List b9) (hl:a6x l) (r:b9) (hr:r.Text.size≤9223372036854775807):∃bk,a0d ⟨l⟩ r=some (bk,a3T l r):=by
 have hl60:=hl.1;have hts:∀r∈l,r.Text.size≤9223372036854775807:=fun r hr=>by have:=S4 (hl.2.rec hr);omega
 have hd:∀r∈l,y8 r.At.Depot:=fun r hr=>hl.2.dep hr
 obtain⟨x,h1,h2,_⟩:=c5I ⟨l⟩ r (by dsimp only;omega) hts hr;refine⟨x.1, ?_⟩;rw [h1];unfold a7X at h2;rw [Check_eq _ hts,j3,j0 (by simp [hl])]at h2;dsimp only at h2;rw [c2W l r (by omega) hd hr,j3]at h2;unfold a3T;by_cases hk:w7 r
 · rw [j2 hk]at h2⊢;cases ha:a0L l r with
   |mk m e=>
    rw [ha]at h2;dsimp only at h2⊢;by_cases he:e=0
    · subst he;rw [j0 (by decide)]at h2
      have hx:x.2=0:=by
       split at h2
       · simp only [gd,j3]at h2;split at h2
         · cases h2;rfl
         · cases h2
       · rw [c6j l r (by omega),j3]at h2;cases h2;rfl
      rw [←hx]
    · rw [j2 (by simpa using he)]at h2
      cases h2;rfl
 · rw [j0 hk]at h2⊢;rw [j2 (by decide)]at h2;cases h2;rfl
theorem b5V (b:o4) (w:List b9) (r:b9) (hw:Written w) (hb:b.Thread.length+b.Loose.length≤100000) (hr:r.Text.size≤9223372036854775807):M9 b w r=some (P9 b w r):=by
 have hwl:=hw.len;unfold M9 u5 D8 k9 j1 P9;rw [b8m _ (by omega),j3];by_cases hm:r∈w
 · rw [j2 (by simp [hm]),j2 hm,q9 (by omega),q9 (by omega),q9 (by omega)];rfl
 · rw [j0 (by simp [hm]),j0 hm,q9 (by omega),j3];obtain⟨bk,h1⟩:=c8t (w5 w) (a7n hw) r hr;have he:a3T (w5 w) r=a3T w r:=by unfold a3T;rw [c1E hw.once (E0 w)]
   rw [h1,j3,he];dsimp only;by_cases h0:a3T w r=0
   · obtain⟨hk,hn,_⟩:=b9K hw hm h0;have hcl:(a2i (E4 r) (w.length:Int)).length≤17:=by rw [a6v];exact a7M (a7H hk)
     rw [j0 (by simp [h0]),j2 h0,q9 (by omega),q9 (by omega)];simp only [j3];rw [a8k hk,j3,q9 (by omega),q9 (by omega),j3,q9 (by simp only [P3,a1r];omega)]
   · rw [j2 (by simpa using h0),j0 h0]
theorem c3a {R α:Type} {body:Int→Option (Sum Int (Sum Int R))} (l:List α) (hl:l.length≤9223372036854775800) (q:α→Prop) (r0:R)
 (h:∀(i:Nat) (hi:i<l.length),(q l[i]∧body (i:Int)=some (.inl ((i+1:Nat):Int)))∨(¬q l[i]∧body (i:Int)=some (.inr (.inr r0)))) (he:body (l.length:Int)=some (.inr (.inl (l.length:Int)))):
 ((∀x∈l,q x)∧r6 body 0=some (.inl (l.length:Int)))∨(¬(∀x∈l,q x)∧r6 body 0=some (.inr r0)):=by
 letI:DecidablePred q:=fun _=>Classical.propDecidable _
 have key:=a8o l.length (by omega) (fun i=>match l[i]? with|some x=>if q x then none else some r0|none=>none) 0 (I2 _) (fun i _ h2=>by
  simp only [G7 h2];rcases h i h2 with⟨g1,g2⟩|⟨g1,g2⟩<;>simp [g1,g2]) he
 have key:r6 body 0=_:=key;rw [key];by_cases hall:∀x∈l,q x
 · left;refine⟨hall, ?_⟩
   rw [a5M _ _ (fun i _ h2=>by
    have hi:i<l.length:=by omega
    simp only [G7 hi,j2 (hall _ (a2k hi))])]
   simp
 · right;refine⟨hall, ?_⟩
   have:∃i,∃hi:i<l.length,¬q l[i]:=by
    refine a6M fun hn=>hall fun x hx=>a6M fun hq=> ?_
    obtain⟨i,hi,rfl⟩:=b1C hx;exact hn ⟨i,hi,hq⟩
   obtain⟨i,hi,hq⟩:=this;obtain⟨j,r,a,b,c,d⟩:=a5P (q:=fun i=>match l[i]? with|some x=>if q x then none else some r0|none=>none) (l.length-0) 0 i (I2 _) (by omega) (by simp [G7 hi,hq])
   rw [d];have hj:j<l.length:=by omega
   simp only [G7 hj]at c;split at c
   · cases c
   · cases c;rfl
instance (n : Int) : Decidable (y8 n) := inferInstanceAs (Decidable (_ ∧ _))
theorem a6e (n:Int):E1 n=some (decide (y8 n)):=by
 unfold E1 y8;rw [a3H];rfl
def a0M (l:I6):Prop:=∀n∈a8r l,0≤n∧n≤60
instance (l : I6) : Decidable (a0M l) := inferInstanceAs (Decidable (∀ n ∈ a8r l, _))
theorem a9K (l:I6):R4 l=some (decide (a0M l)):=by
 have h:=a9A (a8r l) (by simp [a8r]) U5 (fun n=> !decide (0≤n∧n≤60)) (fun x _=>by unfold U5;rw [a3H];rfl);unfold R4;have h:z6 [l.1,l.2.1,l.2.2.1,l.2.2.2.1,l.2.2.2.2.1,l.2.2.2.2.2]=_:=h;rw [h,j3];congr 1;rw [a8E];simp only [a3q,A6,List.any_eq_false,b3f,Classical.not_not];rfl
abbrev I36:=I6×I6×I6×I6×I6×I6
def a8M (k:I36):List I6:= [k.1,k.2.1,k.2.2.1,k.2.2.2.1,k.2.2.2.2.1,k.2.2.2.2.2]
theorem b5B (l:I36):(a8M l).length=6:=rfl
def a2x (d:c8):Prop:=y8 d.Me∧HB d.Box d.Written∧∀l∈a8M d.Known,a0M l
structure SzD (d:c8):Prop where
 b:d.Box.Thread.length+d.Box.Loose.length≤100000
 w:d.Written.length≤100000
 t:∀r∈d.Written,r.Text.size≤9223372036854775807
theorem a2x.sz {d:c8} (h:a2x d):SzD d:=⟨by have:=h.2.1.len;omega,by have:=h.2.1.1.len;omega,fun r hr=>by have:=S4 (h.2.1.1.rec hr);omega⟩
open Classical in theorem isValid_eq (d : c8) (h : SzD d) : M2 d = some (decide (a2x d)) := by
  have hb := h.b;have hw := h.w;unfold M2;unfold a2x
  rcases c3a (body := O2 d) (a8M d.Known) (by rw [b5B]; omega) a0M false (fun i hi => by
    unfold O2;have hi6 : i < 6 := hi;have hx : idx [d.Known.1, d.Known.2.1, d.Known.2.2.1, d.Known.2.2.2.1, d.Known.2.2.2.2.1, d.Known.2.2.2.2.2] (i : Int) = some (a8M d.Known)[i] := Y0 hi;rw [j2 (by simp only [A6]; omega), hx, j3, a9K, j3, W_s (by omega)];by_cases hq : a0M (a8M d.Known)[i]
    · rw [j0 (by simp [hq])]; exact .inl ⟨hq, rfl⟩
    · rw [j2 (by simp [hq])]; exact .inr ⟨hq, rfl⟩) (by unfold O2; rw [b5B, j0 (by decide)]) with ⟨hk, hz⟩ | ⟨hk, hz⟩
  · rw [hz, j3];dsimp only;rw [a6e, j3, have_eq d.Box d.Written (by omega) (by omega) h.t];by_cases hm : y8 d.Me
    · rw [j2 (by simp [hm]), j3];congr 1;rw [a8E];simp only [A6];exact ⟨fun e => ⟨hm, e, hk⟩, fun e => e.2.1⟩
    · rw [j0 (by simp [hm])];simp [hm]
  · rw [hz, j3];dsimp only;simp only [hk, and_false, a0O]
def b8E (m:d8):Prop:=y8 m.From∧y8 m.To∧m.From≠m.To∧a0M m.Have∧m.Records.length≤6∧∀r∈m.Records,w7 r
def SzM (m:d8):Prop:=∀r∈m.Records,r.Text.size≤9223372036854775807
theorem b8E.sz {m:d8} (h:b8E m):SzM m:=fun r hr=>by have:=S4 (h.2.2.2.2.2 r hr);omega
open Classical in theorem isMessage_eq (m : d8) (h : SzM m) : Z0 m = some (decide (b8E m)) := by
  unfold Z0 b8E;rw [a6e, j3];by_cases h1 : y8 m.From
  · rw [j2 (by simp [h1]), a6e, j3];by_cases h2 : y8 m.To
    · rw [j2 (by simp [h2])];by_cases h3 : m.From = m.To
      · rw [j0 (by simp [h3])]; simp [h3]
      · rw [j2 (by simpa using h3), a9K, j3]
        by_cases h4 : a0M m.Have
        · rw [j2 (by simp [h4])];by_cases h5 : m.Records.length ≤ 6
          · have hc := a9A m.Records (by omega) U6 (fun r => !decide (w7 r)) (fun x hx => by unfold U6; rw [R0 x (h x hx)]; rfl);have hc : r7 m.Records = _ := hc;rw [j2 (by simp only [A6]; omega), hc, j3];congr 1;rw [a8E];simp only [a3q, List.any_eq_false, b3f, Classical.not_not, A6, h1, h2, h3, h4, h5, ne_eq, not_false_eq_true, X6]
          · rw [j0 (by simp only [A6]; omega)]; simp [h5]
        · rw [j0 (by simp [h4])]; simp [h4]
    · rw [j0 (by simp [h2])]; simp [h2]
  · rw [j0 (by simp [h1])]; simp [h1]
theorem b4a:∀ {w T:List b9},a0I w→(∀r∈w,r∈T)→w.length≤T.length
 | [],_,_,_=>I2 _
 |r::w,T,ho,hs=>by
  obtain⟨a,b,rfl⟩:=List.append_of_mem (hs r D7);have ho':=a9X.1 ho
  have:=b4a (T:=a++b) ho'.2 fun x hx=>by
   have h1:=hs x (B4 _ hx);rcases u4.1 h1 with h|h
   · exact a1q _ h
   · rcases o6.1 h with h|h
     · exact absurd (h▸rfl) (ho'.1 x hx)
     · exact a3e _ h
  simp only [P3,I9]at this⊢;omega
theorem a0I.filter {w:List b9} (h:a0I w) (p:b9→Bool):a0I (w.filter p):=List.Pairwise.filter p h
def a0k (w:List b9) (r:b9):List b9:=if((cnt w r.At.Depot:Nat):Int)<r.At.No∨r∈w then w else w++ [r]
theorem b9D {w T:List b9} (hw:Written w) (hT:a0I T) (hs:∀r∈w,r∈T) (hl:T.length≤59) {r:b9} (hr:r∈T) (hk:w7 r) (hc:¬((cnt w r.At.Depot:Nat):Int)<r.At.No) (hm:r∉w):U7 w r:=by
 refine⟨by have:=b4a hw.once hs;omega, ?_⟩;rcases(show r.At.No<((cnt w r.At.Depot:Nat):Int)∨((cnt w r.At.Depot:Nat):Int)≤r.At.No by omega)with h|h
 · exfalso;have h0:0≤r.At.No:=hk.1.2.1;obtain⟨x,g1,g2⟩:=hw.item (d:=r.At.Depot) (n:=r.At.No.toNat) (by omega);rw [a9E h0]at g2;exact hm (b2P hT hr (hs x g1) g2.symm▸g1)
 · omega
theorem b5u {w T:List b9} (hw:Written w) (hT:a0I T) (hs:∀r∈w,r∈T) (hl:T.length≤59) {r:b9} (hr:r∈T) (hk:w7 r):Written (a0k w r)∧(∀x∈a0k w r,x∈w∨x=r)∧∃t,a0k w r=w++t:=by
 unfold a0k;split
 · exact⟨hw,fun x hx=> .inl hx, [],by simp⟩
 · rename_i h;rw [not_or]at h;refine⟨hw.snoc hk (b9D hw hT hs hl hr hk h.1 h.2),fun x hx=> ?_, [r],rfl⟩;rcases u4.1 hx with h|h
   · exact .inl h
   · exact .inr (V0.1 h)
theorem a8y {T:List b9} (hT:a0I T) (hl:T.length≤59):∀(rs:List b9) {w:List b9},Written w→(∀r∈w,r∈T)→(∀r∈rs,r∈T∧w7 r)→
 Written (rs.foldl a0k w)∧(∀x∈rs.foldl a0k w,x∈w∨x∈rs)∧∃t,rs.foldl a0k w=w++t
 | [],w,hw,_,_=>⟨hw,fun x hx=> .inl hx, [],by simp⟩
 |r::rs,w,hw,hs,hr=>by
  obtain⟨h1,h2,t1,h3⟩:=b5u hw hT hs hl (hr r D7).1 (hr r D7).2;obtain⟨g1,g2,t2,g3⟩:=a8y hT hl rs h1 (fun x hx=>by rcases h2 x hx with h|h;exact hs x h;exact h▸(hr r D7).1) fun x hx=>hr x (B4 _ hx)
  refine⟨g1,fun x hx=> ?_,t1++t2, ?_⟩
  · rcases g2 x hx with h|h
    · rcases h2 x h with h|h
      · exact .inl h
      · exact .inr (h▸D7)
    · exact .inr (B4 _ h)
  · show rs.foldl a0k (a0k w r)=_;rw [g3,h3,a1V]
def A9 (v:List b9) (h:Int→Int):List b9:=(w5 v).filter fun r=> !(decide (r.At.No<h r.At.Depot))
theorem a4k {v:List b9} {h:Int→Int} {r:b9}:r∈A9 v h↔r∈v∧h r.At.Depot≤r.At.No:=by
 unfold A9;rw [a2r,(E0 v).mem_iff];simp
theorem b4t (a b:List b9) (d:Int):cnt (a++b) d=cnt a d+cnt b d:=by unfold cnt;rw [b0Q]
theorem b8G {w v:List b9} (hv:Written v) {p q:List b9} {r:b9} (hp:A9 v (fun d=>((cnt w d:Nat):Int))=p++r::q):((cnt (w++p) r.At.Depot:Nat):Int)=r.At.No:=by
 have hr:r∈v∧((cnt w r.At.Depot:Nat):Int)≤r.At.No:=a4k.1 (hp▸a3e _ D7);have hlt:=hv.lt hr.1;have hrise:a2z (p++r::q):=by rw [←hp];exact List.Pairwise.filter _ (a0Z hv.once)
 unfold a2z at hrise;rw [List.pairwise_append]at hrise;obtain⟨_,h2,h3⟩:=hrise;have h2:=(a9X.1 h2).1;obtain⟨n,hn⟩:∃n:Nat,r.At.No=(n:Int):=⟨r.At.No.toNat,by omega⟩;have hl:=(Written.low _ rfl hv).2 r.At.Depot;have l1:=hl n (by omega);have l2:=hl (cnt w r.At.Depot) (by omega)
 --those of p are those below r
 have e1:cnt p r.At.Depot=(p++r::q).countP fun x=>x.At.Depot==r.At.Depot&&decide (x.At.No<r.At.No):=by
  rw [b0Q]
  have z:(r::q).countP (fun x=>x.At.Depot==r.At.Depot&&decide (x.At.No<r.At.No))=0:=by
   rw [List.countP_eq_zero];intro x hx;simp only [A7,K4,A6,not_and];intro hd;rcases o6.1 hx with h|h
   · subst h;omega
   · have:=h2 x h;unfold Bef at this;omega
  rw [z,a5i];unfold cnt;refine List.countP_congr fun x hx=> ?_
  simp only [A7,K4,A6];refine⟨fun hd=>⟨hd, ?_⟩,fun h=>h.1⟩;have:=h3 x hx r D7;unfold Bef at this;omega
 have e2:(p++r::q).countP (fun x=>x.At.Depot==r.At.Depot&&decide (x.At.No<r.At.No))+low v r.At.Depot ((cnt w r.At.Depot:Nat):Int)=low v r.At.Depot r.At.No:=by
  rw [←hp];unfold A9 low;rw [List.countP_filter,←(E0 v).countP_eq (fun x=>x.At.Depot==r.At.Depot&&decide (x.At.No<((cnt w r.At.Depot:Nat):Int))),←(E0 v).countP_eq (fun x=>x.At.Depot==r.At.Depot&&decide (x.At.No<r.At.No))];generalize w5 v=l
  induction l with
  |nil=>rfl
  |cons x l ih=>
   simp only [List.countP_cons];by_cases hd:x.At.Depot=r.At.Depot
   · rw [hd];simp only [beq_self_eq_true,Bool.true_and,Bool.and_true,A7,A6,a3q,b3f];simp only [hd,beq_self_eq_true,Bool.true_and,Bool.and_true,A7,A6,a3q,b3f]at ih;split<;>split<;>split<;>omega
   · have:(x.At.Depot==r.At.Depot)=false:=by simpa using hd
     simp only [this,Bool.false_and,J4,F7];simpa using ih
 rw [b4t];rw [hn]at e2;rw [l1,l2]at e2;rw [hn]at e1;omega
theorem b9A {w v T:List b9} (hw:Written w) (hv:Written v) (hT:a0I T) (hl:T.length≤59) (hws:∀r∈w,r∈T) (hvs:∀r∈v,r∈T) (k:Nat):
 ((A9 v (fun d=>((cnt w d:Nat):Int))).take k).foldl a0k w=w++(A9 v (fun d=>((cnt w d:Nat):Int))).take k:=by
 have key:∀(q p:List b9),(A9 v (fun d=>((cnt w d:Nat):Int)))=p++q→∀j,(q.take j).foldl a0k (w++p)=w++p++q.take j:=by
  intro q
  induction q with
  |nil=>intro p _ j;simp
  |cons r q ih=>
   intro p hp j;cases j with
   |zero=>simp
   |succ j=>
    have hn:=b8G hv hp
    have hno:r∉w++p:=by
     intro hm;have hr:=a4k.1 (hp▸a3e p D7:r∈A9 v _);rcases u4.1 hm with h|h
     · have:=hw.lt h;omega
     · have hrise:a2z (p++r::q):=by rw [←hp];exact List.Pairwise.filter _ (a0Z hv.once)
       unfold a2z at hrise;rw [List.pairwise_append]at hrise;exact Bef.irr _ (hrise.2.2 r h r D7)
    have e:a0k (w++p) r=w++(p++ [r]):=by
     unfold a0k;rw [j0 (by rw [not_or];exact⟨by omega,hno⟩),a1V]
    rw [List.take_succ_cons,List.foldl_cons,e,ih (p++ [r]) (by rw [hp];simp) j];simp
 have:=key _ [] rfl k;rw [a8A]at this;exact this
abbrev zT:I36:=((0,0,0,0,0,0),(0,0,0,0,0,0),(0,0,0,0,0,0),(0,0,0,0,0,0),(0,0,0,0,0,0),(0,0,0,0,0,0))
abbrev zD:c8:=⟨0,⟨[], []⟩, [],zT⟩
abbrev zM:d8:=⟨0,0,(0,0,0,0,0,0), []⟩
def a0B (d:c8) (r:b9):b9:=⟨⟨d.Me,((cnt d.Written d.Me:Nat):Int)⟩,r.Kind,r.Day,r.Known,r.Of,r.Text⟩
open Classical in noncomputable def noteS (d : c8) (r : b9) : c8 × b9 × Int :=
  if a2x d then
    if a3T d.Written (a0B d r) = 0 then (⟨d.Me, (P9 d.Box d.Written (a0B d r)).1, (P9 d.Box d.Written (a0B d r)).2.1, d.Known⟩, a0B d r, 0)
    else (zD, zR, a3T d.Written (a0B d r))
  else (zD, zR, 85)
theorem b3m (l:List b9) {d:Int} (h:y8 d):idx [(N7 l).1,(N7 l).2.1,(N7 l).2.2.1,(N7 l).2.2.2.1,(N7 l).2.2.2.2.1,(N7 l).2.2.2.2.2] d=some ((cnt l d:Nat):Int):=a6o l h
theorem c6u (d:c8) (r:b9) (h:SzD d) (hr:r.Text.size≤9223372036854775807):a3z d r=some (noteS d r):=by
 have hb:=h.b;have hwl:=h.w;unfold a3z noteS;rw [isValid_eq d h,j3];by_cases hv:a2x d
 · obtain⟨h1,h2,h3⟩:=id hv;have hw:=h2.1;rw [j0 (by simp [hv]),j2 hv];unfold S6 D8 k9 j1;rw [q9 (by omega),q9 (by omega),q9 (by omega)];simp only [j3];rw [a6w _ (by omega) (fun r hr=>hw.dep hr),j3,b3m _ h1,j3];unfold a2p;have hwr:M9 ⟨d.Box.Thread,d.Box.Loose⟩ d.Written (a0B d r)=some (P9 d.Box d.Written (a0B d r)):=b5V d.Box d.Written (a0B d r) hw hb hr;unfold a0B at hwr⊢;rw [hwr,j3];have he:=b3b d.Box d.Written (a0B d r) hw;unfold a0B at he;generalize hz:P9 d.Box d.Written ⟨⟨d.Me,((cnt d.Written d.Me:Nat):Int)⟩,r.Kind,r.Day,r.Known,r.Of,r.Text⟩=z at he⊢;obtain⟨b',w',e⟩:=z;dsimp only at he⊢;subst he;by_cases h0:a3T d.Written ⟨⟨d.Me,((cnt d.Written d.Me:Nat):Int)⟩,r.Kind,r.Day,r.Known,r.Of,r.Text⟩=0
   · rw [j2 (by simpa using h0),j2 h0,j3]
     dsimp only;rw [j0 (by simpa using h0)]
   · rw [j0 (by simpa using h0),j0 h0,j3]
     dsimp only;rw [j2 (by simpa using h0)];rfl
 · rw [j2 (by simp [hv]),j0 hv];rfl
open Classical in noncomputable def tellS (d : c8) (to : Int) : c8 × d8 × Int :=
  if a2x d then
    if y8 to ∧ to ≠ d.Me then (⟨d.Me, ⟨d.Box.Thread ++ d.Box.Loose, []⟩, d.Written, d.Known⟩, ⟨d.Me, to, N7 d.Written, []⟩, 0) else (zD, zM, 1)
  else (zD, zM, 85)
theorem c2L (b:o4) (hb:(b.Thread.length+b.Loose.length)*48≤140737488355328):R8 b=some ⟨b.Thread++b.Loose, []⟩:=by
 unfold R8;rw [b0G b (by omega)];rfl
theorem a9M (d:c8) (to:Int) (h:SzD d):a0p d to=some (tellS d to):=by
 have hb:=h.b;have hwl:=h.w;unfold a0p tellS;rw [isValid_eq d h,j3];by_cases hv:a2x d
 · have hw:=hv.2.1.1;rw [j0 (by simp [hv]),j2 hv,a6e,j3];by_cases h1:y8 to
   · rw [j0 (by simp [h1])];by_cases h2:to=d.Me
     · rw [j2 (by simp [h2]),j0 (fun e=>e.2 h2)]
     · rw [j0 (by simpa using h2),j2 ⟨h1,h2⟩]
       unfold S6 D8 k9 j1 a2l I1;rw [q9 (by omega),q9 (by omega),q9 (by omega)];simp only [j3];rw [c2L ⟨d.Box.Thread,d.Box.Loose⟩ (by dsimp only;omega)];simp only [j3];rw [a6w _ (by omega) (fun r hr=>hw.dep hr)];rfl
   · rw [j2 (by simp [h1]),j0 (fun e=>h1 e.1)]
 · rw [j2 (by simp [hv]),j0 hv]
open Classical in noncomputable def restS (d : c8) (picks : List Int) : c8 × Int :=
  if a2x d then (⟨d.Me, ⟨ofF (a6S ((a5H d.Box picks).Thread ++ (a5H d.Box picks).Loose)), []⟩, a6S ((a5H d.Box picks).Thread ++ (a5H d.Box picks).Loose), zT⟩, 0) else (zD, 85)
theorem HB.loose {b:o4} {w:List b9} (h:HB b w) {c:e8} (hc:c∈b.Loose):E9 c:=b0S h.1 (by rw [←h.2];exact a3e _ hc)
theorem HB.sz {b:o4} {w:List b9} (h:HB b w):c1W b:=⟨by have:=h.len;omega,by have:=h.len;omega,fun c hc=>by
 have:=h.loose hc;have h1:=this.2.2.2.1;have h2:=this.2.2.2.2;omega⟩
theorem HB.fallen {b:o4} {w:List b9} (h:HB b w) (picks:List Int):((a5H b picks).Thread.length+(a5H b picks).Loose.length)*48≤140737488355328:=by
 have hl:=b0T picks b.Loose 0 [];have:=h.len;simp only [a1r]at hl;show(b.Thread.length+(a3O picks 0 [] b.Loose).length)*48≤_;omega
theorem b8A (d:c8) (picks:List Int) (h:SzD d) (hp:b6T picks) (hpl:picks.length≤9223372036854775800):a0T d picks=some (restS d picks):=by
 unfold a0T restS;rw [isValid_eq d h,j3];by_cases hv:a2x d
 · rw [j0 (by simp [hv]),j2 hv,a5G _ picks hv.2.1.sz hp hpl,j3,a5N _ (hv.2.1.fallen picks),j3]
 · rw [j2 (by simp [hv]),j0 hv]
theorem c3P {b:o4} {w:List b9} {r:b9} (h:HB b w) (he:a3T w r=0):HB (P9 b w r).1 (P9 b w r).2.1:=by
 unfold P9;split
 · exact h
 · rename_i hm;obtain⟨h1,h2,_⟩:=b9K h.1 hm he;exact⟨h.1.snoc h1 h2,by dsimp only;rw [←a1V,h.2,b4S]⟩
theorem c1M (b:o4) (w:List b9) (r:b9) (he:a3T w r=0):w.length≤(P9 b w r).2.1.length:=by
 unfold P9;split
 · exact u3 _
 · simp
def a6N (s:o4×List b9) (r:b9):Sum (o4×List b9) Int:=
 if((cnt s.2 r.At.Depot:Nat):Int)<r.At.No then .inl s else if a3T s.2 r=0 then .inl ((P9 s.1 s.2 r).1,(P9 s.1 s.2 r).2.1)else .inr (a3T s.2 r)
theorem b8O {s s':o4×List b9} {r:b9} {n:Nat} (h:HB s.1 s.2∧n≤s.2.length) (he:a6N s r= .inl s'):HB s'.1 s'.2∧n≤s'.2.length:=by
 unfold a6N at he;split at he
 · cases he;exact h
 · split at he
   · rename_i h0;cases he;exact⟨c3P h.1 h0,u2 h.2 (c1M _ _ _ h0)⟩
   · cases he
theorem c0z (d:c8) (m:d8) (hd:HB d.Box d.Written) (hm:b8E m):(∀s,P5 a6N m.Records (d.Box,d.Written)= .inl s→r6 (G6 m) (0,⟨⟨d.Me,d.Box,d.Written,d.Known⟩⟩)=some (.inl ((m.Records.length:Int),⟨⟨d.Me,s.1,s.2,d.Known⟩⟩)))∧
 ∀e,P5 a6N m.Records (d.Box,d.Written)= .inr e→r6 (G6 m) (0,⟨⟨d.Me,d.Box,d.Written,d.Known⟩⟩)=some (.inr (zD, [],e)):=by
 have h6:=hm.2.2.2.2.1
 have key:=a1l (body:=G6 m) m.Records (by omega) (fun k (s:o4×List b9)=>((k:Int),(⟨⟨d.Me,s.1,s.2,d.Known⟩⟩:A3))) a6N (fun e=> .inr (zD, [],e)) (fun s=> .inl ((m.Records.length:Int),⟨⟨d.Me,s.1,s.2,d.Known⟩⟩)) (fun _ s=>HB s.1 s.2∧d.Written.length≤s.2.length)
  (fun pre x post s hp hs=>by
   have hx:w7 x:=hm.2.2.2.2.2 x (hp▸a3e _ D7);have hw:=hs.1.1;have hwl:=hw.len;have hbl:=hs.1.len;have hlen:m.Records.length=pre.length+1+post.length:=by rw [hp];simp;omega
   refine⟨?_,fun s' hs'=>b8O hs hs'⟩;unfold G6;dsimp only;rw [hp,j2 (by simp only [A6];exact a8X),a3F,j3,a6w _ (by omega) (fun r hr=>hw.dep hr),j3,b3m _ (a2O hx),j3,W_s (by omega)];unfold a6N;by_cases h1:((cnt s.2 x.At.Depot:Nat):Int)<x.At.No
   · rw [j2 (by simpa using h1),j2 h1]
   · rw [j0 (by simpa using h1),j0 h1]
     unfold a1y;dsimp only;rw [b5V s.1 s.2 x hw (by omega) (by have:=S4 hx;omega),j3];have he:=b3b s.1 s.2 x hw;generalize P9 s.1 s.2 x=z at he⊢;obtain⟨b',w',e⟩:=z;dsimp only at he⊢;subst he;by_cases h0:a3T s.2 x=0
     · rw [j2 (by simpa using h0),j2 h0,j3]
       dsimp only;rw [j0 (by simpa using h0)]
     · rw [j0 (by simpa using h0),j0 h0,j3]
       dsimp only;rw [j2 (by simpa using h0)])
  (fun s hs=>by unfold G6;dsimp only;rw [j0 (by simp)]) (d.Box,d.Written) ⟨hd,u3 _⟩
 refine⟨fun s hs=> ?_,fun e he=> ?_⟩
 · rw [hs]at key;exact key
 · rw [he]at key;exact key
theorem c6E (m:d8):∀(l:List b9) (s:o4×List b9) {n:Nat} {t:o4×List b9},HB s.1 s.2∧n≤s.2.length→P5 a6N l s= .inl t→HB t.1 t.2∧n≤t.2.length
 | [],s,n,t,h,he=>by unfold P5 at he;cases he;exact h
 |x::l,s,n,t,h,he=>by
  unfold P5 at he;cases hx:a6N s x with
  |inl s'=>rw [hx]at he;exact c6E m l s' (b8O h hx) he
  |inr e=>rw [hx]at he;cases he
def H7 (r:I6) (i:Int):Int:=(idx (a8r r) i).getD 0
def a3h (K:I36) (f:Int):I6:=(idx (a8M K) f).getD (0,0,0,0,0,0)
def d0M (r:I6) (i y:Int):I6:=(if(i==0)=true then y else r.1,if(i==1)=true then y else r.2.1,if(i==2)=true then y else r.2.2.1,if(i==3)=true then y else r.2.2.2.1,if(i==4)=true then y else r.2.2.2.2.1,if(i==5)=true then y else r.2.2.2.2.2)
def d0C (K:I36) (f:Int) (y:I6):I36:=(if(f==0)=true then y else K.1,if(f==1)=true then y else K.2.1,if(f==2)=true then y else K.2.2.1,if(f==3)=true then y else K.2.2.2.1,if(f==4)=true then y else K.2.2.2.2.1,if(f==5)=true then y else K.2.2.2.2.2)
theorem c9h (r:I6) {i:Int} (h:y8 i):idx (a8r r) i=some (H7 r i):=by
 rcases Q7 h with rfl|rfl|rfl|rfl|rfl|rfl<;>rfl
theorem d0a (K:I36) {i:Int} (h:y8 i):idx (a8M K) i=some (a3h K i):=by
 rcases Q7 h with rfl|rfl|rfl|rfl|rfl|rfl<;>rfl
theorem b9X {α:Type} (i k:Int) (a b:α):(if(i==k)=true then a else b)=if k=i then a else b:=by
 by_cases h:i=k
 · subst h;simp
 · rw [j0 (by simpa using h),j0 (fun e=>h e.symm)]
theorem c5p (r:I6) (i y:Int) {k:Int} (hk:y8 k):H7 (d0M r i y) k=if k=i then y else H7 r k:=by
 rcases Q7 hk with rfl|rfl|rfl|rfl|rfl|rfl<;>exact b9X i _ y _
theorem c6h (K:I36) (f:Int) (y:I6) {k:Int} (hk:y8 k):a3h (d0C K f y) k=if k=f then y else a3h K k:=by
 rcases Q7 hk with rfl|rfl|rfl|rfl|rfl|rfl<;>exact b9X f _ y _
theorem a4G (l:List b9) {d:Int} (h:y8 d):H7 (N7 l) d=((cnt l d:Nat):Int):=by unfold H7;rw [a6o l h];rfl
theorem b3K {l:I6}:a0M l↔∀x,y8 x→0≤H7 l x∧H7 l x≤60:=by
 constructor
 · intro h x hx;exact h _ (by rcases Q7 hx with rfl|rfl|rfl|rfl|rfl|rfl<;>(unfold H7 a8r;simp [idx]))
 · intro h n hn;simp only [a8r,o6,a7l,or_false]at hn;rcases hn with rfl|rfl|rfl|rfl|rfl|rfl
   · exact h 0 (by decide)
   · exact h 1 (by decide)
   · exact h 2 (by decide)
   · exact h 3 (by decide)
   · exact h 4 (by decide)
   · exact h 5 (by decide)
theorem b9G {K:I36}:(∀l∈a8M K,a0M l)↔∀k,y8 k→a0M (a3h K k):=by
 constructor
 · intro h x hx;exact h _ (by rcases Q7 hx with rfl|rfl|rfl|rfl|rfl|rfl<;>(unfold a3h a8M;simp [idx]))
 · intro h n hn;simp only [a8M,o6,a7l,or_false]at hn;rcases hn with rfl|rfl|rfl|rfl|rfl|rfl
   · exact h 0 (by decide)
   · exact h 1 (by decide)
   · exact h 2 (by decide)
   · exact h 3 (by decide)
   · exact h 4 (by decide)
   · exact h 5 (by decide)
def kn1 (m:d8) (K:I36) (i:Nat):I36:=d0C K m.From (d0M (a3h K m.From) (i:Int) (if H7 m.Have (i:Int)>H7 (a3h K m.From) (i:Int)then H7 m.Have (i:Int)else H7 (a3h K m.From) (i:Int)))
def knK (m:d8) (K:I36) (k:Nat):I36:=(List.range k).foldl (kn1 m) K
def moK (a:Bool) (h c:I6) (k:Nat):Bool:=(List.range k).foldl (fun(a:Bool) (i:Nat)=>a||decide (H7 h (i:Int)>H7 c (i:Int))) a
theorem c8M (m:d8) (K:I36) (k:Nat):knK m K (k+1)=kn1 m (knK m K k) k:=by unfold knK;rw [List.range_succ,List.foldl_append];rfl
theorem c8F (a:Bool) (h c:I6) (k:Nat):moK a h c (k+1)=(moK a h c k||decide (H7 h (k:Int)>H7 c (k:Int))):=by unfold moK;rw [List.range_succ,List.foldl_append];rfl
theorem b8n (h c:I6):∀k,moK false h c k=true↔∃i:Nat,i<k∧H7 h (i:Int)>H7 c (i:Int)
 |0=>by simp [moK]
 |k+1=>by
  rw [c8F,Bool.or_eq_true,b8n h c k,A6];constructor
  · rintro(⟨i,h1,h2⟩|h)
    · exact⟨i,by omega,h2⟩
    · exact⟨k,by omega,h⟩
  · rintro⟨i,h1,h2⟩;rcases a3Y i k with h|h
    · exact .inl ⟨i,h,h2⟩
    · obtain rfl:i=k:=by omega
      exact .inr h2
theorem b9M (m:d8) (hf:y8 m.From) (me:Int) (b:o4) (w:List b9) (K:I36) (hw:Written w):r6 (J9 m) (false,0,⟨⟨me,b,w,K⟩⟩)=some (moK false m.Have (N7 w) 6,6,⟨⟨me,b,w,knK m K 6⟩⟩):=by
 have hwl:=hw.len
 exact a2N (body:=J9 m) (fun k=>(moK false m.Have (N7 w) k,(k:Int),(⟨⟨me,b,w,knK m K k⟩⟩:A3))) 6 (by omega) (moK false m.Have (N7 w) 6,6,⟨⟨me,b,w,knK m K 6⟩⟩) (fun k hk=>by
  have hk':y8 (k:Int):=by unfold y8;omega
  have hf':=hf;unfold y8 at hf';unfold J9;dsimp only;have e1:idx [m.Have.1,m.Have.2.1,m.Have.2.2.1,m.Have.2.2.2.1,m.Have.2.2.2.2.1,m.Have.2.2.2.2.2] (k:Int)=_:=c9h m.Have hk';have e2:idx [(knK m K k).1,(knK m K k).2.1,(knK m K k).2.2.1,(knK m K k).2.2.2.1,(knK m K k).2.2.2.2.1,(knK m K k).2.2.2.2.2] m.From=_:=d0a (knK m K k) hf;have e3:=c9h (a3h (knK m K k) m.From) hk';unfold a8r at e3;rw [j2 (by simp only [A6];omega),e1,j3,q9 (by omega),q9 (by omega),e2,j3,e3,j3,q9 (by omega),q9 (by omega)];simp only [j3];rw [e3,j3,a6w _ (by omega) (fun r hr=>hw.dep hr),j3,b3m _ hk',j3,W_s (by omega),c8M,c8F,a4G w hk'];by_cases hm:moK false m.Have (N7 w) k=true
  · rw [j2 hm,hm,Bool.true_or];rfl
  · rw [j0 hm,Bool.eq_false_iff.2 hm,Bool.false_or];rfl) (by unfold J9;dsimp only;rw [j0 (by decide)];rfl)
theorem c0V (k:A3) (h:I6) (hw:Written k.Depot.Written):P0 k h=some ((A9 k.Depot.Written (H7 h)).take 6):=by
 have hwl:=hw.len;have hsl:(w5 k.Depot.Written).length=k.Depot.Written.length:=(E0 _).length_eq
 have hdel:o9 (w5 k.Depot.Written) h=some (A9 k.Depot.Written (H7 h)):=
  c8s (fun x=>D5 x h) (p:=fun r=>decide (r.At.No<H7 h r.At.Depot)) _ (fun x hx=>by
   have hd:=hw.dep ((E0 _).mem_iff.1 hx);have hd':=hd;unfold y8 at hd';have e:=c9h h hd;unfold a8r at e;show D5 x h=_;unfold D5;rw [q9 (by omega),e,j3]) (by omega)
 have hbl:(A9 k.Depot.Written (H7 h)).length≤k.Depot.Written.length:=by
  unfold A9;have:=List.length_filter_le (fun r:b9=> !(decide (r.At.No<H7 h r.At.Depot))) (w5 k.Depot.Written);omega
 unfold P0 u5 j1;rw [q9 (by omega),j3];dsimp only;rw [hdel,j3]
 have hmin:(if 6<((A9 k.Depot.Written (H7 h)).length:Int)then(6:Int)else((A9 k.Depot.Written (H7 h)).length:Int))=((min 6 (A9 k.Depot.Written (H7 h)).length:Nat):Int):=by
  split<;>omega
 rw [hmin,q9 (by omega),j3]
 have hsub:sub (A9 k.Depot.Written (H7 h)) 0 ((min 6 (A9 k.Depot.Written (H7 h)).length:Nat):Int).toNat=(A9 k.Depot.Written (H7 h)).take 6:=by
  unfold sub;rw [a1M,a7k,a4K];rcases Nat.le_total 6 (A9 k.Depot.Written (H7 h)).length with h1|h1
  · rw [a0z h1]
  · rw [Nat.min_eq_right h1,a3n (u3 _),a3n h1]
 rw [hsub,q9 (by have:=List.length_take_le 6 (A9 k.Depot.Written (H7 h));omega),j3]
open Classical in noncomputable def recvS (d : c8) (m : d8) : c8 × List d8 × Int :=
  if a2x d then
    if b8E m ∧ m.To = d.Me then
      match P5 a6N m.Records (d.Box, d.Written) with
      | .inr e => (zD, [], e)
      | .inl s => (⟨d.Me, ⟨s.1.Thread ++ s.1.Loose, []⟩, s.2, knK m d.Known 6⟩,
          if ((A9 s.2 (H7 m.Have)).take 6).length = 0 ∧ s.2.length = d.Written.length ∧ moK false m.Have (N7 s.2) 6 = false then [] else [⟨d.Me, m.From, N7 s.2, (A9 s.2 (H7 m.Have)).take 6⟩], 0)
    else (zD, [], 86)
  else (zD, [], 85)
theorem a4D (d:c8) (m:d8) (h:SzD d) (hm:SzM m):L9 d m=some (recvS d m):=by
 have hb:=h.b;have hwl:=h.w;unfold L9 recvS;rw [isValid_eq d h,j3];by_cases hv:a2x d
 · rw [j0 (by simp [hv]),j2 hv,isMessage_eq m hm,j3];by_cases h1:b8E m
   · rw [j0 (by simp [h1])];by_cases h2:m.To=d.Me
     · rw [j0 (by simp [h2]),j2 ⟨h1,h2⟩];unfold a2c D8 k9 j1;rw [q9 (by omega),q9 (by omega),q9 (by omega)];simp only [j3];obtain⟨l1,l2⟩:=c0z d m hv.2.1 h1;cases hr:P5 a6N m.Records (d.Box,d.Written)with
       |inr e=>rw [l2 e hr];rfl
       |inl s=>
        rw [l1 s hr,j3];obtain⟨g1,g2⟩:=c6E m m.Records (d.Box,d.Written) ⟨hv.2.1,u3 _⟩ hr;have gl:=g1.len;have gw:=g1.1.len;dsimp only;unfold a0H I1;dsimp only;rw [c2L s.1 (by omega),j3,j3,b9M m h1.1 d.Me _ s.2 d.Known g1.1,j3];dsimp only;rw [a6w _ (by omega) (fun r hr=>g1.1.dep hr),j3,j3,c0V _ m.Have g1.1,j3];dsimp only;generalize (A9 s.2 (H7 m.Have)).take 6=B;by_cases c1:B.length=0
        · rw [j2 (by simpa using c1)]
          by_cases c2:s.2.length=d.Written.length
          · rw [j2 (by simp only [K4];omega)];by_cases c3:moK false m.Have (N7 s.2) 6=false
            · rw [j2 (by simp [c3]),j2 ⟨c1,c2,c3⟩]
            · rw [j0 (by simpa using c3),j0 (fun e=>c3 e.2.2)]
          · rw [j0 (by simp only [K4];omega),j0 (fun e=>c2 e.2.1)]
        · rw [j0 (by simp only [K4];omega),j0 (fun e=>c1 e.1)]
     · rw [j2 (by simpa using h2),j0 (fun e=>h2 e.2)]
   · rw [j2 (by simp [h1]),j0 (fun e=>h1 e.1)]
 · rw [j2 (by simp [hv]),j0 hv]
def I3 (i:Int):Prop:=0≤i∧i≤2
theorem I3.dep {i:Int} (h:I3 i):y8 i:=by unfold I3 at h;unfold y8;omega
theorem I3.cases {i:Int} (h:I3 i):i=0∨i=1∨i=2:=by unfold I3 at h;omega
def X8 (D:Int→c8) (f:Int→Nat) (h:Int):List b9:=(D h).Written.take (f h)
structure Inv (D:Int→c8) (f:Int→Nat) (n:Nat):Prop where
 bx:∀i,I3 i→Bx (D i).Box (D i).Written (f i)
 me:∀i,I3 i→(D i).Me=i
 dep:∀i,I3 i→∀r∈(D i).Written,I3 r.At.Depot∧(r.At.Depot≠i→r∈X8 D f r.At.Depot)
 kn:∀i,I3 i→∀k,y8 k→∀x,y8 x→0≤H7 (a3h (D i).Known k) x∧H7 (a3h (D i).Known k) x≤60∧(I3 k→H7 (a3h (D i).Known k) x≤((cnt (X8 D f k) x:Nat):Int))
 tot:cnt (D 0).Written 0+cnt (D 1).Written 1+cnt (D 2).Written 2≤n
structure Z1 (D:Int→c8) (f:Int→Nat) (m:d8):Prop where
 a:I3 m.From
 b:I3 m.To
 ne:m.From≠m.To
 l:m.Records.length≤6
 r:∀r∈m.Records,r∈X8 D f m.From
 h:∀x,y8 x→0≤H7 m.Have x∧H7 m.Have x≤((cnt (X8 D f m.From) x:Nat):Int)
def b0g (D:Int→c8):List b9:=(D 0).Written.filter (fun r=>r.At.Depot==0)++((D 1).Written.filter (fun r=>r.At.Depot==1)++(D 2).Written.filter (fun r=>r.At.Depot==2))
theorem c3n {D:Int→c8} {r:b9}:r∈b0g D↔I3 r.At.Depot∧r∈(D r.At.Depot).Written:=by
 unfold b0g;simp only [u4,a2r,K4];constructor
 · rintro(⟨h1,h2⟩|⟨h1,h2⟩|⟨h1,h2⟩)
   · rw [h2];exact⟨by unfold I3;omega,h1⟩
   · rw [h2];exact⟨by unfold I3;omega,h1⟩
   · rw [h2];exact⟨by unfold I3;omega,h1⟩
 · rintro⟨h1,h2⟩;rcases h1.cases with h|h|h
   · rw [h]at h2;exact .inl ⟨h2,h⟩
   · rw [h]at h2;exact .inr (.inl ⟨h2,h⟩)
   · rw [h]at h2;exact .inr (.inr ⟨h2,h⟩)
section
variable {D : Int → c8} {f : Int → Nat} {n : Nat} {i : Int}
theorem a5J {r:b9} (h:r∈X8 D f i):r∈(D i).Written:=a1P h
theorem Inv.truth_once (h:Inv D f n):a0I (b0g D):=by
 have h0:=(h.bx 0 (by unfold I3;omega)).w.once.filter (fun r=>r.At.Depot==0);have h1:=(h.bx 1 (by unfold I3;omega)).w.once.filter (fun r=>r.At.Depot==1);have h2:=(h.bx 2 (by unfold I3;omega)).w.once.filter (fun r=>r.At.Depot==2);unfold a0I b0g at*;rw [List.pairwise_append,List.pairwise_append];refine⟨h0,⟨h1,h2,fun a ha b hb e=> ?_⟩,fun a ha b hb e=> ?_⟩
 · have a1:=(a2r.1 ha).2;have b1:=(a2r.1 hb).2;simp only [K4]at a1 b1;rw [e]at a1;omega
 · have a1:=(a2r.1 ha).2;simp only [K4]at a1;rcases u4.1 hb with hb|hb
   · have b1:=(a2r.1 hb).2;simp only [K4]at b1;rw [e]at a1;omega
   · have b1:=(a2r.1 hb).2;simp only [K4]at b1;rw [e]at a1;omega
theorem Inv.truth_len (h:Inv D f n):(b0g D).length≤n:=by
 have:=h.tot;unfold b0g;simp only [I9,←List.countP_eq_length_filter];unfold cnt at this;omega
theorem Inv.truth_mem (h:Inv D f n) (hi:I3 i) {r:b9} (hr:r∈(D i).Written):r∈b0g D:=by
 obtain⟨h1,h2⟩:=h.dep i hi r hr;refine c3n.2 ⟨h1, ?_⟩;by_cases e:r.At.Depot=i
 · rw [e];exact hr
 · exact a5J (h2 e)
theorem Inv.wlen (h:Inv D f n) (hi:I3 i):(D i).Written.length≤n:=u2 (b4a (h.bx i hi).w.once fun _ hr=>h.truth_mem hi hr) h.truth_len
theorem Inv.valid (h:Inv D f n) (hi:I3 i):a2x (D i):=⟨by rw [h.me i hi];exact hi.dep,HB.of (h.bx i hi),b9G.2 fun k hk=>b3K.2 fun x hx=>⟨(h.kn i hi k hk x hx).1,(h.kn i hi k hk x hx).2.1⟩⟩
theorem b9W (h:Inv D f n) (hi:I3 i) (x:Int):cnt (X8 D f i) x≤60:=by
 have h1:=c0C (X8 D f i) x;have h2:=(h.bx i hi).w.len;have h3:=List.length_take_le (f i) (D i).Written;have h4:=List.length_take_le' (f i) (D i).Written;unfold X8 at h1⊢;omega
theorem Z1.v {m:d8} (h:Inv D f n) (hm:Z1 D f m):b8E m:=⟨hm.a.dep,hm.b.dep,hm.ne,b3K.2 fun x hx=>⟨(hm.h x hx).1,by have:=(hm.h x hx).2;have:=b9W h hm.a x;omega⟩,hm.l,fun r hr=>(h.bx _ hm.a).w.rec (a5J (hm.r r hr))⟩
def uq {α:Type} (D:Int→α) (i:Int) (d:α):Int→α:=fun k=>if k=i then d else D k
theorem I7 {α:Type} (D:Int→α) (i:Int) (d:α):uq D i d i=d:=j2 rfl
theorem S3 {α:Type} (D:Int→α) (i:Int) (d:α) {k:Int} (h:k≠i):uq D i d k=D k:=j0 h
theorem c1T {d:c8} {g:Nat} (hp:∃t,d.Written.take g=X8 D f i++t) (k:Int):∃t,X8 (uq D i d) (uq f i g) k=X8 D f k++t:=by
 unfold X8 at*;by_cases e:k=i
 · subst e;rw [I7,I7];exact hp
 · rw [S3 _ _ _ e,S3 _ _ _ e];exact⟨[],by simp⟩
theorem a7P {d:c8} {g:Nat} (hp:∃t,d.Written.take g=X8 D f i++t) {k:Int} {r:b9} (h:r∈X8 D f k):r∈X8 (uq D i d) (uq f i g) k:=by
 obtain⟨t,ht⟩:=c1T hp k;rw [ht];exact a1q _ h
theorem b1N {d:c8} {g:Nat} (hp:∃t,d.Written.take g=X8 D f i++t) (k x:Int):cnt (X8 D f k) x≤cnt (X8 (uq D i d) (uq f i g) k) x:=by
 obtain⟨t,ht⟩:=c1T hp k;rw [ht,b4t];omega
theorem Z1.up {d:c8} {g:Nat} (hp:∃t,d.Written.take g=X8 D f i++t) {m:d8} (hm:Z1 D f m):Z1 (uq D i d) (uq f i g) m:=
 ⟨hm.a,hm.b,hm.ne,hm.l,fun r hr=>a7P hp (hm.r r hr),fun x hx=>⟨(hm.h x hx).1,by have:=(hm.h x hx).2;have:=b1N hp m.From x;omega⟩⟩
theorem Inv.up (h:Inv D f n) (hi:I3 i) {d:c8} {g k:Nat} (hb:Bx d.Box d.Written g) (hm:d.Me=i) (hp:∃t,d.Written.take g=X8 D f i++t)
 (hd:∀r∈d.Written,I3 r.At.Depot∧(r.At.Depot≠i→r∈X8 D f r.At.Depot))
 (hk:∀k,y8 k→∀x,y8 x→0≤H7 (a3h d.Known k) x∧H7 (a3h d.Known k) x≤60∧(I3 k→H7 (a3h d.Known k) x≤((cnt (X8 D f k) x:Nat):Int)))
 (ht:cnt d.Written i≤cnt (D i).Written i+k):Inv (uq D i d) (uq f i g) (n+k):=by
 refine⟨fun j hj=> ?_,fun j hj=> ?_,fun j hj r hr=> ?_,fun j hj k hk' x hx=> ?_, ?_⟩
 · by_cases e:j=i
   · subst e;rw [I7,I7];exact hb
   · rw [S3 _ _ _ e,S3 _ _ _ e];exact h.bx j hj
 · by_cases e:j=i
   · subst e;rw [I7];exact hm
   · rw [S3 _ _ _ e];exact h.me j hj
 · by_cases e:j=i
   · subst e;rw [I7]at hr;obtain⟨h1,h2⟩:=hd r hr;exact⟨h1,fun hne=>a7P hp (h2 hne)⟩
   · rw [S3 _ _ _ e]at hr;obtain⟨h1,h2⟩:=h.dep j hj r hr;exact⟨h1,fun hne=>a7P hp (h2 hne)⟩
 · have hc:=b1N hp k x;by_cases e:j=i
   · subst e;rw [I7];obtain⟨h1,h2,h3⟩:=hk k hk' x hx;exact⟨h1,h2,fun h4=>by have:=h3 h4;omega⟩
   · rw [S3 _ _ _ e];obtain⟨h1,h2,h3⟩:=h.kn j hj k hk' x hx;exact⟨h1,h2,fun h4=>by have:=h3 h4;omega⟩
 · have:=h.tot;rcases hi.cases with rfl|rfl|rfl
   · rw [I7,S3 _ _ _ (by decide),S3 _ _ _ (by decide)];omega
   · rw [I7,S3 _ _ _ (by decide),S3 _ _ _ (by decide)];omega
   · rw [I7,S3 _ _ _ (by decide),S3 _ _ _ (by decide)];omega
def c2r (r:b9):Prop:=(1≤r.Kind∧r.Kind≤60)∧(0≤r.Day∧r.Day≤100000)∧(0≤r.Known∧r.Known≤100000)∧a3K r.Text∧r.Of=⟨0,0⟩
theorem Inv.note (h:Inv D f n) (hn:n≤40) (hi:I3 i) {r:b9} (hr:c2r r):∃d x,noteS (D i) r=(d,x,0)∧x.At.Depot=i∧Inv (uq D i d) (uq f i (f i)) (n+1)∧∀m,Z1 D f m→Z1 (uq D i d) (uq f i (f i)) m:=by
 have hb:=h.bx i hi;have hme:=h.me i hi;have hwl:=h.wlen hi;have hc:=c0C (D i).Written (D i).Me;have hi':=hi;unfold I3 at hi';obtain⟨r1,r2,r3,r4,r5⟩:=hr
 have hk:w7 (a0B (D i) r):=by
  unfold w7 a0B;refine⟨⟨⟨by dsimp only;omega,by dsimp only;omega⟩,by dsimp only;omega,by dsimp only;omega⟩,⟨by dsimp only;omega,by dsimp only;omega⟩,r2,r3,r4, ?_⟩;have:r.Kind≠0:=by omega
  simp [this,r5]
 have hx:U7 (D i).Written (a0B (D i) r):=⟨by omega,by unfold a0B;rfl⟩;obtain⟨hno,he⟩:=c1X hb.w hk hx;have hws:P9 (D i).Box (D i).Written (a0B (D i) r)=(⟨(D i).Box.Thread,(D i).Box.Loose++a2i (E4 (a0B (D i) r)) ((D i).Written.length:Int)⟩,(D i).Written++ [a0B (D i) r],0):=by unfold P9;rw [j0 hno,j2 he]
 have hpre:∃t,((D i).Written++ [a0B (D i) r]).take (f i)=X8 D f i++t:=⟨[],by rw [b0s hb.f,a8A];rfl⟩;refine⟨⟨(D i).Me,(P9 (D i).Box (D i).Written (a0B (D i) r)).1,(P9 (D i).Box (D i).Written (a0B (D i) r)).2.1,(D i).Known⟩,a0B (D i) r, ?_,hme, ?_⟩
 · unfold noteS;rw [j2 (h.valid hi),j2 he]
 · rw [hws];refine⟨h.up hi (hb.more hk hx) hme hpre (fun y hy=> ?_) (h.kn i hi) ?_,fun m hm=>hm.up hpre⟩
   · rcases u4.1 hy with hy|hy
     · exact h.dep i hi y hy
     · have:=V0.1 hy;subst this;exact⟨by show I3 (D i).Me;rw [hme];exact hi,fun hne=>absurd hme hne⟩
   · dsimp only;rw [a1H];split<;>omega
theorem Inv.tell (h:Inv D f n) (hi:I3 i) {to:Int} (ht:I3 to) (hne:to≠i):∃d m,tellS (D i) to=(d,m,0)∧d.Written=(D i).Written∧m=⟨i,to,N7 (D i).Written, []⟩∧Inv (uq D i d) (uq f i (D i).Written.length) n∧Z1 (uq D i d) (uq f i (D i).Written.length) m∧
 ∀m,Z1 D f m→Z1 (uq D i d) (uq f i (D i).Written.length) m:=by
 have hb:=h.bx i hi;have hme:=h.me i hi;have hpre:∃t,(D i).Written.take (D i).Written.length=X8 D f i++t:=⟨(D i).Written.drop (f i),by unfold X8;rw [a8C,a4u]⟩;refine⟨⟨(D i).Me,⟨(D i).Box.Thread++(D i).Box.Loose, []⟩,(D i).Written,(D i).Known⟩,⟨(D i).Me,to,N7 (D i).Written, []⟩, ?_,rfl,by rw [hme], ?_, ?_,fun m hm=>Z1.up (d:=⟨(D i).Me,⟨(D i).Box.Thread++(D i).Box.Loose, []⟩,(D i).Written,(D i).Known⟩) hpre hm⟩
 · unfold tellS;rw [j2 (h.valid hi),j2 ⟨ht.dep,by rw [hme];exact hne⟩]
 · exact h.up (k:=0) hi hb.bound hme hpre (h.dep i hi) (h.kn i hi) (by dsimp only;omega)
 · refine⟨by dsimp only;rw [hme];exact hi,ht,by dsimp only;rw [hme];exact fun e=>hne e.symm,by simp,(fun r hr=>by cases hr),fun x hx=> ?_⟩;dsimp only;rw [a4G _ hx,hme];unfold X8;rw [I7,I7,a4u];omega
theorem Inv.rest (h:Inv D f n) (hi:I3 i) (picks:List Int):∃d g,restS (D i) picks=(d,0)∧(∃t,d.Written=X8 D f i++t)∧Inv (uq D i d) (uq f i g) n∧∀m,Z1 D f m→Z1 (uq D i d) (uq f i g) m:=by
 have hb:=h.bx i hi;have hme:=h.me i hi;obtain⟨g,h1,h2,h3⟩:=hb.open_fall picks
 have hw:(D i).Written.take g=X8 D f i++((D i).Written.take g).drop (f i):=by
  unfold X8;have:=a8C (f i) ((D i).Written.take g);rw [a7g,a0z h1]at this;exact this.symm
 have hpre:∃t,((D i).Written.take g).take g=X8 D f i++t:=⟨_,by rw [a7g,Nat.min_self];exact hw⟩;refine⟨⟨(D i).Me,⟨ofF ((D i).Written.take g), []⟩,(D i).Written.take g,zT⟩,g, ?_,⟨_,hw⟩, ?_,fun m hm=>hm.up hpre⟩
 · unfold restS;rw [j2 (h.valid hi),h3]
 · refine h.up (k:=0) hi (hb.opened g h2) hme hpre (fun r hr=>h.dep i hi r (a1P hr)) (fun k hk x hx=> ?_) ?_
   · have e:H7 (a3h zT k) x=0:=by
      rcases Q7 hk with rfl|rfl|rfl|rfl|rfl|rfl<;>rcases Q7 hx with rfl|rfl|rfl|rfl|rfl|rfl<;>rfl
     dsimp only;rw [e];omega
   · have:=List.Sublist.countP_le (p:=fun r:b9=>r.At.Depot==i) (List.take_sublist g (D i).Written);unfold cnt;dsimp only;omega
theorem a9x {T:List b9} (hT:a0I T) (hl:T.length≤59):∀(rs:List b9) {b:o4} {w:List b9} {g:Nat},Bx b w g→(∀r∈w,r∈T)→(∀r∈rs,r∈T∧w7 r)→∃b',P5 a6N rs (b,w)= .inl (b',rs.foldl a0k w)∧Bx b' (rs.foldl a0k w) g
 | [],b,w,g,hb,_,_=>⟨b,rfl,hb⟩
 |r::rs,b,w,g,hb,hs,hr=>by
  obtain⟨r1,r2⟩:=hr r D7;have hr':∀r∈rs,r∈T∧w7 r:=fun x hx=>hr x (B4 _ hx)
  unfold P5 a6N;dsimp only;rw [List.foldl_cons];unfold a0k;by_cases h1:((cnt w r.At.Depot:Nat):Int)<r.At.No
  · rw [j2 h1,j2 (.inl h1)];exact a9x hT hl rs hb hs hr'
  · rw [j0 h1];by_cases h2:r∈w
    · rw [j2 (c2S hb.w h2),j2 (.inr h2)];unfold P9;rw [j2 h2];exact a9x hT hl rs hb hs hr'
    · have hn:=b9D hb.w hT hs hl r1 r2 h1 h2;obtain⟨_,he⟩:=c1X hb.w r2 hn;rw [j2 he,j0 (by rw [not_or];exact⟨h1,h2⟩)];unfold P9;rw [j0 h2,j2 he]
      exact a9x hT hl rs (hb.more r2 hn) (fun x hx=>by
       rcases u4.1 hx with hx|hx
       · exact hs x hx
       · rw [V0.1 hx];exact r1) hr'
theorem b8p (d:Int):∀(rs w:List b9),(∀r∈rs,r.At.Depot=d→r∈w)→cnt (rs.foldl a0k w) d=cnt w d
 | [],_,_=>rfl
 |r::rs,w,h=>by
  rw [List.foldl_cons]
  have h1:cnt (a0k w r) d=cnt w d:=by
   unfold a0k;split
   · rfl
   · rename_i hn;rw [not_or]at hn;rw [a1H,j0 (fun e=>hn.2 (h r D7 e))];rfl
  rw [b8p d rs (a0k w r) (fun x hx e=> ?_),h1];have:=h x (B4 _ hx) e;unfold a0k;split
  · exact this
  · exact a1q _ this
theorem b8F {m:d8} (hm:Z1 D f m) (h:Inv D f n) {K:I36} (hK:∀k,y8 k→∀x,y8 x→0≤H7 (a3h K k) x∧H7 (a3h K k) x≤60∧(I3 k→H7 (a3h K k) x≤((cnt (X8 D f k) x:Nat):Int))):
 ∀j,j≤6→∀k,y8 k→∀x,y8 x→0≤H7 (a3h (knK m K j) k) x∧H7 (a3h (knK m K j) k) x≤60∧(I3 k→H7 (a3h (knK m K j) k) x≤((cnt (X8 D f k) x:Nat):Int))
 |0,_=>hK
 |j+1,hj=>by
  intro k hk x hx;have ih:=b8F hm h hK j (by omega);have hj':y8 (j:Int):=by unfold y8;omega
  rw [c8M];unfold kn1;rw [c6h _ _ _ hk];by_cases e:k=m.From
  · subst e;rw [j2 rfl,c5p _ _ _ hx];by_cases e2:x=(j:Int)
    · subst e2;rw [j2 rfl];have h1:=ih m.From hk (j:Int) hj';have h2:=hm.h (j:Int) hj';have h3:=b9W h hm.a (j:Int);split
      · exact⟨h2.1,by omega,fun _=>h2.2⟩
      · exact h1
    · rw [j0 e2];exact ih m.From hk x hx
  · rw [j0 e];exact ih k hk x hx
theorem Inv.recv (h:Inv D f n) (hn:n≤40) {m:d8} (hm:Z1 D f m):∃d ms,recvS (D m.To) m=(d,ms,0)∧d.Written=m.Records.foldl a0k (D m.To).Written∧
 ms=(if((A9 d.Written (H7 m.Have)).take 6).length=0∧d.Written.length=(D m.To).Written.length∧moK false m.Have (N7 d.Written) 6=false then []else [⟨m.To,m.From,N7 d.Written,(A9 d.Written (H7 m.Have)).take 6⟩])∧
 Inv (uq D m.To d) (uq f m.To d.Written.length) n∧(∀x∈ms,Z1 (uq D m.To d) (uq f m.To d.Written.length) x)∧
 ∀x,Z1 D f x→Z1 (uq D m.To d) (uq f m.To d.Written.length) x:=by
 have hi:=hm.b;have hb:=h.bx _ hi;have hme:=h.me _ hi;have hv:=Z1.v h hm;have hT:=h.truth_once;have hTl:=h.truth_len;have hrs:∀r∈m.Records,r∈b0g D∧w7 r:=fun r hr=>⟨h.truth_mem hm.a (a5J (hm.r r hr)),hv.2.2.2.2.2 r hr⟩
 --a record that comes is X8 at its own depot
 have hown:∀r∈m.Records,I3 r.At.Depot∧r∈X8 D f r.At.Depot:=fun r hr=>by
  have h1:=hm.r r hr;obtain⟨g1,g2⟩:=h.dep _ hm.a r (a5J h1);refine⟨g1, ?_⟩;by_cases e:r.At.Depot=m.From
  · rw [e];exact h1
  · exact g2 e
 obtain⟨b',h1,h2⟩:=a9x hT (by omega) m.Records hb (fun r hr=>h.truth_mem hi hr) hrs;obtain⟨g1,g2,t,g3⟩:=a8y hT (by omega) m.Records hb.w (fun r hr=>h.truth_mem hi hr) hrs
 have hcn:=b8p m.To m.Records (D m.To).Written (fun r hr e=>by
  have:=(hown r hr).2;rw [e]at this;exact a5J this)
 generalize hW:m.Records.foldl a0k (D m.To).Written=w' at*
 have hpre:∃t,w'.take w'.length=X8 D f m.To++t:=by
  refine⟨(D m.To).Written.drop (f m.To)++t, ?_⟩;unfold X8;rw [a4u,g3,←a1V,a8C]
 refine⟨⟨(D m.To).Me,⟨b'.Thread++b'.Loose, []⟩,w',knK m (D m.To).Known 6⟩,_, ?_,rfl,rfl, ?_, ?_,fun x hx=>hx.up hpre⟩
 · unfold recvS;rw [j2 (h.valid hi),j2 ⟨hv,hme.symm⟩,h1,hme]
 · refine h.up (k:=0) hi h2.bound hme hpre (fun r hr=> ?_) (b8F hm h (h.kn _ hi) 6 (u3 _)) (by dsimp only;omega);rcases g2 r hr with h3|h3
   · exact h.dep _ hi r h3
   · exact⟨(hown r h3).1,fun _=>(hown r h3).2⟩
 · intro x hx;split at hx
   · cases hx
   · have:=V0.1 hx;subst this;refine⟨hi,hm.a,fun e=>hm.ne e.symm,List.length_take_le _ _,fun r hr=> ?_,fun x hx=> ?_⟩
     · have:=(a4k.1 (a1P hr)).1;unfold X8;rw [I7,I7,a4u];exact this
     · dsimp only;rw [a4G _ hx];unfold X8;rw [I7,I7,a4u];omega
end
end Go.Proofs.YtggdlgclohnbaaaGreatDoor
namespace Go.Proofs.YtggdlgclohnbaaaGreatDoor
open Go Go.RowKit Go.Sx
theorem a4L (D:Int→c8) {i:Int} (h:I3 i):idx [D 0,D 1,D 2] i=some (D i):=by
 rcases h.cases with rfl|rfl|rfl<;>rfl
theorem b0X (D:Int→c8) (i:Int) (y:c8):((if(i==0)=true then y else D 0),(if(i==1)=true then y else D 1),(if(i==2)=true then y else D 2))=(uq D i y 0,uq D i y 1,uq D i y 2):=by
 rw [b9X i 0,b9X i 1,b9X i 2];rfl
theorem b7V {me b:Int} (h:I3 me) (hb:0≤b∧b≤1):I3 ((W ((W (me+1))+b)).tmod 3)∧(W ((W (me+1))+b)).tmod 3≠me:=by
 have hb':b=0∨b=1:=by omega
 unfold I3;rcases h.cases with rfl|rfl|rfl<;>rcases hb' with rfl|rfl<;>decide
theorem Inv.more {D:Int→c8} {f:Int→Nat} {n m:Nat} (h:Inv D f n) (hm:n≤m):Inv D f m:=⟨h.bx,h.me,h.dep,h.kn,u2 h.tot hm⟩
theorem c5S (n:N5) (h:d2o n):∃r,a4S n=some r∧c2r r:=by
 obtain⟨t,h1,h2⟩:=c4V n.2.2.2.2 h.2.2.2.2;unfold a4S;rw [a4o n.2.1 9 h.2.1 (by omega),j3,a4o n.2.2.1 50 h.2.2.1 (by omega),j3,a4o n.2.2.2.1 50 h.2.2.2.1 (by omega),j3,h1,j3];refine⟨_,rfl, ?_⟩;have a1:=Int.emod_nonneg n.2.1 (b:=9) (by omega);have a2:=b1t n.2.1 (b:=9) (by omega);have b1:=Int.emod_nonneg n.2.2.1 (b:=50) (by omega);have b2:=b1t n.2.2.1 (b:=50) (by omega);have c1:=Int.emod_nonneg n.2.2.2.1 (b:=50) (by omega);have c2:=b1t n.2.2.2.1 (b:=50) (by omega);refine⟨?_,⟨by dsimp only;omega,by dsimp only;omega⟩,⟨by dsimp only;omega,by dsimp only;omega⟩,h2,rfl⟩;dsimp only;rw [a5r (by omega)];omega
structure St (D:Int→c8) (f:Int→Nat) (l:List d8) (n:Nat):Prop where
 inv:Inv D f n
 ms:∀m∈l,Z1 D f m
 len:l.length≤n
theorem St.more {D:Int→c8} {f:Int→Nat} {ms:List d8} {n m:Nat} (h:St D f ms n) (hm:n≤m):St D f ms m:=⟨h.inv.more hm,h.ms,u2 h.len hm⟩
theorem c5y {x:Int} {m:Nat} (h:0<m):0≤x % (m:Int)∧x % (m:Int)<(m:Int):=⟨Int.emod_nonneg _ (by omega),b1t _ (by omega)⟩
theorem d1s (x:Int):I3 (x % 3):=by unfold I3;omega
theorem d1j (x:Int):0≤x % 2∧x % 2≤1:=by omega
theorem c1Y {α:Type} {l:List α} {a b:Nat} {x:α} (h:x∈l.take a++l.drop b):x∈l:=by
 rcases u4.1 h with h|h
 · exact a1P h
 · exact a5x h
def a6n (i:Int):c8:=⟨i,⟨[], []⟩, [],zT⟩
theorem b9N {k x:Int} (hk:y8 k) (hx:y8 x):H7 (a3h zT k) x=0:=by
 rcases Q7 hk with rfl|rfl|rfl|rfl|rfl|rfl<;>rcases Q7 hx with rfl|rfl|rfl|rfl|rfl|rfl<;>rfl
theorem c7B:St a6n (fun _=>0) [] 0:=by
 refine⟨⟨fun i _=>Bx.nil,fun i _=>rfl,(fun i _ r hr=>nomatch hr),fun i _ k hk x hx=> ?_,by simp [a6n,cnt]⟩,(fun m hm=>nomatch hm),by simp⟩;show 0≤H7 (a3h zT k) x∧_;rw [show H7 (a3h (a6n i).Known k) x=0 from b9N hk hx,b9N hk hx];omega
theorem c4L (l:List a1c) (a0D:List d8) (k:Nat) (hk:k<l.length) (hk14:k<14) (hy:a1c.G l[k]) {D:Int→c8} {f:Int→Nat} {ms:List d8} (h:St D f ms k):
 ∃D' f' ms',L8 l (a0D,(k:Int),(D 0,D 1,D 2),ms)=some (.inl (a0D,((k+1:Nat):Int),(D' 0,D' 1,D' 2),ms'))∧St D' f' ms' (k+1):=by
 obtain⟨hkd,hde,hto,hrec,hpk⟩:=hy;have hrb:reachBytes≤9223372036854775800:=by decide
 have pk1:b6T l[k].Picks:=fun x hx=>hpk.2.2 x hx
 have pk2:l[k].Picks.length≤9223372036854775800:=by omega
 have hme:=d1s l[k].Depot;have hme':=hme;unfold I3 at hme';have hlen:=h.len;unfold L8;dsimp only;rw [j2 (by simp only [A6];omega),j2 (by simp only [A6];omega),Y0 hk,j3,a4o _ 3 hde (by omega),j3,a4o _ 8 hkd (by omega),j3];generalize l[k].Depot % 3=me at hme hme';by_cases h3:l[k].Kind % 8=3
 · rw [j2 (by simpa using h3)]
   obtain⟨t1,t2⟩:=b7V hme (d1j l[k].To);rw [q9 (by omega),a4L D hme,j3,a4o _ 2 hto (by omega),j3,a9M _ _ (h.inv.valid hme).sz];obtain⟨d,m,e1,_,_,e2,e3,e4⟩:=h.inv.tell hme t1 t2;rw [e1,j3];dsimp only;rw [j0 (by decide),q9 (by omega)];simp only [j3];rw [q9 (by simp only [P3,a1r];omega),b0X,W_s (by omega)];refine⟨_,_,_,rfl,e2.more (Nat.le_succ k),fun x hx=> ?_,by simp only [I9,P3,a1r];omega⟩;rcases u4.1 hx with hx|hx
   · exact e4 x (h.ms x hx)
   · rw [V0.1 hx];exact e3
 rw [j0 (by simpa using h3)]
 by_cases h4:l[k].Kind % 8=4
 · rw [j2 (by simpa using h4)]
   obtain⟨t1,t2⟩:=b7V hme (d1j l[k].To);rw [q9 (by omega),a4L D hme,j3,a4o _ 2 hto (by omega),j3,a9M _ _ (h.inv.valid hme).sz];obtain⟨d,m,e1,_,_,e2,e3,e4⟩:=h.inv.tell hme t1 t2;rw [e1,j3];dsimp only;rw [j0 (by decide),q9 (by omega)];simp only [j3];rw [q9 (by simp only [P3,a1r];omega),b0X,W_s (by omega)];refine⟨_,_,_,rfl,e2.more (Nat.le_succ k),fun x hx=> ?_,by simp only [I9,P3,a1r];omega⟩;rcases u4.1 hx with hx|hx
   · exact e4 x (h.ms x hx)
   · rw [V0.1 hx];exact e3
 rw [j0 (by simpa using h4)]
 by_cases h5:l[k].Kind % 8=5
 · rw [j2 (by simpa using h5)]
   by_cases h0:ms.length=0
   · rw [j2 (by simpa using h0),W_s (by omega)]
     exact⟨_,_,_,rfl,h.more (Nat.le_succ k)⟩
   · obtain⟨q1,q2⟩:=c5y (x:=l[k].To) (m:=ms.length) (by omega);rw [j0 (by simp only [K4];omega),a4o _ (ms.length:Int) hto (by omega),j3];obtain⟨q,hq⟩:∃q:Nat,l[k].To % (ms.length:Int)=(q:Int):=⟨(l[k].To % (ms.length:Int)).toNat,by omega⟩;rw [hq]at q1 q2⊢;have hql:q<ms.length:=by omega
     rw [Y0 hql,j3,j3];have hm:=h.ms ms[q] (a2k hql);have hi:=hm.b;have hi':=hi;unfold I3 at hi';rw [j0 (by simp only [A6];omega),j0 (by simp only [A6];omega),q9 (by omega),a4L D hi,j3,a4D _ _ (h.inv.valid hi).sz (Z1.v h.inv hm).sz];obtain⟨d,a0F,e1,_,eb,e2,e3,e4⟩:=h.inv.recv (by omega) hm;have hbl:a0F.length≤1:=by rw [eb];split<;>simp
     rw [e1,j3];dsimp only;rw [j0 (by decide),j0 (by simp only [A6];omega),q9 (by omega)];simp only [j3];rw [b0X,W_s (k:=k) (by omega)];by_cases hpar:l[k].Depot.tmod 2=0
     · have c1:sub ms 0 ((q:Int)).toNat=ms.take q:=by unfold sub;rw [a1M,a7k,a4K]
       have c2:sub ms (((q+1:Nat):Int)).toNat ms.length=ms.drop (q+1):=by unfold sub;rw [a1M,a3n (by simp)]
       rw [j2 (by simpa using hpar),q9 (by omega),W_s (k:=q) (by omega)]
       rw [q9 (by omega),q9 (by simp only [a1r,a1M];omega),c1,c2,q9 (by simp only [a1M,V2];omega),q9 (by simp only [I9,V2,b0m];omega)];refine⟨_,_,_,rfl,e2.more (Nat.le_succ k),fun x hx=> ?_,by simp only [I9,V2,b0m];omega⟩;rcases u4.1 hx with hx|hx
       · exact e4 x (h.ms x (c1Y hx))
       · exact e3 x hx
     · rw [j0 (by simpa using hpar),q9 (by omega)]
       refine⟨_,_,_,rfl,e2.more (Nat.le_succ k),fun x hx=> ?_,by simp only [I9];omega⟩;rcases u4.1 hx with hx|hx
       · exact e4 x (h.ms x hx)
       · exact e3 x hx
 rw [j0 (by simpa using h5)]
 by_cases h6:l[k].Kind % 8=6
 · rw [j2 (by simpa using h6)]
   by_cases h0:ms.length=0
   · rw [j2 (by simpa using h0),W_s (by omega)]
     exact⟨_,_,_,rfl,h.more (Nat.le_succ k)⟩
   · obtain⟨q1,q2⟩:=c5y (x:=l[k].To) (m:=ms.length) (by omega);rw [j0 (by simp only [K4];omega),a4o _ (ms.length:Int) hto (by omega),j3];obtain⟨q,hq⟩:∃q:Nat,l[k].To % (ms.length:Int)=(q:Int):=⟨(l[k].To % (ms.length:Int)).toNat,by omega⟩;rw [hq]at q1 q2⊢;have hql:q<ms.length:=by omega
     rw [Y0 hql,j3,j3];have hm:=h.ms ms[q] (a2k hql);have hi:=hm.b;have hi':=hi;unfold I3 at hi';rw [j0 (by simp only [A6];omega),j0 (by simp only [A6];omega),q9 (by omega),a4L D hi,j3,a4D _ _ (h.inv.valid hi).sz (Z1.v h.inv hm).sz];obtain⟨d,a0F,e1,_,eb,e2,e3,e4⟩:=h.inv.recv (by omega) hm;have hbl:a0F.length≤1:=by rw [eb];split<;>simp
     rw [e1,j3];dsimp only;rw [j0 (by decide),j0 (by simp only [A6];omega),q9 (by omega)];simp only [j3];rw [b0X,W_s (k:=k) (by omega)];by_cases hpar:l[k].Depot.tmod 2=0
     · have c1:sub ms 0 ((q:Int)).toNat=ms.take q:=by unfold sub;rw [a1M,a7k,a4K]
       have c2:sub ms (((q+1:Nat):Int)).toNat ms.length=ms.drop (q+1):=by unfold sub;rw [a1M,a3n (by simp)]
       rw [j2 (by simpa using hpar),q9 (by omega),W_s (k:=q) (by omega)]
       rw [q9 (by omega),q9 (by simp only [a1r,a1M];omega),c1,c2,q9 (by simp only [a1M,V2];omega),q9 (by simp only [I9,V2,b0m];omega)];refine⟨_,_,_,rfl,e2.more (Nat.le_succ k),fun x hx=> ?_,by simp only [I9,V2,b0m];omega⟩;rcases u4.1 hx with hx|hx
       · exact e4 x (h.ms x (c1Y hx))
       · exact e3 x hx
     · rw [j0 (by simpa using hpar),q9 (by omega)]
       refine⟨_,_,_,rfl,e2.more (Nat.le_succ k),fun x hx=> ?_,by simp only [I9];omega⟩;rcases u4.1 hx with hx|hx
       · exact e4 x (h.ms x hx)
       · exact e3 x hx
 rw [j0 (by simpa using h6)]
 by_cases h7:l[k].Kind % 8=7
 · rw [j2 (by simpa using h7)]
   rw [q9 (by omega),a4L D hme,j3,b8A _ _ (h.inv.valid hme).sz pk1 pk2];obtain⟨d,g,e1,_,e2,e4⟩:=h.inv.rest hme l[k].Picks;rw [e1,j3];dsimp only;rw [j0 (by decide),q9 (by omega)];simp only [j3];rw [b0X,W_s (by omega)];exact⟨_,_,_,rfl,e2.more (Nat.le_succ k),fun x hx=>e4 x (h.ms x hx),by omega⟩
 rw [j0 (by simpa using h7)]
 obtain⟨r,r1,r2⟩:=c5S l[k].Record hrec;rw [q9 (by omega),a4L D hme,j3,r1,j3,c6u _ _ (h.inv.valid hme).sz (by have:=r2.2.2.2.1.1;omega)];obtain⟨d,x,e1,ex,e2,e4⟩:=h.inv.note (by omega) hme r2;rw [e1,j3];dsimp only;rw [j0 (by decide),j0 (by simp [ex]),q9 (by omega)];simp only [j3];rw [b0X,W_s (by omega)];exact⟨_,_,_,rfl,e2,fun x hx=>e4 x (h.ms x hx),by omega⟩
theorem c5v:r6 Y2 (0,(zD,zD,zD))=some (.inl (3,(a6n 0,a6n 1,a6n 2))):=by
 have key:=a2N (body:=Y2) (fun k=>match k with|0=>(0,(zD,zD,zD))|1=>(1,(a6n 0,zD,zD))|2=>(2,(a6n 0,a6n 1,zD))|_=>(3,(a6n 0,a6n 1,a6n 2))) 3 (by omega) (.inl (3,(a6n 0,a6n 1,a6n 2))) (fun k hk=>by
  have:k=0∨k=1∨k=2:=by omega
  rcases this with rfl|rfl|rfl<;>rfl) rfl
 exact key
theorem c3A (l:List a1c) (hl:l.length≤9223372036854775800) (hy:∀y∈l,a1c.G y):∃D f ms,a3y l=some ((D 0,D 1,D 2),true)∧St D f ms 14:=by
 obtain⟨e,h1,D,f,ms,a0D,i,he,h2⟩:=a0w (body:=L8 l) (fun st=>∃(D:Int→c8) (f:Int→Nat) (ms a0D:List d8) (k:Nat),st=(a0D,(k:Int),(D 0,D 1,D 2),ms)∧St D f ms k∧k≤14∧k≤l.length) (fun st=>15-st.2.1.toNat)
  (fun e=>∃(D:Int→c8) (f:Int→Nat) (ms a0D:List d8) (i:Int),e= .inl (a0D,i,(D 0,D 1,D 2),ms)∧St D f ms 14) (by
  rintro st ⟨D,f,ms,a0D,k,rfl,h,hk14,hkl⟩;rcases a3Y k l.length with hlt|hge
  · rcases a3Y k 14 with h14|h14
    · right;obtain⟨D',f',ms',e1,e2⟩:=c4L l a0D k hlt h14 (hy _ (a2k hlt)) h;exact⟨_,e1,⟨D',f',ms',a0D,k+1,rfl,e2,by omega,by omega⟩,by dsimp only;omega⟩
    · left;refine⟨.inl (a0D,(k:Int),(D 0,D 1,D 2),ms), ?_,D,f,ms,a0D,(k:Int),rfl,h.more hk14⟩;unfold L8;dsimp only;rw [j2 (by simp only [A6];omega),j0 (by simp only [A6];omega)]
  · left;refine⟨.inl (a0D,(k:Int),(D 0,D 1,D 2),ms), ?_,D,f,ms,a0D,(k:Int),rfl,h.more hk14⟩;unfold L8;dsimp only;rw [j0 (by simp only [A6];omega)]) ([],0,(a6n 0,a6n 1,a6n 2), []) ⟨a6n,fun _=>0, [], [],0,rfl,c7B,by omega,by omega⟩ (by unfold a2n;simp only [Int.toNat_zero];omega)
 subst he;refine⟨D,f,ms, ?_,h2⟩;unfold a3y;have h0:r6 Y2 (0,((⟨0,(⟨[], []⟩:o4), [],zT⟩:c8),(⟨0,(⟨[], []⟩:o4), [],zT⟩:c8),(⟨0,(⟨[], []⟩:o4), [],zT⟩:c8)))=_:=c5v;rw [h0,j3];dsimp only;rw [h1,j3]
theorem a5X {l:List b9} (h:Written l):O9 l=some (⟨w5 l⟩,0):=by
 have:=h.len;unfold O9 u5;rw [areWritten_eq l (by omega) (fun r hr=>by have:=S4 (h.rec hr);omega),j3,j0 (by simp [h]),q9 (by omega)];rfl
def E3 (U w:List b9):Nat:=U.countP fun r=> !(decide (r∈w))
theorem b1m {U w:List b9}:E3 U w=0↔∀r∈U,r∈w:=by
 unfold E3;rw [List.countP_eq_zero];simp
theorem b1e {U w v:List b9} (h:∀r∈w,r∈v):E3 U v≤E3 U w:=by
 unfold E3;refine List.countP_mono_left fun r _ hr=> ?_
 simp only [a3q,b3f]at hr⊢;exact fun hw=>hr (h r hw)
theorem c7H {U w v:List b9} (h:∀r∈w,r∈v) {x:b9} (hx:x∈U) (h1:x∉w) (h2:x∈v):E3 U v<E3 U w:=by
 obtain⟨a,b,rfl⟩:=List.append_of_mem hx;have ha:=b1e (U:=a) h;have hb:=b1e (U:=b) h;unfold E3 at*;simp only [b0Q,List.countP_cons,h1,h2,V5,a0O,a1x,a5C,C7,J4,F7];omega
theorem c0e:∀ {U p q:List b9},(∀r∈U,r∈p∨r∈q)→E3 U p+E3 U q≤U.length
 | [],_,_,_=>by simp [E3]
 |x::U,p,q,h=>by
  have ih:=c0e (U:=U) (p:=p) (q:=q) fun r hr=>h r (B4 _ hr)
  unfold E3 at*;simp only [List.countP_cons,P3];rcases h x D7 with h1|h1
  · simp only [h1,V5,a1x,J4,F7];split<;>omega
  · simp only [h1,V5,a1x,J4,F7];split<;>omega
structure Ex (D:Int→c8) (f:Int→Nat) (a b:Int) (U:List b9):Prop where
 inv:Inv D f 14
 ia:I3 a
 ib:I3 b
 ne:a≠b
 oU:a0I U
 lU:U.length≤14
 sa:∀r∈(D a).Written,r∈U
 sb:∀r∈(D b).Written,r∈U
 cov:∀r∈U,r∈(D a).Written∨r∈(D b).Written
section
variable {D : Int → c8} {f : Int → Nat} {a b p q : Int} {U : List b9}
theorem Ex.swap (h:Ex D f a b U):Ex D f b a U:=⟨h.inv,h.ib,h.ia,h.ne.symm,h.oU,h.lU,h.sb,h.sa,fun r hr=>(h.cov r hr).symm⟩
theorem a9l {v w:List b9} (hv:Written v):A9 v (H7 (N7 w))=A9 v (fun d=>((cnt w d:Nat):Int)):=by
 unfold A9;refine List.filter_congr fun r hr=> ?_
 rw [a4G w (hv.dep ((E0 v).mem_iff.1 hr))]
theorem Ex.beyond (h:Ex D f p q U) {r:b9}:r∈A9 (D p).Written (H7 (N7 (D q).Written))↔r∈U∧r∉(D q).Written:=by
 have hp:=(h.inv.bx _ h.ia).w;have hq:=(h.inv.bx _ h.ib).w;rw [a9l hp,a4k];constructor
 · rintro⟨h1,h2⟩;exact⟨h.sa r h1,fun h3=>by have:=hq.lt h3;omega⟩
 · rintro⟨h1,h2⟩;have h3:r∈(D p).Written:=(h.cov r h1).resolve_right h2;refine⟨h3, ?_⟩;rcases(show r.At.No<((cnt (D q).Written r.At.Depot:Nat):Int)∨((cnt (D q).Written r.At.Depot:Nat):Int)≤r.At.No by omega)with h4|h4
   · exfalso;have h0:0≤r.At.No:=(hp.rec h3).1.2.1;obtain⟨x,g1,g2⟩:=hq.item (d:=r.At.Depot) (n:=r.At.No.toNat) (by omega);rw [a9E h0]at g2;exact h2 (b2P h.oU h1 (h.sb x g1) g2.symm▸g1)
   · exact h4
theorem Ex.more (h:Ex D f p q U):moK false (N7 (D p).Written) (N7 (D q).Written) 6=false↔E3 U (D q).Written=0:=by
 have hp:=(h.inv.bx _ h.ia).w;have hq:=(h.inv.bx _ h.ib).w;rw [b1m,←Bool.not_eq_true,b8n];constructor
 · intro hno r hr;refine a6M fun h2=> ?_
   have h1:=h.beyond.2 ⟨hr,h2⟩;rw [a9l hp,a4k]at h1;have hd:=hp.dep h1.1;have hd':=hd;unfold y8 at hd';have hlt:=hp.lt h1.1;refine hno ⟨r.At.Depot.toNat,by omega, ?_⟩;rw [a9E hd'.1,a4G _ hd,a4G _ hd];omega
 · rintro hall ⟨i,hi,hgt⟩;have hd:y8 (i:Int):=by unfold y8;omega
   rw [a4G _ hd,a4G _ hd]at hgt;obtain⟨x,g1,g2⟩:=hp.item (d:=(i:Int)) (n:=cnt (D q).Written (i:Int)) (by omega);have:=hq.lt (hall x (h.sa x g1));rw [g2]at this;dsimp only at this;omega
theorem Ex.none (h:Ex D f p q U):((A9 (D p).Written (H7 (N7 (D q).Written))).take 6).length=0↔E3 U (D q).Written=0:=by
 rw [b1m];constructor
 · intro h0 r hr;refine a6M fun h2=> ?_
   have h1:=h.beyond.2 ⟨hr,h2⟩;rw [V2]at h0;have:=List.length_pos_of_mem h1;omega
 · intro hall;rw [List.length_eq_zero_iff];refine List.eq_nil_iff_forall_not_mem.2 fun r hr=> ?_
   obtain⟨h1,h2⟩:=h.beyond.1 (a1P hr);exact h2 (hall r h1)
structure c8p (D:Int→c8) (f:Int→Nat) (U:List b9) (m:d8):Prop where
 ex:Ex D f m.From m.To U
 have_:m.Have=N7 (D m.From).Written
 rc:m.Records= []∨m.Records=(A9 (D m.From).Written (H7 (N7 (D m.To).Written))).take 6
 ok:Z1 D f m
def muN (lp lq:Nat) (R:List b9):Nat:=if lp+lq=0 then 1 else if R.length=0 then(if lp=0 then 2+2*(lp+lq)else 1+2*(lp+lq))else 2*(lp+lq)
theorem c3Q {m:d8} (h:c8p D f U m):∃d ms g,recvS (D m.To) m=(d,ms,0)∧Ex (uq D m.To d) g m.From m.To U∧(E3 U (D m.To).Written=0→m.Records.length=0)∧
 E3 U ((uq D m.To d) m.From).Written=E3 U (D m.From).Written∧E3 U ((uq D m.To d) m.To).Written≤E3 U (D m.To).Written∧
 ((ms= []∧E3 U ((uq D m.To d) m.From).Written+E3 U ((uq D m.To d) m.To).Written=0)∨
  ∃m',ms= [m']∧m'.From=m.To∧m'.To=m.From∧c8p (uq D m.To d) g U m'∧muN (E3 U ((uq D m.To d) m'.From).Written) (E3 U ((uq D m.To d) m'.To).Written) m'.Records+1≤muN (E3 U (D m.From).Written) (E3 U (D m.To).Written) m.Records):=by
 have hx:=h.ex;have hm:=h.ok;have hwp:=(hx.inv.bx _ hx.ia).w;have hwq:=(hx.inv.bx _ hx.ib).w;obtain⟨d,ms,e1,ew,eb,hinv,hmsg,_⟩:=hx.inv.recv (by omega) hm;have hne:=hx.ne;have hP:uq D m.To d m.From=D m.From:=S3 _ _ _ hne;have hQ:uq D m.To d m.To=d:=I7 _ _ _;have hrp:∀r∈m.Records,r∈(D m.From).Written:=fun r hr=>a5J (hm.r r hr)
 --all that come are taken
 have ew':d.Written=(D m.To).Written++m.Records:=by
  rw [ew];rcases h.rc with hr|hr
  · rw [hr];simp
  · rw [hr,a9l hwp];exact b9A hwq hwp hx.oU (by have:=hx.lU;omega) hx.sb hx.sa 6
 have hsub:∀r∈(D m.To).Written,r∈d.Written:=fun r hr=>by rw [ew'];exact a1q _ hr
 have hex:Ex (uq D m.To d) (uq f m.To d.Written.length) m.From m.To U:=by
  refine⟨hinv,hx.ia,hx.ib,hne,hx.oU,hx.lU,fun r hr=>hx.sa r (by rwa [hP]at hr),fun r hr=> ?_,fun r hr=> ?_⟩
  · rw [hQ,ew']at hr;rcases u4.1 hr with hr|hr
    · exact hx.sb r hr
    · exact hx.sa r (hrp r hr)
  · rw [hP,hQ];exact(hx.cov r hr).imp id (hsub r)
 have hle:E3 U d.Written≤E3 U (D m.To).Written:=b1e hsub
 have hlt:m.Records.length≠0→E3 U d.Written<E3 U (D m.To).Written:=fun h0=>by
  obtain⟨x,hxm⟩:=List.exists_mem_of_length_pos (show 0<m.Records.length by omega);rcases h.rc with hr|hr
  · rw [hr]at h0;exact absurd rfl h0
  · have h1:=hxm;rw [hr]at h1;obtain⟨g1,g2⟩:=hx.beyond.1 (a1P h1);exact c7H hsub g1 g2 (by rw [ew'];exact a3e _ hxm)
 have heq:m.Records.length=0→E3 U d.Written=E3 U (D m.To).Written:=fun h0=>by rw [ew',a3t h0,a8A]
 have hlen:d.Written.length=(D m.To).Written.length↔m.Records.length=0:=by rw [ew',I9];omega
 have hmore:=hex.more;rw [hP,hQ]at hmore;have hnone:=hex.swap.none;rw [hP,hQ]at hnone;rw [h.have_]at eb;refine⟨d,ms,uq f m.To d.Written.length,e1,hex,fun h0=> ?_,by rw [hP],by rw [hQ];exact hle, ?_⟩
 · refine a6M fun h1=> ?_
   have:=hlt h1;omega
 · by_cases hc:((A9 d.Written (H7 (N7 (D m.From).Written))).take 6).length=0∧d.Written.length=(D m.To).Written.length∧moK false (N7 (D m.From).Written) (N7 d.Written) 6=false
   · left;rw [j2 hc]at eb;obtain⟨c1,c2,c3⟩:=hc;exact⟨eb,by rw [hP,hQ,hnone.1 c1,hmore.1 c3]⟩
   · right;rw [j0 hc]at eb;refine⟨_,eb,rfl,rfl,⟨hex.swap,by dsimp only;rw [hQ], .inr (by dsimp only;rw [hP,hQ]),hmsg _ (by rw [eb];exact D7)⟩, ?_⟩;dsimp only;rw [hP,hQ];rw [hnone,hlen,hmore]at hc;unfold muN;generalize ((A9 d.Written (H7 (N7 (D m.From).Written))).take 6).length=N at*;generalize E3 U d.Written=lq' at*;generalize E3 U (D m.From).Written=lp at*;generalize E3 U (D m.To).Written=lq at*;generalize m.Records.length=R at*;by_cases hR:R=0
     · have:=heq hR;subst this;by_cases hp:lp=0
       · by_cases hq:lq'=0
         · exact absurd ⟨hp,hR,hq⟩ hc
         · rw [j0 (by omega),j2 (hnone.2 hp),j0 hq,j0 (by omega),j2 hR,j2 hp];omega
       · rw [j0 (by omega),j0 (fun e=>hp (hnone.1 e)),j0 (by omega),j2 hR,j0 hp];omega
     · have:=hlt hR;rw [j0 (show¬(lp+lq=0) by omega),j0 hR];by_cases hp:lp=0
       · by_cases hq:lq'=0
         · rw [j2 (by omega)];omega
         · rw [j0 (by omega),j2 (hnone.2 hp),j0 hq];omega
       · rw [j0 (by omega),j0 (fun e=>hp (hnone.1 e))];omega
theorem b6l (h:Ex D f a b U):∃d m g,tellS (D a) b=(d,m,0)∧c8p (uq D a d) g U m∧m.From=a∧m.To=b∧m.Records= []∧E3 U ((uq D a d) a).Written=E3 U (D a).Written∧(uq D a d) b=D b∧
 muN (E3 U ((uq D a d) a).Written) (E3 U ((uq D a d) b).Written) m.Records≤30:=by
 obtain⟨d,m,e1,ew,em,hinv,hmsg,_⟩:=h.inv.tell h.ia h.ib h.ne.symm;have hb:uq D a d b=D b:=S3 _ _ _ h.ne.symm;have ha:uq D a d a=d:=I7 _ _ _;have hex:Ex (uq D a d) (uq f a (D a).Written.length) a b U:=⟨hinv,h.ia,h.ib,h.ne,h.oU,h.lU,by rw [ha,ew];exact h.sa,by rw [hb];exact h.sb,by rw [ha,hb,ew];exact h.cov⟩;have hs:=c0e h.cov;have hl:=h.lU;subst em;refine⟨d,_,_,e1,⟨hex,by dsimp only;rw [ha,ew], .inl rfl,hmsg⟩,rfl,rfl,rfl,by rw [ha,ew],hb, ?_⟩;rw [ha,ew,hb];unfold muN;dsimp only;rw [j2 (show([]:List b9).length=0 from rfl)];split
 · omega
 · split<;>omega
end
end Go.Proofs.YtggdlgclohnbaaaGreatDoor
namespace Go.Proofs.YtggdlgclohnbaaaGreatDoor
open Go Go.Sx
def RS:b9:=⟨⟨2,0⟩,5,10,12,⟨0,0⟩,⟨#[97,32,108,97,109,112,32,111,110,32,116,104,101,32,113,117,97,121]⟩⟩
def TS:ByteArray:=⟨#[50,32,48,32,53,32,49,48,32,49,50,32,48,32,48,32,97,32,108,97,109,112,32,111,110,32,116,104,101,32,113,117,97,121]⟩
def T0:ByteArray:=⟨#[50,32,48,32,53,32,49,48,32,49,50,32,48,32,48,32,97,32,108,97,109,112,32,111]⟩
def T1:ByteArray:=⟨#[110,32,116,104,101,32,113,117,97,121]⟩
def C0 (no:Int):e8:=⟨no,0,2,24,T0⟩
def C1 (no:Int):e8:=⟨no,1,2,10,T1⟩
theorem a8L:w7 RS:=by decide+kernel
theorem c0t (u:Nat) (h:u<10):Lib.itoa (u:Int)= [UInt8.ofNat (48+u)]:=by
 rw [Lib.itoa_nonneg,Lib.decDigits,dif_pos h]
theorem c4O (u:Nat) (h:10≤u∧u<100):Lib.itoa (u:Int)= [UInt8.ofNat (48+u / 10),UInt8.ofNat (48+u % 10)]:=by
 rw [Lib.itoa_nonneg,Lib.decDigits,dif_neg (by omega),Lib.decDigits,dif_pos (by omega)];rfl
theorem c1v:E4 RS=TS:=by
 have h0:=c0t 0 (by omega);have h2:=c0t 2 (by omega);have h5:=c0t 5 (by omega);have h10:=c4O 10 (by omega);have h12:=c4O 12 (by omega);apply a7r;apply I8;rw [c3s];unfold a1F a2e RS;simp only [R2,List.flatMap_nil];rw [show(2:Int)=((2:Nat):Int) from rfl,show(0:Int)=((0:Nat):Int) from rfl,show(5:Int)=((5:Nat):Int) from rfl,show(10:Int)=((10:Nat):Int) from rfl,show(12:Int)=((12:Nat):Int) from rfl,h0,h2,h5,h10,h12];decide+kernel
theorem b3S (no:Int):a2i (E4 RS) no= [C0 no,C1 no]:=by
 rw [c1v];have e0:a5h TS 0=T0:=by decide+kernel
 have e1:a5h TS 1=T1:=by decide+kernel
 have hz:TS.size=34:=by decide+kernel
 have s0:T0.size=24:=by decide+kernel
 have s1:T1.size=10:=by decide+kernel
 have hr:List.range (B9 34)= [0,1]:=by decide+kernel
 unfold a2i;rw [hz,hr];simp only [F8,a4U,a2m,e0,e1,hz,s0,s1,C0,C1];rfl
theorem c8T:a1Q RS=some (TS,0):=by
 unfold a1Q;rw [R0 RS (by have:=S4 a8L;omega),j3,j0 (by simp [a8L]),a7Z a8L,c1v];rfl
theorem c6U:a2M RS 3=some ([C0 3,C1 3],0):=by
 unfold a2M;rw [R0 RS (by have:=S4 a8L;omega),j3,j0 (by simp [a8L]),a3H,j3,j0 (by decide),a8k a8L,b3S];rfl
theorem c3C:w5 []= []:=a3t (a1A [])
theorem c7P:W9 ⟨[], []⟩ []=some true:=by
 unfold W9;rw [areWritten_eq [] (by simp) (by simp),j3,j2 (by simp [Written.nil]),b0G _ (by simp),j3,c6c [] (by simp) (by simp),j3];dsimp only;rw [b9H _ _ (by simp)];simp [ofF,ofK]
theorem c9G:∃b,a0d ⟨[]⟩ RS=some (b,0):=by
 have hb:K9 ⟨[]⟩=some true:=by
  have:r6 (D1 ⟨[]⟩) (0,(-1),0)=some (.inl (0,-1,0)):=a2N (body:=D1 ⟨[]⟩) (fun _=>((0:Int),(-1:Int),(0:Int))) 0 (by omega) _ (fun k hk=>by omega) (by unfold D1;dsimp only;rw [j0 (by simp)]);unfold K9;rw [this];rfl
 have hf:W8 ⟨[]⟩ RS.At=some (0,false):=by decide+kernel
 unfold a0d;rw [hb,j3,j0 (by decide),R0 RS (by have:=S4 a8L;omega),j3,j0 (by simp [a8L]),hf,j3];dsimp only;rw [j0 (by decide),a6w [] (by simp) (by simp),j3];have e:idx [(N7 []).1,(N7 []).2.1,(N7 []).2.2.1,(N7 []).2.2.2.1,(N7 []).2.2.2.2.1,(N7 []).2.2.2.2.2] RS.At.Depot=some 0:=by decide+kernel
 rw [e,j3,j0 (by decide),j0 (by decide)];unfold j1;rw [q9 (by simp),j3,q9 (by simp)];unfold u5;rw [q9 (by simp)];exact⟨_,rfl⟩
theorem c5K:a2Q ⟨[], []⟩ [] RS=some (⟨[], [C0 0,C1 0]⟩, [RS],0):=by
 obtain⟨b,hb⟩:=c9G;have hc:u1 [] RS=some false:=by decide+kernel
 unfold a2Q M9;rw [c7P,j3,j0 (by decide),hc,j3,j0 (by decide)];unfold u5;rw [q9 (by simp),j3,c3C,hb,j3];dsimp only;rw [j0 (by decide)];unfold D8 k9 j1;rw [q9 (by simp),j3,q9 (by simp),j3,j3];dsimp only;rw [show((([]:List b9).length:Nat):Int)=0 from rfl,a8k a8L,b3S,j3,q9 (by simp),j3,q9 (by simp)];rfl
theorem c2q:c1W ⟨[], [C0 0,C1 0]⟩:=⟨by simp,by simp,fun c hc=>by
 simp only [o6,a7l,or_false]at hc;rcases hc with rfl|rfl
 · show T0.size≤_;decide+kernel
 · show T1.size≤_;decide+kernel⟩
theorem b9E {l:List Int} (h:(l.all fun x=>decide (0≤x∧x≤100))=true):b6T l:=fun x hx=>by
 have:=b1J (Q8.1 h x hx);omega
theorem d0X:D3 ⟨[], [C0 0,C1 0]⟩ [2,0]=some ⟨[], [C0 0,C1 0]⟩:=by
 rw [a5G _ _ c2q (b9E (by decide)) (by simp)];decide+kernel
theorem d1h:D3 ⟨[], [C0 0,C1 0]⟩ [3,0]=some ⟨[], [C1 0,C0 0]⟩:=by
 rw [a5G _ _ c2q (b9E (by decide)) (by simp)];decide+kernel
theorem d1g:D3 ⟨[], [C0 0,C1 0]⟩ [2,0,0,0]=some ⟨[], [C0 0]⟩:=by
 rw [a5G _ _ c2q (b9E (by decide)) (by simp)];decide+kernel
theorem d1R:D3 ⟨[], [C0 0,C1 0]⟩ [2,0,1,9]=some ⟨[], [C0 0,⟨0,1,2,10,⟨#[110,32,116,104,101,32,113,117,97]⟩⟩]⟩:=by
 rw [a5G _ _ c2q (b9E (by decide)) (by simp)];decide+kernel
theorem d0F:D3 ⟨[C0 0,C1 0], []⟩ [0,0]=some ⟨[C0 0,C1 0], []⟩:=by
 rw [a5G _ _ ⟨by simp,by simp,by simp⟩ (b9E (by decide)) (by simp)];decide+kernel
theorem b4Y {l:List e8} (h0:a5B l 0=some TS) (h1:a5B l 1=none):a6S l= [RS]:=by
 have hd:decF TS=some RS:=by rw [←c1v];exact b3e a8L
 have hn:U7 [] RS:=by decide+kernel
 unfold a6S;rw [show(61:Nat)=59+1+1 from rfl,a5o];rw [show((([]:List b9).length:Nat):Int)=0 from rfl,h0];dsimp only;rw [hd];dsimp only;rw [j2 hn,a5o];rw [show((([]++ [RS]:List b9).length:Nat):Int)=1 from rfl,h1];rfl
theorem b6t {l:List e8} (h0:a5B l 0=none):a6S l= []:=by
 unfold a6S;rw [show(61:Nat)=60+1 from rfl,a5o];rw [show((([]:List b9).length:Nat):Int)=0 from rfl,h0]
theorem c1w:ofF [RS]= [C0 0,C1 0]:=by
 unfold ofF ofK ofK;rw [b3S];rfl
theorem d1o:D0 ⟨[], [C0 0,C1 0]⟩=some (⟨[C0 0,C1 0], []⟩, [RS]):=by
 rw [a5N _ (by simp),b4Y (by decide+kernel) (by decide+kernel),c1w]
theorem d0D:D0 ⟨[], [C1 0,C0 0]⟩=some (⟨[C0 0,C1 0], []⟩, [RS]):=by
 rw [a5N _ (by simp),b4Y (by decide+kernel) (by decide+kernel),c1w]
theorem d0R:D0 ⟨[], [C0 0]⟩=some (⟨[], []⟩, []):=by
 rw [a5N _ (by simp),b6t (by decide+kernel)];rfl
theorem d1w:D0 ⟨[], [C0 0,⟨0,1,2,10,⟨#[110,32,116,104,101,32,113,117,97]⟩⟩]⟩=some (⟨[], []⟩, []):=by
 rw [a5N _ (by simp),b6t (by decide+kernel)];rfl
theorem d0f:D0 ⟨[C0 0,C1 0], []⟩=some (⟨[C0 0,C1 0], []⟩, [RS]):=by
 rw [a5N _ (by simp),b4Y (by decide+kernel) (by decide+kernel),c1w]
theorem c8a:R8 ⟨[], [C0 0,C1 0]⟩=some ⟨[C0 0,C1 0], []⟩:=by
 unfold R8;rw [b0G _ (by simp)];rfl
theorem c7G:a6l=some true:=by
 unfold a6l;rw [show(⟨(⟨2,0⟩:p0),5,10,12,(⟨0,0⟩:p0),(⟨#[97,32,108,97,109,112,32,111,110,32,116,104,101,32,113,117,97,121]⟩:ByteArray)⟩:b9)=RS from rfl];rw [c8T,j3];dsimp only;rw [c6U,j3];dsimp only;rw [c5K,j3];dsimp only;rw [d0X,j3,d1o,j3];dsimp only;rw [d1h,j3,d0D,j3];dsimp only;rw [d1g,j3,d0R,j3];dsimp only;rw [d1R,j3,d1w,j3];dsimp only;rw [c8a,j3,d0F,j3,d0f,j3];dsimp only;rw [j2 (by decide),j2 (by decide),j2 (by decide),j2 (by decide),j2 (by decide),j2 (by decide),j2 (by decide)];rw [show idx [C0 3,C1 3] 0=some (C0 3) from rfl,j3,show idx [C0 3,C1 3] 1=some (C1 3) from rfl];rw [j2 (by rw [a6G];decide+kernel),j3,j2 (by rw [a6G];decide+kernel),j2 (by rw [a6G];decide+kernel)];rw [j2 (by decide),j2 (by decide),j2 (by decide),j2 (by decide),j2 (by decide),j2 (by decide)];rfl
end Go.Proofs.YtggdlgclohnbaaaGreatDoor
namespace Go.Proofs.YtggdlgclohnbaaaGreatDoor
open Go Go.RowKit Go.Sx
def U2 (D:Int→c8) (a b:Int) (U:List b9):Nat:=E3 U (D a).Written+E3 U (D b).Written
def c0A (a b:Int) (U:List b9) (l0 v0:Nat) (st:Int×Int×(c8×c8)×List d8):Prop:=
 ∃(D:Int→c8) (f:Int→Nat) (k v:Nat),st.1=(v:Int)∧st.2.1=(k:Int)∧st.2.2.1=(D a,D b)∧Ex D f a b U∧k≤30∧v≤v0+6*k∧(l0=0→v=v0∧U2 D a b U=0)∧
  ((st.2.2.2.length=k∧U2 D a b U=0)∨
   ∃pre m,st.2.2.2=pre++ [m]∧pre.length=k∧c8p D f U m∧(m.From=a∧m.To=b∨m.From=b∧m.To=a)∧muN (E3 U (D m.From).Written) (E3 U (D m.To).Written) m.Records≤30-k)
theorem c9o (a b:Nat) (R:List b9):1≤muN a b R:=by
 unfold muN;split
 · omega
 · split
   · split<;>omega
   · omega
theorem b3k (a b:Int) (U:List b9) (l0 v0:Nat) (hv0:v0≤1000) (st:Int×Int×(c8×c8)×List d8) (h:c0A a b U l0 v0 st) (h0:st.2.1=0):
 ∃(D:Int→c8) (f:Int→Nat) (v:Nat) (i:Int) (us:List d8),r6 G8 st=some (.inl ((v:Int),i,(D a,D b),us))∧Ex D f a b U∧U2 D a b U=0∧(l0=0→v=v0)∧v≤v0+180:=by
 obtain⟨e,h1,D,f,v,i,us,he,h2⟩:=a0w (body:=G8) (c0A a b U l0 v0) (fun st=>31-st.2.1.toNat) (fun e=>∃(D:Int→c8) (f:Int→Nat) (v:Nat) (i:Int) (us:List d8),e= .inl ((v:Int),i,(D a,D b),us)∧Ex D f a b U∧U2 D a b U=0∧(l0=0→v=v0)∧v≤v0+180) (by
  rintro⟨mv,i,pr,us⟩ ⟨D,f,k,v,rfl,rfl,rfl,hx,hk,hv,hl0,hend⟩;dsimp only at hend;rcases hend with⟨hlen,hlack⟩|⟨pre,m,hus,hpre,hp,hft,hmu⟩
  · left;refine⟨.inl ((v:Int),(k:Int),(D a,D b),us), ?_,D,f,v,(k:Int),us,rfl,hx,hlack,fun h=>(hl0 h).1,by omega⟩;unfold G8;dsimp only;rw [j0 (by simp only [A6];omega)]
  · right;have hmp:=c9o (E3 U (D m.From).Written) (E3 U (D m.To).Written) m.Records;have hk30:k<30:=by omega
    have hlen:us.length=k+1:=by rw [hus];simp;omega
    have hi:idx us (k:Int)=some m:=by rw [hus,←hpre];exact a3F
    obtain⟨d,ms,g,e1,hex,hr0,hlP,hlQ,hans⟩:=c3Q hp;have hml:m.Records.length≤6:=hp.ok.l;have hms:ms.length≤1:=by rcases hans with⟨h,_⟩|⟨m',h,_⟩<;>(rw [h];simp)
    have hme:=hx.inv.me b hx.ib;have hszm:=(Z1.v hp.ex.inv hp.ok).sz;have hszd:=(hp.ex.inv.valid hp.ok.b).sz
    --the state behind it
    have hnext:c0A a b U l0 v0 (((v+m.Records.length:Nat):Int),((k+1:Nat):Int),(uq D m.To d a,uq D m.To d b),us++ms):=by
     have hex':Ex (uq D m.To d) g a b U:=by
      rcases hft with⟨h1,h2⟩|⟨h1,h2⟩
      · rw [h1]at hex;have:=hex;rw [h2]at this⊢;exact this
      · rw [h1]at hex;have:=hex;rw [h2]at this⊢;exact this.swap
     have hl2:U2 (uq D m.To d) a b U≤U2 D a b U:=by
      unfold U2;rcases hft with⟨h1,h2⟩|⟨h1,h2⟩
      · rw [h1]at hlP;rw [h2]at hlP hlQ⊢;omega
      · rw [h1]at hlP;rw [h2]at hlP hlQ⊢;omega
     refine⟨uq D m.To d,g,k+1,v+m.Records.length,rfl,rfl,rfl,hex',by omega,by omega,fun h=> ?_, ?_⟩
     · obtain⟨g1,g2⟩:=hl0 h
       have hz:E3 U (D m.To).Written=0:=by
        unfold U2 at g2;rcases hft with⟨h1,h2⟩|⟨h1,h2⟩
        · rw [h2];omega
        · rw [h2];omega
       have:=hr0 hz;exact⟨by omega,by omega⟩
     · rcases hans with⟨h1,h2⟩|⟨m',h1,h3,h4,h5,h6⟩
       · left;subst h1;refine⟨by simp;omega, ?_⟩;unfold U2;rcases hft with⟨g1,g2⟩|⟨g1,g2⟩
         · rw [g1]at h2;rw [g2]at h2⊢;omega
         · rw [g1]at h2;rw [g2]at h2⊢;omega
       · right;subst h1;refine⟨us,m',rfl,hlen,h5, ?_,by omega⟩;rw [h3,h4];rcases hft with⟨g1,g2⟩|⟨g1,g2⟩
         · exact .inr ⟨g2,g1⟩
         · exact .inl ⟨g2,g1⟩
    refine⟨(((v+m.Records.length:Nat):Int),((k+1:Nat):Int),(uq D m.To d a,uq D m.To d b),us++ms), ?_,hnext,by dsimp only;omega⟩;unfold G8;dsimp only;rw [j2 (by simp only [A6];omega),j2 (by simp only [A6];omega),hi,j3,j3];rcases hft with⟨g1,g2⟩|⟨g1,g2⟩
    · have hA:uq D m.To d a=D a:=S3 _ _ _ (by rw [g2];exact hx.ne);have hB:uq D m.To d b=d:=by rw [g2];exact I7 _ _ _
      rw [g2]at e1 hszd;rw [j2 (by rw [g2,hme];simp),q9 (by omega),show idx [D a,D b] 1=some (D b) from rfl];simp only [j3];rw [a4D _ _ hszd hszm,e1,j3];dsimp only;rw [j0 (by decide),q9 (by omega),q9 (by omega),W_s (by omega),a5r (by omega),hA,hB];rfl
    · have hA:uq D m.To d a=d:=by rw [g2];exact I7 _ _ _
      have hB:uq D m.To d b=D b:=S3 _ _ _ (by rw [g2];exact hx.ne.symm);rw [g2]at e1 hszd;rw [j0 (by rw [g2,hme];simpa using hx.ne),q9 (by omega),show idx [D a,D b] 0=some (D a) from rfl]
      simp only [j3];rw [a4D _ _ hszd hszm,e1,j3];dsimp only;rw [j0 (by decide),q9 (by omega),q9 (by omega),W_s (by omega),a5r (by omega),hA,hB];rfl) st h (by unfold a2n;omega)
 subst he;exact⟨D,f,v,i,us,h1,h2⟩
theorem c3b (a b:Int) (U:List b9) {D:Int→c8} {f:Int→Nat} (hx:Ex D f a b U) (s:Nat) (hs:s<2) (v:Nat) (hv:v≤180):
 ∃(D':Int→c8) (f':Int→Nat) (v':Nat),B5 ((v:Int),(s:Int),(D a,D b))=some (.inl ((v':Int),((s+1:Nat):Int),(D' a,D' b)))∧Ex D' f' a b U∧U2 D' a b U=0∧(U2 D a b U=0→v'=v)∧v'≤v+180:=by
 have hs2:s=0∨s=1:=by omega
 rcases hs2 with rfl|rfl
 · obtain⟨d,m,g,e1,hp,hf,ht,hr,hl,hb,hmu⟩:=b6l hx;have hex:Ex (uq D a d) g a b U:=by have:=hp.ex;rw [hf,ht]at this;exact this
   have hla:U2 (uq D a d) a b U=U2 D a b U:=by unfold U2;rw [hl,hb]
   obtain⟨D',f',v',i,us,c1,c2,c3,c4,c5⟩:=b3k a b U (U2 D a b U) v (by omega) ((v:Int),0,(uq D a d a,uq D a d b), [m]) ⟨uq D a d,g,0,v,rfl,rfl,rfl,hex,by omega,by omega,fun h=>⟨rfl,by rw [hla];exact h⟩, .inr ⟨[],m,rfl,rfl,hp, .inl ⟨hf,ht⟩,by rw [hf,ht];exact hmu⟩⟩ rfl;refine⟨D',f',v', ?_,c2,c3,c4,c5⟩;have hA:uq D a d a=d:=I7 _ _ _;rw [hA,hb]at c1;unfold B5;dsimp only;have hW:W (1-((0:Nat):Int))=1:=by decide
   rw [j2 (by decide),q9 (by omega),show idx [D a,D b] ((0:Nat):Int)=some (D a) from rfl,hW,j3,q9 (by omega),show idx [D a,D b] (1:Int)=some (D b) from rfl];simp only [j3];rw [hx.inv.me b hx.ib,a9M _ _ (hx.inv.valid hx.ia).sz,e1,j3];dsimp only;rw [j0 (by decide),q9 (by omega),j2 (by decide),j0 (by decide),c1,j3,W_s (by omega)]
 · obtain⟨d,m,g,e1,hp,hf,ht,hr,hl,hb,hmu⟩:=b6l hx.swap;have hex:Ex (uq D b d) g a b U:=by have:=hp.ex;rw [hf,ht]at this;exact this.swap
   have hla:U2 (uq D b d) a b U=U2 D a b U:=by unfold U2;rw [hl,hb]
   obtain⟨D',f',v',i,us,c1,c2,c3,c4,c5⟩:=b3k a b U (U2 D a b U) v (by omega) ((v:Int),0,(uq D b d a,uq D b d b), [m]) ⟨uq D b d,g,0,v,rfl,rfl,rfl,hex,by omega,by omega,fun h=>⟨rfl,by rw [hla];exact h⟩, .inr ⟨[],m,rfl,rfl,hp, .inr ⟨hf,ht⟩,by rw [hf,ht];exact hmu⟩⟩ rfl;refine⟨D',f',v', ?_,c2,c3,c4,c5⟩;have hB:uq D b d b=d:=I7 _ _ _;rw [hB,hb]at c1;unfold B5;dsimp only;have hW:W (1-((1:Nat):Int))=0:=by decide
   rw [j2 (by decide),q9 (by omega),show idx [D a,D b] ((1:Nat):Int)=some (D b) from rfl,hW,j3,q9 (by omega),show idx [D a,D b] (0:Int)=some (D a) from rfl];simp only [j3];rw [hx.inv.me a hx.ia,a9M _ _ (hx.inv.valid hx.ib).sz,e1,j3];dsimp only;rw [j0 (by decide),q9 (by omega),j0 (by decide),j2 (by decide),c1,j3,W_s (by omega)]
theorem c3I (a b:Int) (U:List b9) {D:Int→c8} {f:Int→Nat} (hx:Ex D f a b U):
 ∃(D':Int→c8) (f':Int→Nat) (v:Nat),r6 B5 (0,0,(D a,D b))=some (.inl ((v:Int),2,(D' a,D' b)))∧Ex D' f' a b U∧U2 D' a b U=0∧(U2 D a b U=0→v=0):=by
 obtain⟨e,h1,D',f',v,he,h2⟩:=a0w (body:=B5) (fun st=>∃(D':Int→c8) (f':Int→Nat) (s v:Nat),st=((v:Int),(s:Int),(D' a,D' b))∧s≤2∧Ex D' f' a b U∧(U2 D a b U=0→v=0∧U2 D' a b U=0)∧(s≠0→U2 D' a b U=0)∧v≤180*s) (fun st=>2-st.2.1.toNat)
  (fun e=>∃(D':Int→c8) (f':Int→Nat) (v:Nat),e= .inl ((v:Int),2,(D' a,D' b))∧Ex D' f' a b U∧U2 D' a b U=0∧(U2 D a b U=0→v=0)) (by
  rintro st ⟨D',f',s,v,rfl,hs,hex,hz,hn,hv⟩;rcases a3Y s 2 with h2|h2
  · right;obtain⟨D2,f2,v2,e1,e2,e3,e4,e5⟩:=c3b a b U hex s h2 v (by omega);refine⟨_,e1,⟨D2,f2,s+1,v2,rfl,by omega,e2,fun h=> ?_,fun _=>e3,by omega⟩,by dsimp only;omega⟩;obtain⟨g1,g2⟩:=hz h;exact⟨by rw [e4 g2,g1],e3⟩
  · left;obtain rfl:s=2:=by omega
    refine⟨.inl ((v:Int),2,(D' a,D' b)), ?_,D',f',v,rfl,hex,hn (by omega),fun h=>(hz h).1⟩;unfold B5;dsimp only;rw [j0 (by decide)];rfl) (0,0,(D a,D b)) ⟨D,f,0,0,rfl,by omega,hx,fun h=>⟨rfl,h⟩,fun h=>absurd rfl h,by omega⟩ (by unfold a2n;simp only [Int.toNat_zero];omega)
 subst he;exact⟨D',f',v,h1,h2⟩
theorem c2w {w U:List b9} (hw:Written w) (hU:a0I U) (h1:∀r∈w,r∈U) (h2:E3 U w=0):w5 w=w5 U:=
 a8c (a0Z hw.once) (a0Z hU) fun r=>by
  rw [(E0 w).mem_iff,(E0 U).mem_iff];exact⟨h1 r,b1m.1 h2 r⟩
theorem c4k (a b:Int) (U:List b9) {D:Int→c8} {f:Int→Nat} (hx:Ex D f a b U):r6 (M5 ⟨w5 U⟩) (0,(D a,D b))=some (.inr true):=by
 obtain⟨e,h1,he⟩:=a0w (body:=M5 ⟨w5 U⟩) (fun st=>∃(D':Int→c8) (f':Int→Nat) (k:Nat),st=((k:Int),(D' a,D' b))∧Ex D' f' a b U∧(k=0∨k=1∧U2 D' a b U=0)) (fun st=>2-st.1.toNat) (fun e=>e= .inr true) (by
  rintro st ⟨D',f',k,rfl,hex,hk⟩;obtain⟨D2,f2,v,e1,e2,e3,e4⟩:=c3I a b U hex;have hk2:k≤1:=by omega
  unfold M5;dsimp only;rw [j2 (by simp only [A6];omega),e1,j3];dsimp only;by_cases hv:v=0
  · left;refine⟨.inr true, ?_,rfl⟩;have ha:=(e2.inv.bx a e2.ia).w;have hb:=(e2.inv.bx b e2.ib).w;have hul:(w5 U).length≤14:=by rw [(E0 U).length_eq];exact e2.lU
    unfold U2 at e3;rw [j0 (by subst hv;decide),a5X ha,j3];dsimp only;rw [a5X hb,j3];dsimp only;rw [c2w ha e2.oU e2.sa (by omega),c2w hb e2.oU e2.sb (by omega),b3I _ _ (by omega),j3,j3];simp
  · right;rcases hk with rfl|⟨rfl,hl⟩
    · refine⟨((1:Nat),(D2 a,D2 b)), ?_,⟨D2,f2,1,rfl,e2, .inr ⟨rfl,e3⟩⟩,by dsimp only;omega⟩;rw [j2 (by simp only [A6];omega)];rfl
    · exact absurd (e4 hl) hv) (0,(D a,D b)) ⟨D,f,0,rfl,hx, .inl rfl⟩ (by unfold a2n;simp only [Int.toNat_zero];omega)
 rw [he]at h1;exact h1
theorem b5p (x0:(List a1c)) (x1:Int) (h0:(x0.length*88≤reachBytes∧x0.length≤maxLen∧∀y:a1c,y∈x0→a1c.G y)) (h1:InK .i64 x1):a2v x0 x1=some true:=by
 have hrb:reachBytes≤9223372036854775800:=by decide
 have hl:x0.length≤9223372036854775800:=by omega
 obtain⟨D,f,ms,e1,hst⟩:=c3A x0 hl h0.2.2;have hv:=hst.inv;have ha:=d1s x1;obtain⟨hb,hne⟩:=b7V (b:=0) ha (by omega)
 have hW:W (W (x1 % 3+1)+0)=W (x1 % 3+1):=by
  unfold I3 at ha;rw [Int.add_zero,a5r];rw [a5r (by omega)];omega
 rw [hW]at hb hne;unfold a2v;rw [c7G,j3,e1,j3];dsimp only;rw [j0 (by decide),j0 (by decide),a4o x1 3 h1 (by omega)];simp only [j3];have ha':=ha;have hb':=hb;generalize x1 % 3=a at*;generalize (W (a+1)).tmod 3=b at*;unfold I3 at ha' hb';rw [q9 (by omega),a4L D ha,j3,q9 (by omega),a4L D hb,j3];have wa:=(hv.bx a ha).w;have wb:=(hv.bx b hb).w;rw [a5X wa,j3];dsimp only;rw [a5X wb,j3];dsimp only
 --all the records of both
 obtain⟨U,hU⟩:∃U,U=(b0g D).filter (fun r=>decide (r∈(D a).Written∨r∈(D b).Written)):=⟨_,rfl⟩;have hoU:a0I U:=by rw [hU];exact hv.truth_once.filter _
 have hUl:U.length≤14:=by
  rw [hU];exact u2 (List.length_filter_le _ _) hv.truth_len
 have hUm:∀r,r∈U↔r∈(D a).Written∨r∈(D b).Written:=fun r=>by
  rw [hU,a2r,A6];exact⟨fun h=>h.2,fun h=>⟨h.elim (hv.truth_mem ha) (hv.truth_mem hb),h⟩⟩
 have hex:Ex D f a b U:=⟨hv,ha,hb,hne.symm,hoU,hUl,fun r hr=>(hUm r).2 (.inl hr),fun r hr=>(hUm r).2 (.inr hr),fun r hr=>(hUm r).1 hr⟩;have hma:∀r,r∈w5 (D a).Written↔r∈(D a).Written:=fun r=>(E0 _).mem_iff
 have hmb:∀r,r∈w5 (D b).Written↔r∈(D b).Written:=fun r=>(E0 _).mem_iff
 have hj:=c4Y (w5 (D a).Written) (w5 (D b).Written) U (w5 U) (a7n wa) (a7n wb) hoU (fun r hr=>hex.sa r ((hma r).1 hr)) (fun r hr=>hex.sb r ((hmb r).1 hr)) (a0Z hoU)
  (fun r=>by rw [(E0 U).mem_iff,hma,hmb];exact hUm r) (by rw [(E0 U).length_eq];omega)
  (fun r hr=>by have:=S4 (wa.rec ((hma r).1 hr));omega) (fun r hr=>by have:=S4 (wb.rec ((hmb r).1 hr));omega)
 rw [hj,j3];dsimp only;rw [j0 (by decide),j0 (by decide),j0 (by decide),c4k a b U hex,j3]
end Go.Proofs.YtggdlgclohnbaaaGreatDoor
