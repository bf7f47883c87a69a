/- Plain facts. -/
import Derived.Test.YtggdlgclohnbaaaGreatDoorL3
set_option linter.unusedVariables false
set_option linter.unusedSimpArgs false
namespace Go
theorem R5:type_of% @decide_eq_true_eq:=@decide_eq_true_eq
theorem b6S:type_of% @Classical.byContradiction:=@Classical.byContradiction
theorem b5f:type_of% @List.pairwise_iff_getElem:=@List.pairwise_iff_getElem
theorem a8I:type_of% @Bool.eq_iff_iff:=@Bool.eq_iff_iff
theorem a8X:type_of% @List.getElem_of_mem:=@List.getElem_of_mem
theorem b2W:type_of% @decide_eq_false_iff_not:=@decide_eq_false_iff_not
theorem a7U:type_of% @ByteArray.ext:=@ByteArray.ext
end Go
namespace Go.Proofs.YtggdlgclohnbaaaGreatDoor
open Go Go.RowKit Go.Sx Go.Proofs.Tryz
theorem ifd{α : Type}{p : Prop}[Decidable p]{a b : α}(h : p) : (if decide p = true then a else b) = a := k9 (decide_eq_true h)
theorem ifn{α : Type}{p : Prop}[Decidable p]{a b : α}(h : ¬p) : (if decide p = true then a else b) = b := j6 (by simpa using h)
theorem d2I:w9 Tryz.prog 46 (fun(x:(Int×Int×Int×Int×Int))=>[DI x.1,DI x.2.1,DI x.2.2.1,DI x.2.2.2.1,DI x.2.2.2.2]) (fun x:(Int×Int×Int×Int×Int)=>(InK .i64 x.1∧InK .i64 x.2.1∧InK .i64 x.2.2.1∧InK .i64 x.2.2.2.1∧InK .i64 x.2.2.2.2)):=
 (w9.arr underlying46 (a1m.cons (s:=1) (w9.int underlying3) (a1m.cons (s:=1) (w9.int underlying3) (a1m.cons (s:=1) (w9.int underlying3) (a1m.cons (s:=1) (w9.int underlying3) (a1m.last (s:=1) (w9.int underlying3) rfl (by kernel_rfl) rfl) rfl (by kernel_rfl)) rfl (by kernel_rfl)) rfl (by kernel_rfl)) rfl (by kernel_rfl)) (by kernel_rfl)).iso (fun x=>x) (fun _=>rfl) (fun _ h=>h)
theorem d0U:w9 Tryz.prog 25 (fun l:(List Int)=>[.lst 1 l.length (l.flatMap cI)]) (fun l=>(l.length*8≤reachBytes∧l.length≤maxLen∧∀y:Int,y∈l→InK .i64 y)):=
 w9.slice underlying25 (w9.int underlying3) (by kernel_rfl) (by kernel_rfl) (fun _=>rfl) (fun _=>rfl) (by decide)
def a1M.G(x:a1M):Prop:=InK .i64 x.Kind∧InK .i64 x.Depot∧InK .i64 x.To∧(InK .i64 x.Record.1∧InK .i64 x.Record.2.1∧InK .i64 x.Record.2.2.1∧InK .i64 x.Record.2.2.2.1∧InK .i64 x.Record.2.2.2.2)∧(x.Picks.length*8≤reachBytes∧x.Picks.length≤maxLen∧∀y:Int,y∈x.Picks→InK .i64 y)
theorem d1B:w9 Tryz.prog 168 a1M.c a1M.G:=
 (w9.struct underlying168 (F9.cons (s:=1) (w9.int underlying3) (F9.cons (s:=1) (w9.int underlying3) (F9.cons (s:=1) (w9.int underlying3) (F9.cons (s:=5) d2I (F9.last (s:=1) d0U rfl (by kernel_rfl) rfl) rfl (by kernel_rfl)) rfl (by kernel_rfl)) rfl (by kernel_rfl)) rfl (by kernel_rfl)) (by kernel_rfl)).iso (fun x=>(⟨x.1,x.2.1,x.2.2.1,x.2.2.2.1,x.2.2.2.2⟩:a1M)) (fun _=>rfl) (fun _ h=>h)
theorem d3R:w9 Tryz.prog 84 (fun l:(List a1M)=>[.lst 9 l.length (l.flatMap a1M.c)]) (fun l=>(l.length*88≤reachBytes∧l.length≤maxLen∧∀y:a1M,y∈l→a1M.G y)):=
 w9.slice underlying84 d1B (by kernel_rfl) (by kernel_rfl) (fun _=>rfl) (fun _=>rfl) (by decide)
def o4.G(x:o4):Prop:=InK .i64 x.Depot∧InK .i64 x.No
theorem d0N:w9 Tryz.prog 36 o4.c o4.G:=
 (w9.struct underlying36 (F9.cons (s:=1) (w9.int underlying3) (F9.last (s:=1) (w9.int underlying3) rfl (by kernel_rfl) rfl) rfl (by kernel_rfl)) (by kernel_rfl)).iso (fun x=>(⟨x.1,x.2⟩:o4)) (fun _=>rfl) (fun _ h=>h)
def b9.G(x:b9):Prop:=o4.G x.At∧InK .i64 x.Kind∧InK .i64 x.Day∧InK .i64 x.Known∧o4.G x.Of∧x.Text.size≤reachBytes
theorem d0S:w9 Tryz.prog 38 b9.c b9.G:=
 (w9.struct underlying38 (F9.cons (s:=2) d0N (F9.cons (s:=1) (w9.int underlying3) (F9.cons (s:=1) (w9.int underlying3) (F9.cons (s:=1) (w9.int underlying3) (F9.cons (s:=2) d0N (F9.last (s:=1) (w9.str underlying9) rfl (by kernel_rfl) rfl) rfl (by kernel_rfl)) rfl (by kernel_rfl)) rfl (by kernel_rfl)) rfl (by kernel_rfl)) rfl (by kernel_rfl)) (by kernel_rfl)).iso (fun x=>(⟨x.1,x.2.1,x.2.2.1,x.2.2.2.1,x.2.2.2.2.1,x.2.2.2.2.2⟩:b9)) (fun _=>rfl) (fun _ h=>h)
theorem d3K:w9 Tryz.prog 78 (fun(x:(Int×Int×Int×Int×Int×Int))=>[DI x.1,DI x.2.1,DI x.2.2.1,DI x.2.2.2.1,DI x.2.2.2.2.1,DI x.2.2.2.2.2]) (fun x:(Int×Int×Int×Int×Int×Int)=>(InK .i64 x.1∧InK .i64 x.2.1∧InK .i64 x.2.2.1∧InK .i64 x.2.2.2.1∧InK .i64 x.2.2.2.2.1∧InK .i64 x.2.2.2.2.2)):=
 (w9.arr underlying78 (a1m.cons (s:=1) (w9.int underlying3) (a1m.cons (s:=1) (w9.int underlying3) (a1m.cons (s:=1) (w9.int underlying3) (a1m.cons (s:=1) (w9.int underlying3) (a1m.cons (s:=1) (w9.int underlying3) (a1m.last (s:=1) (w9.int underlying3) rfl (by kernel_rfl) rfl) rfl (by kernel_rfl)) rfl (by kernel_rfl)) rfl (by kernel_rfl)) rfl (by kernel_rfl)) rfl (by kernel_rfl)) (by kernel_rfl)).iso (fun x=>x) (fun _=>rfl) (fun _ h=>h)
theorem d3l:w9 Tryz.prog 27 (fun l:(List b9)=>[.lst 8 l.length (l.flatMap b9.c)]) (fun l=>(l.length*72≤reachBytes∧l.length≤maxLen∧∀y:b9,y∈l→b9.G y)):=
 w9.slice underlying27 d0S (by kernel_rfl) (by kernel_rfl) (fun _=>rfl) (fun _=>rfl) (by decide)
def c8.G(x:c8):Prop:=InK .i64 x.From∧InK .i64 x.To∧(InK .i64 x.Have.1∧InK .i64 x.Have.2.1∧InK .i64 x.Have.2.2.1∧InK .i64 x.Have.2.2.2.1∧InK .i64 x.Have.2.2.2.2.1∧InK .i64 x.Have.2.2.2.2.2)∧(x.Records.length*72≤reachBytes∧x.Records.length≤maxLen∧∀y:b9,y∈x.Records→b9.G y)
theorem d4d:w9 Tryz.prog 86 c8.c c8.G:=
 (w9.struct underlying86 (F9.cons (s:=1) (w9.int underlying3) (F9.cons (s:=1) (w9.int underlying3) (F9.cons (s:=6) d3K (F9.last (s:=1) d3l rfl (by kernel_rfl) rfl) rfl (by kernel_rfl)) rfl (by kernel_rfl)) rfl (by kernel_rfl)) (by kernel_rfl)).iso (fun x=>(⟨x.1,x.2.1,x.2.2.1,x.2.2.2⟩:c8)) (fun _=>rfl) (fun _ h=>h)
def a1c.G(x:a1c):Prop:=InK .i64 x.Depot∧InK .i64 x.To∧b9.G x.Record∧c8.G x.Message∧(x.Picks.length*8≤reachBytes∧x.Picks.length≤maxLen∧∀y:Int,y∈x.Picks→InK .i64 y)∧InK .i64 x.Which∧InK .i64 x.By
theorem d4o:w9 Tryz.prog 88 a1c.c a1c.G:=
 (w9.struct underlying88 (F9.cons (s:=1) (w9.int underlying3) (F9.cons (s:=1) (w9.int underlying3) (F9.cons (s:=8) d0S (F9.cons (s:=9) d4d (F9.cons (s:=1) d0U (F9.cons (s:=1) (w9.int underlying3) (F9.last (s:=1) (w9.int underlying3) rfl (by kernel_rfl) rfl) rfl (by kernel_rfl)) rfl (by kernel_rfl)) rfl (by kernel_rfl)) rfl (by kernel_rfl)) rfl (by kernel_rfl)) rfl (by kernel_rfl)) (by kernel_rfl)).iso (fun x=>(⟨x.1,x.2.1,x.2.2.1,x.2.2.2.1,x.2.2.2.2.1,x.2.2.2.2.2.1,x.2.2.2.2.2.2⟩:a1c)) (fun _=>rfl) (fun _ h=>h)
end Go.Proofs.YtggdlgclohnbaaaGreatDoor
namespace Go.Proofs.YtggdlgclohnbaaaGreatDoor
open Go Go.Sx Go.Proofs.Tryz
theorem a2W{z:Int}(h: -9223372036854775808≤z∧z≤9223372036854775807):W z=z:=b9d h
theorem W_s{k:Nat}(h:k<9223372036854775807):W ((k:Int)+1)=((k+1:Nat):Int):=a7F h
def V5{α σ R:Type}(f:σ→α→Sum σ R):List α→σ→Sum σ R
 |[],s=>.inl s
 |x::l,s=>match f s x with|.inl s'=>V5 f l s'|.inr r=>.inr r
theorem c4g{α σ R:Type}(f:σ→α→σ)(l:List α)(s:σ):V5 (R:=R) (fun s x=>.inl (f s x)) l s=.inl (l.foldl f s):=by
 induction l generalizing s with
 |nil=>rfl
 |cons x l ih=>exact ih (f s x)
theorem a0K{α σ S E R:Type}{body:S→Option (Sum S E)}(l:List α)(hl:l.length≤9223372036854775807)(enc:Nat→σ→S)(f:σ→α→Sum σ R)(out:R→E)(fin:σ→E)(P:List α→σ→Prop)
 (h:∀pre x post s,l=pre++x::post→P pre s→body (enc pre.length s)=some (match f s x with|.inl s'=>.inl (enc (pre.length+1) s')|.inr r=>.inr (out r))∧∀s',f s x=.inl s'→P (pre++ [x]) s')
 (he:∀s,P l s→body (enc l.length s)=some (.inr (fin s))) (s0:σ) (h0:P [] s0):
 o8 body (enc 0 s0)=some (match V5 f l s0 with|.inl s=>fin s|.inr r=>out r):=by
 have key:∀(post pre:List α) (s:σ) (n:Nat),l=pre++post→P pre s→post.length<n→S3 body n (enc pre.length s)=some (match V5 f post s with|.inl s=>fin s|.inr r=>out r):=by
  intro post
  induction post with
  |nil=>
   intro pre s n hp hs hn;cases n with
   |zero=>omega
   |succ n=>
    simp only[a8R]at hp;subst hp;simp only[S3,he s hs,V5]
  |cons x post ih=>
   intro pre s n hp hs hn;cases n with
   |zero=>omega
   |succ n=>
    obtain⟨h1,h2⟩:=h pre x post s hp hs;simp only[S3,h1,V5];cases hf:f s x with
    |inl s'=>
     have:=ih (pre++ [x]) s' n (by simp[hp]) (h2 s' hf) (by simp at hn;omega);simpa using this
    |inr r=>rfl
 exact key l [] s0 a0X rfl h0 (by unfold a0X;omega)
theorem a4P{α:Type}{pre post:List α}{x:α}:idx (pre++x::post) (pre.length:Int)=some x:=by
 unfold idx;simp
theorem a8J{α:Type}{pre post:List α}{x:α}:((pre.length:Int)<((pre++x::post).length:Int)):=by simp;omega
theorem b5q{α β S E:Type}{body:S→Option (List β×Sum S E)}(l:List α)(hl:l.length≤9223372036854775807)(enc:Nat→S)(em:α→List β)(fin:E)
 (h:∀pre x post,l=pre++x::post→body (enc pre.length)=some (em x,.inl (enc (pre.length+1))))
 (he:body (enc l.length)=some ([],.inr fin)):b5D body (enc 0)=some (l.flatMap em,fin):=by
 have key:∀(post pre:List α) (n:Nat),l=pre++post→post.length<n→a6w body n (enc pre.length)=some (post.flatMap em,fin):=by
  intro post
  induction post with
  |nil=>
   intro pre n hp hn;cases n with
   |zero=>omega
   |succ n=>
    simp only[a8R]at hp;subst hp;simp only[a6w,he,List.flatMap_nil]
  |cons x post ih=>
   intro pre n hp hn;cases n with
   |zero=>omega
   |succ n=>
    have:=ih (pre++ [x]) n (by simp[hp]) (by simp at hn;omega);simp only[O6,Y0,N0,a0k]at this;simp only[a6w,h pre x post hp,this,U0]
 exact key l [] a0X rfl (by unfold a0X;omega)
def b7l{R:Type}(q:Nat→Option R):Nat→Nat→Sum Nat R
 |k,0=>.inl k
 |k,m+1=>match q k with|none=>b7l q (k+1) m|some r=>.inr r
theorem a9O{R:Type}{body:Int→Option (Sum Int (Sum Int R))}(n:Nat)(hn:n≤9223372036854775807)(q:Nat→Option R)(k:Nat)(hk:k≤n)
 (h:∀i,k≤i→i<n→body (i:Int)=some (match q i with|none=>.inl ((i+1:Nat):Int)|some r=>.inr (.inr r)))
 (he:body (n:Int)=some (.inr (.inl (n:Int)))):
 o8 body (k:Int)=some (match b7l q k (n-k)with|.inl j=>.inl (j:Int)|.inr r=>.inr r):=by
 have key:∀(m k N:Nat),k+m=n→m<N→(∀i,k≤i→i<n→body (i:Int)=some (match q i with|none=>.inl ((i+1:Nat):Int)|some r=>.inr (.inr r)))→
  S3 body N (k:Int)=some (match b7l q k m with|.inl j=>.inl (j:Int)|.inr r=>.inr r):=by
  intro m
  induction m with
  |zero=>
   intro k N hkm hN _;cases N with
   |zero=>omega
   |succ N=>
    have:k=n:=by omega
    subst this;simp only[S3,he,b7l]
  |succ m ih=>
   intro k N hkm hN hb;cases N with
   |zero=>omega
   |succ N=>
    simp only[S3,hb k (y6 _) (by omega),b7l];cases hq:q k with
    |none=>exact ih (k+1) N (by omega) (by omega) (fun i h1 h2=>hb i (by omega) h2)
    |some r=>rfl
 exact key (n-k) k a0X (by omega) (by unfold a0X;omega) h
theorem a7v{R:Type}{q:Nat→Option R}:∀(m k:Nat),(∀i,k≤i→i<k+m→q i=none)→b7l q k m=.inl (k+m)
 |0,k,_=>rfl
 |m+1,k,h=>by
  simp only[b7l,h k (y6 _) (by omega)];rw[a7v m (k+1) (fun i h1 h2=>h i (by omega) (by omega))];congr 1;omega
theorem a6O{R:Type}{q:Nat→Option R}:∀(m k i:Nat),k≤i→i<k+m→q i≠none→∃j r,k≤j∧j<k+m∧q j=some r∧b7l q k m=.inr r
 |0,k,i,h1,h2,_=>by omega
 |m+1,k,i,h1,h2,h3=>by
  cases hq:q k with
  |some r=>exact⟨k,r,y6 _,by omega,hq,by simp only[b7l,hq]⟩
  |none=>
   have:k≠i:=fun e=>h3 (e▸hq)
   obtain⟨j,r,a,b,c,d⟩:=a6O m (k+1) i (by omega) (by omega) h3;exact⟨j,r,by omega,by omega,c,by simp only[b7l,hq,d]⟩
theorem c7E{body:Int→Option (Sum Int (Sum Int Bool))}(n:Nat)(hn:n≤9223372036854775807)(q:Nat→Prop)[DecidablePred q](k:Nat)(hk:k≤n)
 (h:∀i,k≤i→i<n→body (i:Int)=some (if q i then .inl ((i+1:Nat):Int)else .inr (.inr false)))
 (he:body (n:Int)=some (.inr (.inl (n:Int)))) (ans:Bool) (hb:ans=true↔∀i,k≤i→i<n→q i):
 (o8 body (k:Int)).bind (fun e=>match e with|.inl _=>some true|.inr r=>some r)=some ans:=by
 rw[a9O n hn (fun i=>if q i then none else some false) k hk (fun i h1 h2=>by rw[h i h1 h2];by_cases hq:q i<;>simp[hq]) he]
 by_cases hall:∀i,k≤i→i<n→q i
 ·rw[a7v _ _ (fun i h1 h2=>by simp[hall i h1 (by omega)])];simp only[j7,hb.2 hall]
 ·have:∃i,k≤i∧i<n∧¬q i:=by
   refine b6S fun hn2=>hall fun i h1 h2=>b6S fun h3=>hn2 ⟨i,h1,h2,h3⟩
  obtain⟨i,h1,h2,h3⟩:=this;obtain⟨j,r,a,b,c,d⟩:=a6O (q:=fun i=>if q i then none else some false) (n-k) k i h1 (by omega) (by simp[h3])
  have hr:r=false:=by
   by_cases hqj:q j
   ·simp[hqj]at c
   ·simpa[hqj]using c.symm
  rw[d,hr];have:ans=false:=by cases ans with|true=>exact absurd (hb.1 rfl) hall|false=>rfl
  simp only[j7,this]
theorem b8N{body:Int→Option (Sum Int (Sum Int Bool))}(n:Nat)(hn:n≤9223372036854775807)(q:Nat→Prop)(k:Nat)(hk:k≤n)
 (h:∀i,k≤i→i<n→(q i∧body (i:Int)=some (.inl ((i+1:Nat):Int)))∨(¬q i∧body (i:Int)=some (.inr (.inr false))))
 (he:body (n:Int)=some (.inr (.inl (n:Int)))) (ans:Bool) (hb:ans=true↔∀i,k≤i→i<n→q i):
 (o8 body (k:Int)).bind (fun e=>match e with|.inl _=>some true|.inr r=>some r)=some ans:=by
 letI:DecidablePred q:=fun _=>Classical.propDecidable _
 exact c7E n hn q k hk (fun i h1 h2=>by rcases h i h1 h2 with⟨a,b⟩|⟨a,b⟩<;>simp only[b,a,D2,G8]) he ans hb
theorem b1w{α:Type}(l:List α)(hl:l.length≤9223372036854775807)(P:α→Option Bool)(p:α→Bool)(hP:∀x,x∈l→P x=some (p x)):
 (Option.bind (Option.bind (o8 (fun(v:Int)=>if(decide (v<(l.length:Int)))=true then Option.bind (idx l v) fun e=>Option.bind (P e) fun x=>if x=true then some (.inr (.inr v))else some (.inl (W (v+1)))else some (.inr (.inl v))) 0)
  fun(e:Sum Int Int)=>match e with|.inl _=>some (-1)|.inr r=>some r) fun x=>some (decide (x≥0)))=some (l.any p):=by
 have hs:=a9O (body:=fun(v:Int)=>if(decide (v<(l.length:Int)))=true then Option.bind (idx l v) fun e=>Option.bind (P e) fun x=>if x=true then some (.inr (.inr v))else some (.inl (W (v+1)))else some (.inr (.inl v)))
  l.length hl (fun i=>match l[i]? with|some x=>if p x then some (i:Int)else none|none=>none) 0 (L0 _) (fun i _ h2=>by
   have hx:idx l (i:Int)=some l[i]:=by simp[idx,h2]
   have hlt:((i:Int)<(l.length:Int)):=by omega
   simp only[hlt,a0a,D2,hx,j7,hP _ (Y8 h2),J7 h2];by_cases hp:p l[i]=true
   ·simp[hp]
   ·simp[hp];exact W_s (by omega)) (by simp)
 rw[show((0:Int))=((0:Nat):Int) from rfl,hs];by_cases hany:l.any p=true
 ·rw[hany];obtain⟨x,hx,hpx⟩:=List.any_eq_true.1 hany;obtain⟨i,hi,rfl⟩:=a8X hx;obtain⟨j,r,a,b,c,d⟩:=a6O (q:=fun i=>match l[i]? with|some x=>if p x then some (i:Int)else none|none=>none) (l.length-0) 0 i (L0 _) (by omega) (by simp[J7 hi,hpx])
  rw[d];have hj:j<l.length:=by omega
  simp only[J7 hj]at c;split at c
  ·simp only[Y9]at c;subst c;simp
  ·cases c
 ·rw[a7v _ _ (fun i _ h2=>by
   have hi:i<l.length:=by omega
   simp only[J7 hi];rw[j6];intro hp;exact hany (List.any_eq_true.2 ⟨l[i],Y8 hi,hp⟩))]
  simp[Bool.not_eq_true _▸hany]
theorem q9{α:Type}{p:Prop}[Decidable p]{k:Option α}(h:p):gd p k=k:=k9 h
def b5N(u:Nat):List UInt8:=if u<10 then []else Lib.decDigits (u / 10)
theorem b1m(u:Nat):Lib.decDigits u=b5N u++ [UInt8.ofNat (48+u % 10)]:=by
 unfold b5N;rw[Lib.decDigits];by_cases h:u<10
 ·simp[h,Nat.mod_eq_of_lt h]
 ·simp[h]
theorem c6P{u:Nat}(h:¬u<10):b5N u=b5N (u / 10)++ [UInt8.ofNat (48+u / 10 % 10)]:=by
 conv=>lhs;unfold b5N
 rw[j6 h,b1m]
theorem c7a(u:Nat)(h:u<256):a4y [IntKind.u8.wrap (u:Int)]=⟨#[UInt8.ofNat u]⟩:=by
 have:IntKind.u8.wrap (u:Int)=u:=by
  have e:IntKind.u8.wrap (u:Int)=(u:Int) % 256:=by simp[IntKind.wrap,IntKind.bits,IntKind.signed]
  rw[e];omega
 rw[this];rfl
theorem a7I(n:Int)(h0:0≤n)(h1:n≤1000000):Y2 n=some (O3 n):=by
 obtain⟨u,rfl⟩:=Int.eq_ofNat_of_zero_le h0
 have hb:∀v:Nat,v≤1000000→a4y [IntKind.u8.wrap (W (48+(v:Int).tmod 10))]=⟨#[UInt8.ofNat (48+v % 10)]⟩:=fun v hv=>by
  have e:(v:Int).tmod 10=((v % 10:Nat):Int):=by rw[Int.tmod_eq_emod_of_nonneg (by omega)];rfl
  rw[e,a2W (by omega),show(48:Int)+((v % 10:Nat):Int)=((48+v % 10:Nat):Int) by omega];exact c7a _ (by omega)
 obtain⟨e,he,v,t,rfl,hv,ht⟩:=a0J (body:=a3Y) (fun s=>∃(v:Nat) (t:List UInt8),s=((v:Int),⟨t.toArray⟩)∧v≤u∧Lib.decDigits u=b5N v++t∧t.length≤20+u-v) (fun s=>s.1.toNat)
  (fun e=>∃(v:Nat) (t:List UInt8),e=((v:Int),⟨t.toArray⟩)∧v<10∧Lib.decDigits u=t) (by
  rintro⟨_,_⟩ ⟨v,t,hs,hv,ht,htl⟩;cases hs;unfold a3Y;by_cases hlt:v<10
  ·left;refine⟨_,by dsimp only;rw[ifn (by omega)],v,t,rfl,hlt,?_⟩;rw[ht];simp[b5N,hlt]
  ·right
   have e1:W ((v:Int).tdiv 10)=((v / 10:Nat):Int):=by
    rw[Int.tdiv_eq_ediv_of_nonneg (by omega),a2W (by omega)];rfl
   dsimp only;rw[ifd (by omega),e1,hb _ (by omega)];refine⟨_,by rw[q9 (by simp[ByteArray.size];omega)],⟨v / 10,UInt8.ofNat (48+v / 10 % 10)::t,?_,by omega,?_,?_⟩,?_⟩
   ·congr 1
   ·rw[ht,c6P hlt];simp
   ·simp;omega
   ·simp;omega) ((u:Int),⟨#[UInt8.ofNat (48+u % 10)]⟩) ⟨u,[UInt8.ofNat (48+u % 10)],rfl,y6 _,b1m u,by simp only[List.length_singleton];omega⟩ (show((u:Int)).toNat<a0X by unfold a0X;omega)
 unfold Y2;rw[hb u (by omega),he];simp only[j7,O3,Lib.itoa_nonneg,ht]
theorem a5c(n lo hi:Int):D0 n lo hi=some (decide (lo≤n∧n≤hi)):=by
 unfold D0;by_cases h:lo≤n<;>simp[h]
theorem c1C(n lo hi:Int):K7 n lo hi=some (decide (lo≤n∧n≤hi)):=by
 unfold K7;by_cases h:lo≤n<;>simp[h]
def a5n(x:o4):Prop:=(0≤x.Depot∧x.Depot≤5)∧0≤x.No∧x.No≤9999
instance (x : o4) : Decidable (a5n x) := inferInstanceAs (Decidable (_ ∧ _))
theorem c5U(x:o4):a1n x=some (decide (a5n x)):=by
 unfold a1n F7;simp only[a5c,j7];unfold a5n;by_cases h:0≤x.Depot∧x.Depot≤5
 ·simp only[h,a0a,D2,U2,a0t]
 ·simp only[h,a0U,M4,G8,a4e]
theorem c6b(x:o4):a3j x=some (decide (a5n x)):=by
 unfold a3j;simp only[c1C,j7];unfold a5n;by_cases h:0≤x.Depot∧x.Depot≤5
 ·simp only[h,a0a,D2,U2,a0t]
 ·simp only[h,a0U,M4,G8,a4e]
def a6C(s:ByteArray):Prop:=s.size≤160∧∀c∈s.data.toList,32≤c.toNat∧c.toNat≤126
instance (s : ByteArray) : Decidable (a6C s) := inferInstanceAs (Decidable (_ ∧ _))
theorem Z3(s:ByteArray):s.size=s.data.toList.length:=by rw[a7s];rfl
theorem c6g(s:ByteArray)(hs:s.size≤9223372036854775807):a3b s=some (decide (a6C s)):=by
 unfold a3b;rw[q9 hs];simp only[j7];have hlen:(J2 s).length=s.size:=by unfold J2;rw[b0O,←Z3]
 have key:=a9O (body:=V9 (J2 s)) (J2 s).length (by omega) (fun i=>match s.data.toList[i]? with|some c=>if 32≤c.toNat∧c.toNat≤126 then none else some false|none=>none) 0 (L0 _) (fun i _ hi=>by
  unfold V9;have hi':i<s.data.toList.length:=by rw[←Z3];omega
  rw[k9 (by simpa using hi),L5 hi,j7,J7 hi']
  have e:(J2 s)[i]=((s.data.toList[i]).toNat:Int):=by simp[J2]
  rw[e,W_s (by omega)];simp only;by_cases h1:(s.data.toList[i]).toNat<32
  ·rw[ifd (by omega),j6 (by omega)]
  ·by_cases h2:(s.data.toList[i]).toNat>126
   ·rw[ifn (by omega),ifd (by omega),j6 (by omega)]
   ·rw[ifn (by omega),ifn (by omega),k9 (by omega)]) (by unfold V9;rw[j6 (by simp)])
 rw[show((0:Int))=((0:Nat):Int) from rfl,key];by_cases hall:∀c∈s.data.toList,32≤c.toNat∧c.toNat≤126
 ·rw[a7v _ _ fun i _ hi=>by
   have hi':i<s.data.toList.length:=by rw[←Z3];omega
   rw[J7 hi'];exact k9 (hall _ (Y8 hi'))]
  simp only[j7];congr 1;rw[decide_eq_decide];exact⟨fun h=>⟨by omega,hall⟩,fun h=>by have:=h.1;omega⟩
 ·obtain⟨c,hc,hbad⟩:∃c∈s.data.toList,¬(32≤c.toNat∧c.toNat≤126):=by
   refine b6S fun h=>hall fun c hc=>b6S fun h2=>h ⟨c,hc,h2⟩
  obtain⟨i,hi,rfl⟩:=a8X hc
  obtain⟨j,r,_,hj,hq,e⟩:=a6O (q:=fun i=>match s.data.toList[i]? with|some c=>if 32≤c.toNat∧c.toNat≤126 then none else some false|none=>none) ((J2 s).length-0) 0 i (L0 _) (by rw[hlen,Z3];omega) (by
   rw[J7 hi];simp only;rw[j6 hbad];simp)
  have hr:r=false:=by
   split at hq
   ·split at hq<;>simp at hq;exact hq
   ·cases hq
  rw[e,hr];have:¬a6C s:=fun h=>hall h.2
  simp[this]
theorem c2J(s:ByteArray)(hs:s.size≤9223372036854775807):a4N s=some (decide (a6C s)):=by
 unfold a4N;by_cases x1:s.size≤160
 ·rw[ifn (by omega)]
  have key:=b8N (body:=a0B s) s.size (by omega) (fun i=>∀c,s.data.toList[i]?=some c→32≤c.toNat∧c.toNat≤126) 0 (L0 _) (fun i _ hi=>by
   unfold a0B;have hi':i<s.data.toList.length:=by rw[←Z3];omega
   rw[k9 (by simpa using hi),L5 hi',j7,j7,W_s (by omega)]
   have hq:(∀c,s.data.toList[i]?=some c→32≤c.toNat∧c.toNat≤126)↔32≤(s.data.toList[i]).toNat∧(s.data.toList[i]).toNat≤126:=by
    rw[J7 hi'];simp
   rw[hq];by_cases h1:(s.data.toList[i]).toNat<32
   ·right;rw[ifd (by omega)];exact⟨by omega,rfl⟩
   ·by_cases h2:(s.data.toList[i]).toNat>126
    ·right;rw[ifn (by omega),ifd (by omega)];exact⟨by omega,rfl⟩
    ·left;rw[ifn (by omega),ifn (by omega)];exact⟨by omega,rfl⟩) (by unfold a0B;rw[j6 (by simp)]) (decide (a6C s)) (by
   rw[decide_eq_true_iff];constructor
   ·rintro⟨_,h⟩ i _ _ c hc;exact h c (b0f hc)
   ·intro h;refine⟨x1,fun c hc=>?_⟩;obtain⟨i,hi,rfl⟩:=a8X hc;exact h i (L0 _) (by rw[Z3];exact hi) _ (J7 hi))
  exact key
 ·rw[ifd (by omega)];have:¬a6C s:=fun h=>x1 h.1
  simp[this]
def z8(r:b9):Prop:=a5n r.At∧(0≤r.Kind∧r.Kind≤60)∧(0≤r.Day∧r.Day≤100000)∧(0≤r.Known∧r.Known≤100000)∧a6C r.Text∧
 (if r.Kind=0 then r.Day=0∧r.Text=⟨#[]⟩∧a5n r.Of∧r.Of.Depot=r.At.Depot∧r.Of.No<r.At.No else r.Of=⟨0,0⟩)
instance (r : b9) : Decidable (z8 r) := by unfold z8; infer_instance
theorem a5B(a b:ByteArray):(a.toList==b.toList)=decide (a=b):=by
 rw[a8I,L9,decide_eq_true_iff];constructor
 ·intro h;have h2:a.data.toList=b.data.toList:=by rw[ByteArray.toList_eq,ByteArray.toList_eq]at h;exact h
  exact a7U (N8 h2)
 ·intro h;rw[h]
theorem V4(r:b9)(hs:r.Text.size≤9223372036854775807):w7 r=some (decide (z8 r)):=by
 unfold w7 a2i;simp only[a5c,c5U,c6g _ hs,j7,a5B];unfold z8;by_cases h1:a5n r.At
 ·by_cases h2:0≤r.Kind∧r.Kind≤60
  ·by_cases h3:0≤r.Day∧r.Day≤100000
   ·by_cases h4:0≤r.Known∧r.Known≤100000
    ·by_cases h5:a6C r.Text
     ·simp only[h1,h2,h3,h4,h5,a0a,a2R,M4,G8,U2,a0t];by_cases hk:r.Kind=0
      ·simp only[hk,beq_self_eq_true,D2];by_cases h6:r.Day=0
       ·by_cases h7:r.Text=⟨#[]⟩
        ·by_cases h8:a5n r.Of
         ·by_cases h9:r.Of.Depot=r.At.Depot<;>simp[h6,h7,h8,h9]
         ·simp[h6,h7,h8]
        ·simp[h6,h7]
       ·simp[h6]
      ·have:(r.Kind==0)=false:=by simpa using hk
       simp only[this,hk,M4,G8];congr 1;rw[a8I];simp only[D7,L9,R5];constructor
       ·rintro⟨a,b⟩;cases hof:r.Of;simp_all
       ·intro h;rw[h];simp
     ·simp[h1,h2,h3,h4,h5]
    ·simp only[h1,h2,h3,h4,a0a,a0U,a2R,a4G,M4,G8,D2,U2,a4e,and_false,a0t]
   ·simp only[h1,h2,h3,a0a,a0U,a2R,a4G,M4,G8,D2,U2,a4e,and_false,a0t]
  ·simp only[h1,h2,a0a,a0U,a2R,a4G,M4,G8,D2,U2,a4e,and_false,a0t]
 ·simp[h1]
theorem a0e(r:b9)(hs:r.Text.size≤9223372036854775807):G9 r=some (if z8 r then 0 else 80):=by
 unfold G9;simp only[c1C,c6b,c2J _ hs,j7,a5B];unfold z8;by_cases h1:a5n r.At
 ·by_cases h2:0≤r.Kind∧r.Kind≤60
  ·by_cases h3:0≤r.Day∧r.Day≤100000
   ·by_cases h4:0≤r.Known∧r.Known≤100000
    ·by_cases h5:a6C r.Text
     ·simp only[h1,h2,h3,h4,h5,a0a,a2R,M4,G8,U2,a0t];by_cases hk:r.Kind=0
      ·simp only[hk,beq_self_eq_true,D2];by_cases h6:r.Day=0
       ·by_cases h7:r.Text=⟨#[]⟩
        ·by_cases h8:a5n r.Of
         ·by_cases h9:r.Of.Depot=r.At.Depot
          ·by_cases x1:r.Of.No<r.At.No
           ·have:¬(r.Of.No≥r.At.No):=by omega
            simp[h6,h7,h8,h9,x1,this]
           ·have:r.Of.No≥r.At.No:=by omega
            simp[h6,h7,h8,h9,x1,this]
          ·simp[h6,h7,h8,h9]
         ·simp[h6,h7,h8]
        ·simp[h6,h7]
       ·simp[h6]
      ·have:(r.Kind==0)=false:=by simpa using hk
       simp only[this,hk,M4,G8];by_cases ho:r.Of=⟨0,0⟩
       ·simp[ho]
       ·have:((r.Of.Depot==0)&&(r.Of.No==0))=false:=by
         cases hb:((r.Of.Depot==0)&&(r.Of.No==0))with
         |false=>rfl
         |true=>
          simp only[D7,L9]at hb;exact absurd (by cases hof:r.Of;rw[hof]at hb;simp_all) ho
        simp[this,ho]
     ·simp[h1,h2,h3,h4,h5]
    ·simp only[h1,h2,h3,h4,a0a,a0U,a2R,a4G,M4,G8,D2,U2,a4e,and_false,a0t]
   ·simp only[h1,h2,h3,a0a,a0U,a2R,a4G,M4,G8,D2,U2,a4e,and_false,a0t]
  ·simp only[h1,h2,a0a,a0U,a2R,a4G,M4,G8,D2,U2,a4e,and_false,a0t]
 ·simp[h1]
def K6(c:d8):Prop:=(0≤c.No∧c.No≤59)∧(1≤c.Parts∧c.Parts≤10)∧(0≤c.Part∧c.Part≤c.Parts-1)∧(1≤c.Size∧c.Size≤24)∧(c.Text.size:Int)=c.Size
instance (c : d8) : Decidable (K6 c) := by unfold K6; infer_instance
theorem c3Z(c:d8):a2b c=some (decide (K6 c)):=by
 unfold a2b;simp only[a5c,j7];unfold K6;by_cases h1:0≤c.No∧c.No≤59
 ·by_cases h2:1≤c.Parts∧c.Parts≤10
  ·rw[a2W (z:=c.Parts-1) (by omega)];by_cases h3:0≤c.Part∧c.Part≤c.Parts-1
   ·by_cases h4:1≤c.Size∧c.Size≤24
    ·simp only[h1,h2,h3,h4,a0a,D2,U2,a0t];congr 1
    ·simp only[h1,h2,h3,h4,a0a,a0U,D2,M4,G8,U2,a0t,a4e]
   ·simp only[h1,h2,h3,a0a,a0U,D2,M4,G8,U2,a0t,a4e]
  ·simp only[h1,h2,a0a,a0U,D2,M4,G8,U2,a0t,a4e]
 ·simp only[h1,a0U,M4,G8,a4e]
theorem b9g(c:d8):a2d c=some (if K6 c then 0 else 87):=by
 unfold a2d;simp only[c1C,j7];unfold K6;by_cases h1:0≤c.No∧c.No≤59
 ·by_cases h2:1≤c.Parts∧c.Parts≤10
  ·rw[a2W (z:=c.Parts-1) (by omega)];by_cases h3:0≤c.Part∧c.Part≤c.Parts-1
   ·by_cases h4:1≤c.Size∧c.Size≤24
    ·simp only[h1,h2,h3,h4,a0a,a2R,M4,G8,U2,a0t];by_cases h5:(c.Text.size:Int)=c.Size<;>simp[h5]
    ·simp only[h1,h2,h3,h4,a0a,a0U,a2R,a4G,D2,M4,G8,U2,a0t,a4e]
   ·simp only[h1,h2,h3,a0a,a0U,a2R,a4G,D2,M4,G8,U2,a0t,a4e]
  ·simp only[h1,h2,a0a,a0U,a2R,a4G,D2,M4,G8,U2,a0t,a4e]
 ·simp only[h1,a0U,a4G,D2,a4e,G8]
theorem L1(n:Int)(h0:0≤n)(h1:n≤1000000):(O3 n).size≤21:=by
 have:=Lib.itoa_length_le n (by omega) (by omega);unfold O3;rw[Z3];simpa using this
theorem a7r{r:b9}(h:z8 r):∀n∈F4 r,0≤n∧n≤100000:=by
 obtain⟨⟨⟨a1,a2⟩,a3,a4⟩,⟨b1,b2⟩,⟨c1,c2⟩,⟨d1,d2⟩,_,hif⟩:=h
 have hof:(0≤r.Of.Depot∧r.Of.Depot≤5)∧0≤r.Of.No∧r.Of.No≤9999:=by
  split at hif
  ·exact hif.2.2.1
  ·rw[hif];simp
 intro n hn;simp only[F4,u9,a8m,or_false]at hn;rcases hn with rfl|rfl|rfl|rfl|rfl|rfl|rfl<;>omega
theorem P5{r:b9}(h:z8 r):r.Text.size≤160:=h.2.2.2.2.1.1
theorem a9U{r:b9}(h:z8 r):N3 r=some (R0 r):=by
 unfold N3;exact q9 ⟨fun n hn=>by have:=a7r h n hn;omega,by have:=P5 h;omega⟩
theorem b9q(r:b9):R0 r=O3 r.At.Depot++⟨#[32]⟩++O3 r.At.No++⟨#[32]⟩++O3 r.Kind++⟨#[32]⟩++O3 r.Day++⟨#[32]⟩++O3 r.Known++⟨#[32]⟩++O3 r.Of.Depot++⟨#[32]⟩++O3 r.Of.No++⟨#[32]⟩++r.Text:=by
 apply a7U;apply N8;simp[R0,O4,F4,O3]
theorem c0f{r:b9}(h:z8 r):a5u r=some (R0 r):=by
 have hn:=a7r h;simp only[F4,u9,a8m,or_false,forall_eq_or_imp,forall_eq]at hn;obtain⟨n1,n2,n3,n4,n5,n6,n7⟩:=hn;have t1:=a7I r.At.Depot n1.1 (by omega);have t2:=a7I r.At.No n2.1 (by omega);have t3:=a7I r.Kind n3.1 (by omega);have t4:=a7I r.Day n4.1 (by omega);have t5:=a7I r.Known n5.1 (by omega);have t6:=a7I r.Of.Depot n6.1 (by omega);have t7:=a7I r.Of.No n7.1 (by omega);have s1:=L1 r.At.Depot n1.1 (by omega);have s2:=L1 r.At.No n2.1 (by omega);have s3:=L1 r.Kind n3.1 (by omega);have s4:=L1 r.Day n4.1 (by omega);have s5:=L1 r.Known n5.1 (by omega);have s6:=L1 r.Of.Depot n6.1 (by omega);have s7:=L1 r.Of.No n7.1 (by omega);have hs:(⟨#[32]⟩:ByteArray).size=1:=rfl;have ht:=P5 h;rw[b9q];unfold a5u;rw[t1,j7,t2,t3,t4,t5,t6,t7];simp only[j7];generalize O3 r.At.Depot=x1 at s1⊢;generalize O3 r.At.No=x2 at s2⊢;generalize O3 r.Kind=x3 at s3⊢;generalize O3 r.Day=x4 at s4⊢;generalize O3 r.Known=x5 at s5⊢;generalize O3 r.Of.Depot=x6 at s6⊢;generalize O3 r.Of.No=x7 at s7⊢;generalize r.Text=x8 at ht⊢;clear t1 t2 t3 t4 t5 t6 t7 n1 n2 n3 n4 n5 n6 n7 h;generalize (⟨#[32]⟩:ByteArray)=sp at hs⊢
 iterate 14 rw[q9 (by simp only[b0E,hs];omega)]
def DV(l:List UInt8):Nat:=l.foldl (fun a c=>10*a+(c.toNat-48)) 0
theorem b9O(l:List UInt8)(c:UInt8):DV (l++ [c])=10*DV l+(c.toNat-48):=by simp[DV]
def Dig(c:UInt8):Prop:=48≤c.toNat∧c.toNat≤57
theorem c7K{k:Nat}(h:k<10):(UInt8.ofNat (48+k)).toNat=48+k:=by simp;omega
theorem b9t(u:Nat):(∀c∈Lib.decDigits u,Dig c)∧DV (Lib.decDigits u)=u∧Lib.decDigits u≠ []:=by
 induction u using Nat.strongRecOn with
 |_ u ih=>
  rw[b1m];have x1:u % 10<10:=Nat.mod_lt _ (by omega);have hl:=c7K x1;unfold b5N;by_cases h:u<10
  ·rw[k9 h];refine⟨fun c hc=>?_,?_,by simp⟩
   ·simp only[a2B,a1V]at hc;subst hc;unfold Dig;omega
   ·rw[b9O,hl];simp[DV];omega
  ·rw[j6 h];obtain⟨i1,i2,_⟩:=ih (u / 10) (by omega);refine⟨fun c hc=>?_,?_,by simp⟩
   ·rcases E3.1 hc with hc|hc
    ·exact i1 c hc
    ·simp only[a1V]at hc;subst hc;unfold Dig;omega
   ·rw[b9O,hl,i2];omega
theorem c4T{u k:Nat}(h:u<10^k)(hk:0<k):(Lib.decDigits u).length≤k:=by
 induction k generalizing u with
 |zero=>omega
 |succ k ih=>
  rw[b1m];unfold b5N;by_cases h9:u<10
  ·rw[k9 h9];simp
  ·rw[j6 h9]
   have hk0:0<k:=by
    cases k with
    |zero=>simp at h;omega
    |succ k=>omega
   have:=ih (u:=u / 10) (by rw[Nat.pow_succ]at h;exact Nat.div_lt_of_lt_mul (by omega)) hk0;simp;omega
theorem c9G{α:Type}{l:List α}{i:Nat}(h:i<l.length):idx l (i:Int)=some l[i]:=L5 h
inductive b7k(L:List UInt8)(a:Nat):Int×Int×Bool→Prop
 |found (i:Nat) (h1:a≤i) (h2:i<L.length) (h3:i<a+9) (hd:∀j (hj:j<L.length),a≤j→j<i→Dig L[j]) (hs:L[i].toNat=32):b7k L a (((DV ((L.drop a).take (i-a)):Nat):Int),((i+1:Nat):Int),decide (a<i))
 |bad (hd:∀i (hi:i<L.length),a≤i→i<a+9→(∀j (hj:j<L.length),a≤j→j<i→Dig L[j])→L[i].toNat≠32):b7k L a (0,0,false)
theorem b4N(s:ByteArray)(a:Nat)(ha:a≤s.size)(hs:s.size≤281474976710656):∃r,a1w s (a:Int)=some r∧b7k s.data.toList a r:=by
 have hL:s.data.toList.length=s.size:=(Z3 s).symm;generalize hLd:s.data.toList=L at hL⊢
 obtain⟨e,he,hq⟩:=a0J (body:=a2h s (a:Int))
  (fun st=>∃i:Nat,st=(((DV ((L.drop a).take (i-a)):Nat):Int),(i:Int))∧a≤i∧i≤L.length∧i≤a+9∧(∀j (hj:j<L.length),a≤j→j<i→Dig L[j])∧DV ((L.drop a).take (i-a))<10^(i-a))
  (fun st=>(L.length:Int).toNat-st.2.toNat)
  (fun e=>match e with
   |.inl _=>b7k L a (0,0,false)
   |.inr r=>b7k L a r) (by
  rintro⟨_,_⟩ ⟨i,hst,h1,h2,h3,hd,hb⟩;cases hst;unfold a2h;dsimp only;by_cases hlt:i<L.length
  ·rw[ifd (by omega)];by_cases h9:i<a+9
   ·rw[k9 (by simp only[R5];rw[a2W (by omega)];omega),hLd,c9G hlt,j7]
    have nobad:∀i' (hi':i'<L.length),a≤i'→i'<a+9→(∀j (hj:j<L.length),a≤j→j<i'→Dig L[j])→¬Dig L[i]→L[i].toNat≠32→L[i'].toNat≠32:=by
     intro i' hi' g1 g2 g3 g4 g5 g6;rcases b0A i' i with h|h|h
     ·have:=hd i' hi' g1 h;unfold Dig at this;omega
     ·subst h;exact g5 g6
     ·exact g4 (g3 i hlt h1 h)
    by_cases hsp:L[i].toNat=32
    ·left;refine⟨_,by rw[k9 (by simp[hsp])],?_⟩;have:=b7k.found i h1 hlt h9 hd hsp;rw[W_s (by omega)];have e:decide ((i:Int)>(a:Int))=decide (a<i):=by rw[decide_eq_decide];omega
     rw[e];exact this
    ·rw[j6 (by simp only[L9];omega),j7];by_cases hlo:L[i].toNat<48
     ·left;refine⟨_,by rw[ifd (by omega)],b7k.bad fun i' hi' g1 g2 g3=>nobad i' hi' g1 g2 g3 (fun h=>by unfold Dig at h;omega) hsp⟩
     ·rw[ifn (by omega),j7];by_cases hhi:L[i].toNat>57
      ·left;refine⟨_,by rw[ifd (by omega)],b7k.bad fun i' hi' g1 g2 g3=>nobad i' hi' g1 g2 g3 (fun h=>by unfold Dig at h;omega) hsp⟩
      ·right;rw[ifn (by omega),j7];have hpow:10^(i-a)≤10^8:=Nat.pow_le_pow_right (by omega) (by omega)
       have e1:IntKind.u8.wrap ((L[i].toNat:Int)-48)=((L[i].toNat-48:Nat):Int):=by
        have e:∀z:Int,IntKind.u8.wrap z=z % 256:=fun z=>by simp[IntKind.wrap,IntKind.bits,IntKind.signed]
        rw[e];omega
       have e2:DV ((L.drop a).take (i+1-a))=10*DV ((L.drop a).take (i-a))+(L[i].toNat-48):=by
        rw[show i+1-a=(i-a)+1 by omega,a4l (by simp;omega),b9O];simp only[List.getElem_drop,show a+(i-a)=i by omega]
       have e3:W (W (10*((DV ((L.drop a).take (i-a)):Nat):Int))+W (IntKind.u8.wrap ((L[i].toNat:Int)-48)))=((DV ((L.drop a).take (i+1-a)):Nat):Int):=by
        rw[e1,a2W (z:=10*_) (by omega),a2W (z:=((L[i].toNat-48:Nat):Int)) (by omega),a2W (by omega),e2];omega
       rw[e3,W_s (by omega)];refine⟨_,rfl,⟨i+1,rfl,by omega,by omega,by omega,fun j hj g1 g2=>?_,?_⟩,?_⟩
       ·rcases a4C j i with h|h
        ·exact hd j hj g1 h
        ·obtain rfl:j=i:=by omega
         unfold Dig;omega
       ·rw[e2,show i+1-a=(i-a)+1 by omega,Nat.pow_succ];omega
       ·simp only[a2C];omega
   ·left;refine⟨_,by rw[j6 (by simp only[R5];rw[a2W (by omega)];omega)],b7k.bad fun i' hi' g1 g2 g3 h=>?_⟩;have:=hd i' hi' g1 (by omega);unfold Dig at this;omega
  ·left;refine⟨_,by rw[ifn (by omega)],b7k.bad fun i' hi' g1 g2 g3 h=>?_⟩;have:=hd i' hi' g1 (by omega);unfold Dig at this;omega) (0,(a:Int)) ⟨a,by simp[DV],y6 _,by omega,by omega,fun j hj g1 g2=>by omega,by simp[DV]⟩ (show(L.length:Int).toNat-(a:Int).toNat<a0X by unfold a0X;simp only[a2C];omega)
 unfold a1w;rw[he,j7];cases e with
 |inl e=>exact⟨_,rfl,hq⟩
 |inr e=>exact⟨_,rfl,hq⟩
theorem c3Y(s:ByteArray)(hs:s.size≤281474976710656)(pre post:List UInt8)(u:Nat)(hu:u<100000000)(hL:s.data.toList=pre++(Lib.decDigits u++32::post)):
 a1w s (pre.length:Int)=some ((u:Int),((pre.length+(Lib.decDigits u).length+1:Nat):Int),true):=by
 have hsz:=Z3 s;have hlen:=Y7 List.length hL;simp only[O6,Y0]at hlen;obtain⟨d1,d2,d3⟩:=b9t u;have d4:=c4T (k:=8) (by omega) (by omega) (u:=u)
 have d5:0<(Lib.decDigits u).length:=by
  cases h:Lib.decDigits u with
  |nil=>exact absurd h d3
  |cons=>simp
 obtain⟨r,h1,h2⟩:=b4N s pre.length (by omega) hs;rw[h1]
 have hat:∀j (hj:j<s.data.toList.length),pre.length≤j→j<pre.length+(Lib.decDigits u).length→Dig s.data.toList[j]:=by
  intro j hj g1 g2
  have:s.data.toList[j]=(Lib.decDigits u)[j-pre.length]:=by
   simp only[hL];rw[List.getElem_append_right (by omega),List.getElem_append_left]
  rw[this];exact d1 _ (Y8 _)
 have hsp:s.data.toList[pre.length+(Lib.decDigits u).length]'(by omega)=32:=by
  simp only[hL];rw[List.getElem_append_right (by omega),List.getElem_append_right (by omega)];simp
 cases h2 with
 |found i g1 g2 g3 hd hsi=>
  have:i=pre.length+(Lib.decDigits u).length:=by
   rcases b0A i (pre.length+(Lib.decDigits u).length)with h|h|h
   ·have:=hat i g2 g1 h;unfold Dig at this;omega
   ·exact h
   ·have:=hd _ (by omega) (by omega) h;rw[hsp]at this;unfold Dig at this;simp at this
  subst this
  have e:(s.data.toList.drop pre.length).take (pre.length+(Lib.decDigits u).length-pre.length)=Lib.decDigits u:=by
   rw[hL,List.drop_left,Nat.add_sub_cancel_left,List.take_left]
  rw[e,d2];simp[d5]
 |bad hb=>
  exact absurd (by rw[hsp];rfl) (hb (pre.length+(Lib.decDigits u).length) (by omega) (by omega) (by omega) fun j hj g1 g2=>hat j hj g1 g2)
theorem W5{S E:Type}{body:S→Option (Sum S E)}(st:Nat→S)(n:Nat)(hn:n≤9223372036854775807)(fin:E)(h:∀k,k<n→body (st k)=some (.inl (st (k+1))))(he:body (st n)=some (.inr fin)):o8 body (st 0)=some fin:=by
 have key:∀(m k N:Nat),k+m=n→m<N→S3 body N (st k)=some fin:=by
  intro m
  induction m with
  |zero=>
   intro k N hk hN;cases N with
   |zero=>omega
   |succ N=>
    obtain rfl:k=n:=by omega
    simp only[S3,he]
  |succ m ih=>
   intro k N hk hN;cases N with
   |zero=>omega
   |succ N=>
    simp only[S3,h k (by omega)];exact ih (k+1) N (by omega) (by omega)
 exact key n 0 a0X (by omega) (by unfold a0X;omega)
theorem a9S(r:b9):(R0 r).data.toList=O4 (F4 r)++r.Text.data.toList:=by
 unfold R0;rw[ByteArray.data_append];simp
theorem c9k(ns:List Int)(k:Nat)(hk:k<ns.length):O4 ns=O4 (ns.take k)++(Lib.itoa ns[k]++32::O4 (ns.drop (k+1))):=by
 have e:ns=ns.take k++ns[k]::ns.drop (k+1):=by rw[←b6l hk,b0m]
 have e2:O4 ns=O4 (ns.take k++ns[k]::ns.drop (k+1)):=by rw[←e]
 rw[e2];unfold O4;rw[List.flatMap_append,U0];simp
theorem c2x(ns:List Int)(k:Nat)(hk:k<ns.length):(O4 (ns.take (k+1))).length=(O4 (ns.take k)).length+(Lib.itoa ns[k]).length+1:=by
 rw[a4l hk,b7Z];simp;omega
theorem a1X{r:b9}(h:z8 r):(R0 r).size≤400:=by
 have hn:=a7r h;simp only[F4,u9,a8m,or_false,forall_eq_or_imp,forall_eq]at hn;obtain⟨n1,n2,n3,n4,n5,n6,n7⟩:=hn;have s1:=L1 r.At.Depot n1.1 (by omega);have s2:=L1 r.At.No n2.1 (by omega);have s3:=L1 r.Kind n3.1 (by omega);have s4:=L1 r.Day n4.1 (by omega);have s5:=L1 r.Known n5.1 (by omega);have s6:=L1 r.Of.Depot n6.1 (by omega);have s7:=L1 r.Of.No n7.1 (by omega);have hs:(⟨#[32]⟩:ByteArray).size=1:=rfl;have ht:=P5 h;rw[b9q];generalize O3 r.At.Depot=x1 at s1⊢;generalize O3 r.At.No=x2 at s2⊢;generalize O3 r.Kind=x3 at s3⊢;generalize O3 r.Day=x4 at s4⊢;generalize O3 r.Known=x5 at s5⊢;generalize O3 r.Of.Depot=x6 at s6⊢;generalize O3 r.Of.No=x7 at s7⊢;generalize r.Text=x8 at ht⊢;generalize (⟨#[32]⟩:ByteArray)=sp at hs⊢;simp only[b0E,hs];omega
theorem c8h{r:b9}(h:z8 r)(k:Nat)(hk':k<(F4 r).length):a1w (R0 r) (((O4 ((F4 r).take k)).length:Nat):Int)=some ((F4 r)[k],(((O4 ((F4 r).take (k+1))).length:Nat):Int),true):=by
 have hn:=a7r h _ (Y8 hk');obtain⟨u,hu⟩:=Int.eq_ofNat_of_zero_le hn.1;have hl:=a9S r;rw[c9k _ k hk',a3z,a3z]at hl;rw[hu,Lib.itoa_nonneg]at hl;have:=c3Y (R0 r) (by have:=a1X h;omega) (O4 ((F4 r).take k)) (O4 ((F4 r).drop (k+1))++r.Text.data.toList) u (by omega) (by rw[hl];simp);rw[this,c2x _ k hk',hu,Lib.itoa_nonneg]
theorem c8q{r:b9}:(R0 r).extract (O4 (F4 r)).length (R0 r).size=r.Text:=by
 apply a7U;apply N8;rw[ByteArray.data_extract];have hl:=a9S r;simp only[Array.toList_extract,List.extract_eq_take_drop,hl,List.drop_left];rw[a5m];rw[Z3,hl];simp
def zR:b9:=⟨⟨0,0⟩,0,0,0,⟨0,0⟩,⟨#[]⟩⟩
def stQ(r:b9):Nat→Int×Int×Int×Int×Int×Int×Int×Int×Int
 |0=>(0,0,0,0,0,0,0,0,0)
 |1=>((((O4 ((F4 r).take 1)).length:Nat):Int),1,r.At.Depot,0,0,0,0,0,0)
 |2=>((((O4 ((F4 r).take 2)).length:Nat):Int),2,r.At.Depot,r.At.No,0,0,0,0,0)
 |3=>((((O4 ((F4 r).take 3)).length:Nat):Int),3,r.At.Depot,r.At.No,r.Kind,0,0,0,0)
 |4=>((((O4 ((F4 r).take 4)).length:Nat):Int),4,r.At.Depot,r.At.No,r.Kind,r.Day,0,0,0)
 |5=>((((O4 ((F4 r).take 5)).length:Nat):Int),5,r.At.Depot,r.At.No,r.Kind,r.Day,r.Known,0,0)
 |6=>((((O4 ((F4 r).take 6)).length:Nat):Int),6,r.At.Depot,r.At.No,r.Kind,r.Day,r.Known,r.Of.Depot,0)
 |_=>((((O4 (F4 r)).length:Nat):Int),7,r.At.Depot,r.At.No,r.Kind,r.Day,r.Known,r.Of.Depot,r.Of.No)
theorem c0A{r:b9}(h:z8 r):a0u (R0 r)=some (r,0):=by
 have hz:=a1X h;have A:=fun k hk=>c8h h k hk
 have hl:(F4 r).length=7:=rfl;have a0:=A 0 (by omega);have a1:=A 1 (by omega);have a2:=A 2 (by omega);have a3:=A 3 (by omega);have a4:=A 4 (by omega);have a5:=A 5 (by omega);have a6:=A 6 (by omega);clear A;have e0:(((O4 ((F4 r).take 0)).length:Nat):Int)=0:=by simp[O4]
 rw[e0]at a0;have e7:(F4 r).take (6+1)=F4 r:=by simp[F4]
 rw[e7]at a6;simp only[a0k,Nat.reduceAdd]at a0 a1 a2 a3 a4 a5 a6
 have hloop:o8 (B5 (R0 r)) (stQ r 0)=some (.inl (stQ r 7)):=W5 (stQ r) 7 (by omega) _ (fun k hk=>by
  match k,hk with
  |0,_=>
   simp only[stQ];unfold B5;dsimp only;rw[k9 (by decide),a0,show W (0+1)=1 from rfl];simp[gd,idx,F4]
  |1,_=>
   simp only[stQ];unfold B5;dsimp only;rw[k9 (by decide),a1,show W (1+1)=2 from rfl];simp[gd,idx,F4]
  |2,_=>
   simp only[stQ];unfold B5;dsimp only;rw[k9 (by decide),a2,show W (2+1)=3 from rfl];simp[gd,idx,F4]
  |3,_=>
   simp only[stQ];unfold B5;dsimp only;rw[k9 (by decide),a3,show W (3+1)=4 from rfl];simp[gd,idx,F4]
  |4,_=>
   simp only[stQ];unfold B5;dsimp only;rw[k9 (by decide),a4,show W (4+1)=5 from rfl];simp[gd,idx,F4]
  |5,_=>
   simp only[stQ];unfold B5;dsimp only;rw[k9 (by decide),a5,show W (5+1)=6 from rfl];simp[gd,idx,F4]
  |6,_=>
   simp only[stQ];unfold B5;dsimp only;rw[k9 (by decide),a6,show W (6+1)=7 from rfl];simp[gd,idx,F4]) (by
  simp only[stQ];unfold B5;dsimp only;rw[j6 (by decide)])
 unfold a0u;rw[show((0,0,0,0,0,0,0,0,0):Int×Int×Int×Int×Int×Int×Int×Int×Int)=stQ r 0 from rfl,hloop,j7];simp only[stQ];have hsz:(O4 (F4 r)).length≤(R0 r).size:=by rw[Z3,a9S];simp
 rw[q9 (by omega),a2C,c8q];have hr:(⟨⟨r.At.Depot,r.At.No⟩,r.Kind,r.Day,r.Known,⟨r.Of.Depot,r.Of.No⟩,r.Text⟩:b9)=r:=rfl;rw[hr,a0e r (by have:=P5 h;omega),k9 h,j7,j6 (by decide),c0f h,j7,a5B];simp
theorem c2w(s:ByteArray)(hs:s.size≤281474976710656)(h:∀r,z8 r→R0 r≠s):a0u s=some (zR,5):=by
 obtain⟨e,he,hq⟩:=a0J (body:=B5 s) (fun st=>∃a i:Nat,st.1=(a:Int)∧a≤s.size∧st.2.1=(i:Int)∧i≤7) (fun st=>7-st.2.1.toNat)
  (fun e=>match e with|.inl st=>∃a:Nat,st.1=(a:Int)∧a≤s.size|.inr r=>r=(zR,5)) (by
  rintro⟨_,_,v1,v2,v3,v4,v5,v6,v7⟩ ⟨a,i,h1,ha,h2,hi⟩;dsimp only at h1 h2;subst h1 h2;unfold B5;dsimp only;by_cases h7:i<7
  ·rw[ifd (by omega)];obtain⟨r,hr,hne⟩:=b4N s a ha hs;rw[hr,j7];cases hne with
   |found j g1 g2 g3 hd hsp=>
    dsimp only;by_cases hlt:a<j
    ·right;rw[decide_eq_true hlt,j6 (by decide),q9 (by omega)];have hidx:∃x,idx [v1,v2,v3,v4,v5,v6,v7] (i:Int)=some x:=⟨_,L5 (by simpa using h7)⟩
     obtain⟨x,hx⟩:=hidx;rw[hx];simp only[j7];rw[W_s (by omega)];refine⟨_,rfl,⟨j+1,i+1,rfl,?_,rfl,by omega⟩,?_⟩
     ·rw[Z3];omega
     ·simp only[a2C];omega
    ·left;rw[decide_eq_false hlt,k9 (by decide)];exact⟨_,rfl,rfl⟩
   |bad hb=>
    left;exact⟨_,rfl,rfl⟩
  ·left;rw[ifn (by omega)];exact⟨_,rfl,a,rfl,ha⟩) (0,0,0,0,0,0,0,0,0) ⟨0,0,rfl,L0 _,rfl,by omega⟩ (show 7-(0:Int).toNat<a0X by unfold a0X;omega)
 unfold a0u;rw[he,j7];cases e with
 |inr e=>rw[hq]
 |inl st=>
  obtain⟨a',i',v1,v2,v3,v4,v5,v6,v7⟩:=st;obtain⟨a,h1,ha⟩:=hq;dsimp only at h1;subst h1;dsimp only;rw[q9 (by omega),a2C];have hx:(s.extract a s.size).size≤9223372036854775807:=by rw[ByteArray.size_extract];omega
  generalize hR:(⟨⟨v1,v2⟩,v3,v4,v5,⟨v6,v7⟩,s.extract a s.size⟩:b9)=R;have hT:R.Text.size≤9223372036854775807:=by rw[←hR];exact hx
  rw[a0e R hT,j7];by_cases hok:z8 R
  ·rw[k9 hok,j6 (by decide),c0f hok,j7,a5B];have:=h R hok;rw[k9 (by simpa using this)];rfl
  ·rw[j6 hok,k9 (by decide)];rfl
theorem c1j:∀(d post:List UInt8),(∀c∈d,c≠32)→Lib.indexByte (d++32::post) 32=d.length
 |[],post,_=>by simp[Lib.indexByte]
 |c::d,post,h=>by
  have ih:=c1j d post fun x hx=>h x (F6 _ hx)
  have hc:=h c C7;simp only[a1l,Lib.indexByte,ih];rw[j6 (by simpa using hc),j6 (by simp)]
  simp
theorem b5G:∀(l:List UInt8) (acc:Nat) (c:UInt8),Lib.parseUint10 acc (l++ [c])=match Lib.parseUint10 acc l with|.ok a=>Lib.parseUint10 a [c]|e=>e
 |[],acc,c=>rfl
 |x::l,acc,c=>by
  simp only[a1l,Lib.parseUint10];split
  ·split
   ·rfl
   ·split
    ·rfl
    ·exact b5G l _ c
  ·rfl
theorem c6l(u:Nat)(hu:u<1000000000000000000):Lib.parseUint10 0 (Lib.decDigits u)=.ok u:=by
 induction u using Nat.strongRecOn with
 |_ u ih=>
  have x1:u % 10<10:=Nat.mod_lt _ (by omega);have hl:=c7K x1;rw[b1m,b5G]
  have hp:Lib.parseUint10 0 (b5N u)=.ok (u / 10):=by
   unfold b5N;by_cases h:u<10
   ·rw[k9 h,Nat.div_eq_of_lt h];rfl
   ·rw[j6 h];exact ih _ (by omega) (by omega)
  rw[hp];simp only[Lib.parseUint10,hl];rw[k9 (by omega),j6 (by omega),j6 (by omega)];congr 1;omega
theorem c7v(u:Nat)(hu:u<1000000000000000000):Lib.atoiAll (Lib.decDigits u)=.ok (u:Int):=by
 obtain⟨d1,_,d3⟩:=b9t u;have hp:=c6l u hu;cases hd:Lib.decDigits u with
 |nil=>exact absurd hd d3
 |cons c r=>
  have hc:Dig c:=d1 c (by rw[hd];exact C7);unfold Dig at hc;unfold Lib.atoiAll Lib.parseMag;rw[hd]at hp;simp only;rw[j6 (show¬(c.toNat=43∨c.toNat=45) by omega),j6 (by simp),hp];simp only;rw[j6 (by omega),j6 (by omega),j6 (by omega)]
theorem d0j(s:ByteArray)(u:Nat)(hu:u<1000000000000000000)(post:List UInt8)(hs:s.data.toList=Lib.decDigits u++32::post):b7r s=some ((u:Int),⟨post.toArray⟩):=by
 obtain⟨d1,_,d3⟩:=b9t u;have hi:=c1j (Lib.decDigits u) post fun c hc e=>by have:=d1 c hc;subst e;unfold Dig at this;simp at this
 have hsz:=Z3 s;have hlen:=Y7 List.length hs;simp only[O6,Y0]at hlen;unfold b7r a8F;rw[hs,hi,k9 (by omega)]
 have e1:(s.extract 0 (Lib.decDigits u).length).data.toList=Lib.decDigits u:=by
  rw[ByteArray.data_extract];simp only[Array.toList_extract,List.extract_eq_take_drop,hs,List.drop_zero,a6l,List.take_left]
 have e2:s.extract ((Lib.decDigits u).length+1) s.size=⟨post.toArray⟩:=by
  apply a7U;apply N8;rw[ByteArray.data_extract];simp only[Array.toList_extract,List.extract_eq_take_drop,hs];rw[show(Lib.decDigits u).length+1=(Lib.decDigits u++ [32]).length by simp,show Lib.decDigits u++32::post=(Lib.decDigits u++ [32])++post by simp,List.drop_left,a5m (by simp;omega)]
 simp only[a2C,e1,c7v u hu,e2]
theorem c5n{r:b9}(h:z8 r):∀k,k≤7→a8D k (R0 r)=some ((F4 r).take k,⟨(O4 ((F4 r).drop k)++r.Text.data.toList).toArray⟩)
 |0,_=>by
  simp only[a8D,a7Q,List.drop_zero];congr 2
 |k+1,hk=>by
  have hk':k<(F4 r).length:=hk;have hn:=a7r h _ (Y8 hk');obtain⟨u,hu⟩:=Int.eq_ofNat_of_zero_le hn.1;simp only[a8D,c5n h k (by omega)]
  have:=d0j ⟨(O4 ((F4 r).drop k)++r.Text.data.toList).toArray⟩ u (by omega) (O4 ((F4 r).drop (k+1))++r.Text.data.toList) (by
   rw[b6l hk',hu];simp only[O4,U0,Lib.itoa_nonneg];simp)
  rw[this];simp only;rw[a4l hk',hu]
theorem b9V{r:b9}(h:z8 r):N6 (R0 r)=some (r,true):=by
 have hz:=a1X h;unfold N6;rw[q9 (by omega),c5n h 7 (y6 _)];have e1:(F4 r).take 7=F4 r:=rfl
 have e2:(⟨(O4 ((F4 r).drop 7)++r.Text.data.toList).toArray⟩:ByteArray)=r.Text:=by
  apply a7U;apply N8;simp[F4,O4]
 have e3:b6D (F4 r) r.Text=r:=rfl;simp only[e1,e2,e3];rw[V4 r (by have:=P5 h;omega),j7,k9 (by simpa using h),a9U h,j7,a5B]
 simp
theorem d1i(s:ByteArray)(hs:s.size≤281474976710656)(h:∀r,z8 r→R0 r≠s):N6 s=some (zR,false):=by
 unfold N6;rw[q9 hs];cases hd:a8D 7 s with
 |none=>rfl
 |some p=>
  obtain⟨l,t⟩:=p;have ht:=(a8E hd).2;simp only;have hT:(b6D l t).Text.size≤9223372036854775807:=by show t.size≤_;omega
  rw[V4 _ hT,j7];by_cases hok:z8 (b6D l t)
  ·rw[k9 (by simpa using hok),a9U hok,j7,a5B]
   have:=h _ hok;rw[j6 (by simpa using this)];rfl
  ·rw[j6 (by simpa using hok)];rfl
def N4(n:Nat):Nat:=(n+23) / 24
def a9a(s:ByteArray)(i:Nat):ByteArray:=s.extract (24*i) (min s.size (24*(i+1)))
def b1S(s:ByteArray)(no:Int)(i:Nat):d8:=⟨no,(i:Int),((N4 s.size:Nat):Int),((a9a s i).size:Int),a9a s i⟩
def a2m(s:ByteArray)(no:Int):List d8:=(List.range (N4 s.size)).map (b1S s no)
theorem a3U(s:ByteArray)(no:Int):(a2m s no).length=N4 s.size:=by simp[a2m]
theorem a4f{n:Nat}(h:n≤400):N4 n≤17:=by unfold N4;omega
theorem b8d{r:b9}(h:z8 r)(no:Int):a4h r no=some (a2m (R0 r) no):=by
 have hz:=a1X h;unfold a4h;rw[c0f h,j7];generalize R0 r=s at hz⊢;have hP:N4 s.size≤17:=a4f hz
 have eP:W ((W ((W ((s.size:Int)+24))-1)).tdiv 24)=((N4 s.size:Nat):Int):=by
  rw[a2W (z:=(s.size:Int)+24) (by omega),a2W (z:=(s.size:Int)+24-1) (by omega),Int.tdiv_eq_ediv_of_nonneg (by omega)];unfold N4;rw[a2W (by omega)];omega
 have key:=W5 (body:=a0g no s) (fun k=>(((List.range k).map (b1S s no)),(k:Int))) (N4 s.size) (by omega) (((List.range (N4 s.size)).map (b1S s no)),((N4 s.size:Nat):Int)) (fun k hk=>by
  have x1:24*k<s.size:=by unfold N4 at hk;omega
  unfold a0g;dsimp only;rw[eP,ifd (by omega)];have e1:W ((k:Int)*24)=((24*k:Nat):Int):=by rw[a2W (by omega)];omega
  have e2:W (W ((k:Int)+1)*24)=((24*(k+1):Nat):Int):=by rw[W_s (by omega),a2W (by omega)];omega
  have e3:(if((24*(k+1):Nat):Int)<(s.size:Int)then((24*(k+1):Nat):Int)else(s.size:Int))=((min s.size (24*(k+1)):Nat):Int):=by
   split<;>omega
  rw[e1,e2,e3,q9 (by omega),a2C,a2C,q9 (by simp;omega),W_s (by omega)];congr 3;rw[List.range_succ,List.map_append];rfl) (by
  unfold a0g;dsimp only;rw[eP,j6 (by simp)])
 have key2:o8 (a0g no s) ([],0)=_:=key;rw[key2,j7];rfl
theorem c3p(l:List UInt8):(l.map fun b=>(b.toNat:Int)).map (fun n=>UInt8.ofNat n.toNat)=l:=by
 rw[List.map_map]
 conv=>rhs;rw[←List.map_id l]
 apply List.map_congr_left;intro c _;simp
theorem c6x(s:ByteArray)(a b:Nat):a4y (sub (J2 s) a b)=s.extract a b:=by
 apply a7U;apply N8;unfold a4y J2 sub;rw[ByteArray.data_extract,←List.map_drop,←List.map_take];simp only[c3p,Array.toList_extract,List.extract_eq_take_drop]
theorem c0C(s:ByteArray)(a b:Nat)(h:b≤s.size):(sub (J2 s) a b).length=b-a:=by
 have:(J2 s).length=s.size:=by unfold J2;rw[b0O,←Z3]
 unfold sub;simp;omega
theorem c6H{n:Nat}{pre post:List Nat}{x:Nat}(h:List.range n=pre++x::post):x=pre.length∧pre.length<n:=by
 have h1:(List.range n)[pre.length]?=some x:=by rw[h];simp
 have h2:=P3.1 h1;obtain⟨g1,g2⟩:=h2;simp at g1 g2;exact⟨g2.symm,g1⟩
theorem c8M(s:ByteArray)(hz:s.size≤400):J1 (J2 s) 24=some ((List.range (N4 s.size)).map fun i=>sub (J2 s) (24*i) (min s.size (24*(i+1))),()):=by
 have hb:(J2 s).length=s.size:=by unfold J2;rw[b0O,←Z3]
 have hP:N4 s.size≤17:=a4f hz;unfold J1
 have key:=b5q (body:=A2 (J2 s) 24) (List.range (N4 s.size)) (by simp;omega) (fun k=>((24*k:Nat):Int)) (fun i=>[sub (J2 s) (24*i) (min s.size (24*(i+1)))]) ((24*N4 s.size:Nat):Int) (fun pre x post hx=>by
  obtain⟨rfl,hlt⟩:=c6H hx;generalize pre.length=k at hlt⊢;have x1:24*k<s.size:=by unfold N4 at hlt;omega
  unfold A2;rw[ifd (by omega),q9 (by omega),j7,a2C];have hl:(sub (J2 s) (24*k) (J2 s).length).length=s.size-24*k:=by rw[hb];exact c0C s _ _ (y6 _)
  have e:W (((24*k:Nat):Int)+(if((sub (J2 s) (24*k) (J2 s).length).length:Int)<24 then((sub (J2 s) (24*k) (J2 s).length).length:Int)else 24))=((min s.size (24*(k+1)):Nat):Int):=by
   rw[hl];split
   ·rw[a2W (by omega)];omega
   ·rw[a2W (by omega)];omega
  rw[e,q9 (by omega),j7,a2C];have e2:W (((24*k:Nat):Int)+24)=((24*(k+1):Nat):Int):=by rw[a2W (by omega)];omega
  rw[e2];rfl) (by
  unfold A2;rw[List.length_range,j6 (by simp only[R5];unfold N4;omega)])
 have key2:b5D (A2 (J2 s) 24) 0=_:=key;rw[key2];simp[b8f,List.flatMap_singleton']
 induction List.range (N4 s.size)with
 |nil=>rfl
 |cons x l ih=>simp[ih]
def b9X(no:Int):Nat→List (List Int)→List d8
 |_,[]=>[]
 |k,y::l=>⟨no,(k:Int),0,(y.length:Int),a4y y⟩::b9X no (k+1) l
theorem c8I(no:Int):∀(l:List (List Int)) (acc:List d8),acc.length+l.length≤1000→U4 (a1K no) l acc=some (.inl (acc++b9X no acc.length l))
 |[],acc,_=>by simp[U4,b9X]
 |y::l,acc,h=>by
  simp only[Y0]at h;simp only[U4,a1K];rw[q9 (by simp;omega)];simp only;rw[c8I no l _ (by simp;omega)];simp[b9X]
theorem b4s(no:Int):∀(l:List (List Int)) (k:Nat),(b9X no k l).length=l.length
 |[],_=>rfl
 |y::l,k=>by simp[b9X,b4s no l]
theorem c4Y(no:Int):∀(l:List (List Int)) (k i:Nat) (h:i<l.length),(b9X no k l)[i]?=some ⟨no,((k+i:Nat):Int),0,(l[i].length:Int),a4y l[i]⟩
 |y::l,k,0,h=>by simp[b9X]
 |y::l,k,i+1,h=>by
  simp only[b9X,List.getElem?_cons_succ,List.getElem_cons_succ];rw[c4Y no l (k+1) i (by simpa using h)]
  congr 2;omega
theorem d0m(v:List d8)(hv:v.length≤1000):o8 (Q8 v) (0,v)=some ((v.length:Int),v.map fun c=>⟨c.No,c.Part,(v.length:Int),c.Size,c.Text⟩):=by
 have key:=W5 (body:=Q8 v) (fun k=>((k:Int),(v.take k).map (fun c=>(⟨c.No,c.Part,(v.length:Int),c.Size,c.Text⟩:d8))++v.drop k)) v.length (by omega) ((v.length:Int),v.map fun c=>⟨c.No,c.Part,(v.length:Int),c.Size,c.Text⟩) (fun k hk=>by
  unfold Q8;dsimp only;rw[ifd (by omega)];have hlen:((v.take k).map (fun c=>(⟨c.No,c.Part,(v.length:Int),c.Size,c.Text⟩:d8))++v.drop k).length=v.length:=by simp;omega
  have hidx:idx ((v.take k).map (fun c=>(⟨c.No,c.Part,(v.length:Int),c.Size,c.Text⟩:d8))++v.drop k) (k:Int)=some v[k]:=by
   rw[L5 (by omega)];rw[List.getElem_append_right (by simp;omega)];simp[a1Q (a5j hk)]
  rw[hidx,j7,j7,W_s (by omega),hlen,a2C];congr 3;rw[List.set_append_right _ _ (by simp;omega)];simp only[b0O,Z5,a1Q (a5j hk),Nat.sub_self];rw[b6l hk,List.set_cons_zero,a4l hk,List.map_append,a3z];rfl) (by
  unfold Q8;dsimp only;rw[j6 (by simp),a8u,List.drop_length,a8R])
 rw[a7Q,List.drop_zero,a6v,a2B]at key;exact key
theorem a9B{r:b9}(h:z8 r)(no:Int):a0L r no=some (a2m (R0 r) no):=by
 have hz:=a1X h;unfold a0L Y1;rw[a9U h,j7];generalize R0 r=s at hz⊢;have hP:N4 s.size≤17:=a4f hz;rw[q9 (by omega),j7,j6 (by decide),j7];dsimp only;rw[c8M s hz,j7];dsimp only;rw[c8I no _ _ (by simp;omega),j7];dsimp only;rw[d0m _ (by simp[b4s];omega),j7];dsimp only;congr 1;apply List.ext_getElem?;intro i;simp only[a2B,List.getElem?_map,N0];by_cases hi:i<N4 s.size
 ·rw[c4Y no _ 0 i (by simpa using hi)]
  simp only[a2m,List.getElem?_map,List.getElem_map,List.getElem_range,List.getElem?_range hi,a6T,b4s,b0O,List.length_range,a0k];congr 1;unfold b1S;have hb:=c6x s (24*i) (min s.size (24*(i+1)));have hl:=c0C s (24*i) (min s.size (24*(i+1))) (by omega);have hl2:(a9a s i).size=min s.size (24*(i+1))-24*i:=by unfold a9a;rw[ByteArray.size_extract];omega
  rw[hb,hl,hl2];rfl
 ·rw[b2t (by simp[b4s];omega),b2t (by rw[a3U];omega)];rfl
theorem c2o(a b:d8):((a.No==b.No)&&((a.Part==b.Part)&&((a.Parts==b.Parts)&&((a.Size==b.Size)&&(a.Text.toList==b.Text.toList)))))=decide (a=b):=by
 rw[a8I,a5B];simp only[D7,L9,R5];cases a;cases b;simp
theorem b4z(a b:b9):((a.At.Depot==b.At.Depot)&&((a.At.No==b.At.No)&&((a.Kind==b.Kind)&&((a.Day==b.Day)&&((a.Known==b.Known)&&((a.Of.Depot==b.Of.Depot)&&((a.Of.No==b.Of.No)&&(a.Text.toList==b.Text.toList))))))))=decide (a=b):=by
 rw[a8I,a5B];simp only[D7,L9,R5];obtain⟨⟨a1,a2⟩,a3,a4,a5,⟨a6,a7⟩,a8⟩:=a;obtain⟨⟨b1,b2⟩,b3,b4,b5,⟨b6,b7⟩,b8⟩:=b;simp[and_assoc]
theorem c8m(a b:o4):((a.Depot==b.Depot)&&(a.No==b.No))=decide (a=b):=by
 rw[a8I];simp only[D7,L9,R5];cases a;cases b;simp
theorem b8O{α:Type}[DecidableEq α]{body:(Bool×Int)→Option (Sum (Bool×Int) (Bool×Int))}(a b:List α)(hl:a.length≤9223372036854775800)
 (h1:∀(i:Nat) (hi:i<a.length) (hj:i<b.length),body (true,(i:Int))=some (.inl (decide (a[i]=b[i]),((i+1:Nat):Int))))
 (h2:∀i:Nat,body (false,(i:Int))=some (.inr (false,(i:Int)))) (h3:body (true,(a.length:Int))=some (.inr (true,(a.length:Int)))):
 Option.bind (o8 body (((a.length:Int)==(b.length:Int)),0)) (fun(x:Bool×Int)=>match x with|(same,_)=>some same)=some (decide (a=b)):=by
 by_cases hab:a.length=b.length
 ·obtain⟨e,he,i,rfl⟩:=a0J (body:=body) (fun st=>∃(i:Nat),i≤a.length∧st.2=(i:Int)∧(st.1=true→a.take i=b.take i)∧(st.1=false→a≠b)) (fun st=>2*a.length+2-(2*st.2.toNat+if st.1 then 0 else 1))
   (fun e=>∃i:Int,e=(decide (a=b),i)) (by
   rintro⟨s,_⟩ ⟨i,hi,rfl,ht,hf⟩;cases s with
   |false=>
    left;refine⟨_,h2 i,i,?_⟩;have:=hf rfl;simp[this]
   |true=>
    have ht:=ht rfl;rcases a4C i a.length with h|h
    ·right;refine⟨_,h1 i h (by omega),⟨i+1,h,rfl,fun hd=>?_,fun hd e=>?_⟩,?_⟩
     ·rw[a4l h,a4l (by omega),ht,of_decide_eq_true hd]
     ·subst e;simp at hd
     ·simp only[a2C];split<;>simp<;>omega
    ·left;obtain rfl:i=a.length:=by omega
     refine⟨_,h3,(a.length:Int),?_⟩
     have:a=b:=by
      rw[a8u,hab,a8u]at ht;exact ht
     simp[this]) (((a.length:Int)==(b.length:Int)),0) ⟨0,L0 _,rfl,fun _=>rfl,fun h=>by rw[hab]at h;simp at h⟩ (by unfold a0X;simp only;omega)
  rw[he];rfl
 ·have e:((a.length:Int)==(b.length:Int))=false:=by rw[beq_eq_false_iff_ne];omega
  rw[e]
  have:o8 body (false,0)=some (false,0):=by
   have:=W5 (body:=body) (fun _=>(false,(0:Int))) 0 (by omega) (false,0) (fun k hk=>by omega) (h2 0);exact this
  rw[this];have hne:a≠b:=fun e=>hab (by rw[e])
  simp[hne]
theorem a7z(a b:List d8)(hl:a.length≤9223372036854775800):U8 a b=some (decide (a=b)):=by
 unfold U8;refine b8O a b hl (fun i hi hj=>?_) (fun i=>?_) ?_
 ·unfold R6;dsimp only;rw[ifd (by omega),k9 rfl,L5 hi,L5 hj,j7,j7,c2o,W_s (by omega)]
 ·unfold R6;dsimp only;split<;>rfl
 ·unfold R6;dsimp only;rw[j6 (by simp)]
theorem a8Y(a b:List b9)(hl:a.length≤9223372036854775800):X3 a b=some (decide (a=b)):=by
 unfold X3;refine b8O a b hl (fun i hi hj=>?_) (fun i=>?_) ?_
 ·unfold N9;dsimp only;rw[ifd (by omega),k9 rfl,L5 hi,L5 hj,j7,j7,b4z,W_s (by omega)]
 ·unfold N9;dsimp only;split<;>rfl
 ·unfold N9;dsimp only;rw[j6 (by simp)]
theorem c0z(a b:List d8)(hl:a.length≤9223372036854775800):E8 a b=some (decide (a=b)):=by
 unfold E8;by_cases hab:a.length=b.length
 ·rw[j6 (by simp[hab])];refine b8N a.length (by omega) (fun i=>a[i]?=b[i]?) 0 (L0 _) (fun i _ hi=>?_) ?_ _ ?_
  ·unfold D1;rw[ifd (by omega),L5 hi,L5 (show i<b.length by omega),j7,j7,c2o,W_s (by omega),J7 hi,J7 (show i<b.length by omega)];by_cases h:a[i]=b[i]'(by omega)
   ·left;refine⟨by rw[h],?_⟩;rw[j6 (by simp[h])]
   ·right;refine⟨by simpa using h,?_⟩;rw[k9 (by simp[h])]
  ·unfold D1;rw[j6 (by simp)]
  ·rw[decide_eq_true_iff];constructor
   ·intro h i _ _;rw[h]
   ·intro h;apply List.ext_getElem?;intro i;by_cases hi:i<a.length
    ·exact h i (L0 _) hi
    ·rw[b2t (by omega),b2t (by omega)]
 ·rw[k9 (by simpa using (by omega:(a.length:Int)≠(b.length:Int)))]
  have:a≠b:=fun e=>hab (by rw[e])
  simp[this]
abbrev I6:=Int×Int×Int×Int×Int×Int
def cnt(l:List b9)(d:Int):Nat:=l.countP fun r=>r.At.Depot==d
def a0h(l:List b9):I6:=((cnt l 0:Nat),(cnt l 1:Nat),(cnt l 2:Nat),(cnt l 3:Nat),(cnt l 4:Nat),(cnt l 5:Nat))
def a4v(t:I6):List Int:=[t.1,t.2.1,t.2.2.1,t.2.2.2.1,t.2.2.2.2.1,t.2.2.2.2.2]
def y8(d:Int):Prop:=0≤d∧d≤5
theorem a2y{d:Int}(h:y8 d):d=0∨d=1∨d=2∨d=3∨d=4∨d=5:=by unfold y8 at h;omega
theorem c5f(d:Int):cnt [] d=0:=rfl
theorem a5C(l:List b9)(r:b9)(d:Int):cnt (l++ [r]) d=cnt l d+if r.At.Depot=d then 1 else 0:=by
 unfold cnt;rw[List.countP_append];by_cases h:r.At.Depot=d<;>simp[h]
theorem c8J(l:List b9)(d:Int):cnt l d≤l.length:=List.countP_le_length
theorem a6n(l:List b9){d:Int}(h:y8 d):idx (a4v (a0h l)) d=some ((cnt l d:Nat):Int):=by
 rcases a2y h with rfl|rfl|rfl|rfl|rfl|rfl<;>rfl
theorem a7W(l:List b9)(hl:l.length≤1000000)(hd:∀r∈l,y8 r.At.Depot):V8 l=some (a0h l):=by
 have key:=a0K (body:=a0c l) (R:=Unit) l (by omega) (fun k (s:I6)=>((k:Int),s.1,s.2.1,s.2.2.1,s.2.2.2.1,s.2.2.2.2.1,s.2.2.2.2.2)) (fun s x=>.inl ((if x.At.Depot=0 then s.1+1 else s.1),(if x.At.Depot=1 then s.2.1+1 else s.2.1),(if x.At.Depot=2 then s.2.2.1+1 else s.2.2.1),(if x.At.Depot=3 then s.2.2.2.1+1 else s.2.2.2.1),(if x.At.Depot=4 then s.2.2.2.2.1+1 else s.2.2.2.2.1),(if x.At.Depot=5 then s.2.2.2.2.2+1 else s.2.2.2.2.2))) (fun _=>((0:Int),(0:Int),(0:Int),(0:Int),(0:Int),(0:Int),(0:Int))) (fun s=>((l.length:Int),s.1,s.2.1,s.2.2.1,s.2.2.2.1,s.2.2.2.2.1,s.2.2.2.2.2)) (fun pre s=>s=a0h pre) (by
  rintro pre x post s hp rfl;have hx:y8 x.At.Depot:=hd x (by rw[hp];simp);have hpl:pre.length<l.length:=by rw[hp];simp
  have hb:∀d,cnt pre d≤pre.length:=c8J pre;constructor
  ·unfold a0c;dsimp only;rw[ifd (by omega)];have hi:idx l ((pre.length:Nat):Int)=some x:=by rw[hp];exact a4P
   rw[hi,j7,q9 (by unfold y8 at hx;omega)];have e:=a6n pre hx;unfold a4v at e;rw[e,j7,q9 (by unfold y8 at hx;omega),j7];have hw:W ((cnt pre x.At.Depot:Nat)+1)=((cnt pre x.At.Depot:Nat):Int)+1:=a2W (by have:=hb x.At.Depot;omega);rw[hw,W_s (by omega)];simp only[j7,a0h];rcases a2y hx with h|h|h|h|h|h<;>rw[h]<;>rfl
  ·intro s' hs';simp only[Sum.inl.injEq]at hs';subst hs';unfold a0h;simp only[a5C];refine Prod.ext ?_ (Prod.ext ?_ (Prod.ext ?_ (Prod.ext ?_ (Prod.ext ?_ ?_))))<;>(dsimp only;split<;>simp)) (by
  rintro s _;unfold a0c;dsimp only;rw[j6 (by simp)]) (0,0,0,0,0,0) (by simp[a0h,cnt])
 unfold V8;have key2:o8 (a0c l) (0,0,0,0,0,0,0)=_:=key;rw[key2]
 have hrun:∀(post pre:List b9),V5 (R:=Unit) (fun(s:I6) (x:b9)=>.inl ((if x.At.Depot=0 then s.1+1 else s.1),(if x.At.Depot=1 then s.2.1+1 else s.2.1),(if x.At.Depot=2 then s.2.2.1+1 else s.2.2.1),(if x.At.Depot=3 then s.2.2.2.1+1 else s.2.2.2.1),(if x.At.Depot=4 then s.2.2.2.2.1+1 else s.2.2.2.2.1),(if x.At.Depot=5 then s.2.2.2.2.2+1 else s.2.2.2.2.2))) post (a0h pre)=.inl (a0h (pre++post)):=by
  intro post
  induction post with
  |nil=>intro pre;simp[V5]
  |cons x post ih=>
   intro pre;simp only[V5];rw[show pre++x::post=(pre++ [x])++post by simp,←ih (pre++ [x])];congr 1;unfold a0h;simp only[a5C];refine Prod.ext ?_ (Prod.ext ?_ (Prod.ext ?_ (Prod.ext ?_ (Prod.ext ?_ ?_))))<;>(dsimp only;split<;>simp)
 have h0:((0,0,0,0,0,0):I6)=a0h []:=by simp[a0h,cnt]
 have hr:=hrun l [];rw[←h0]at hr;rw[hr];rfl
theorem a8e(l:List b9)(hl:l.length≤1000000)(hd:∀r∈l,y8 r.At.Depot):Y4 l=some (a0h l):=a7W l hl hd
theorem a1D{r:b9}(h:z8 r):y8 r.At.Depot:=h.1.1
def P9(l:List b9)(r:b9):Prop:=l.length<60∧((cnt l r.At.Depot:Nat):Int)=r.At.No
instance (l : List b9) (r : b9) : Decidable (P9 l r) := by unfold P9; infer_instance
theorem c4I(l:List b9)(r:b9)(hl:l.length≤1000000)(hd:∀r∈l,y8 r.At.Depot)(hr:y8 r.At.Depot):a3k l r=some (decide (P9 l r)):=by
 unfold a3k P9;by_cases h:l.length<60
 ·rw[ifd (by omega),a7W l hl hd,j7];have e:=a6n l hr;unfold a4v at e;rw[e,j7];simp only[h,U2];congr 1
 ·rw[ifn (by omega)];simp[h]
theorem c2q(l:List b9)(r:b9)(hl:l.length≤1000000)(hd:∀r∈l,y8 r.At.Depot)(hs:r.Text.size≤9223372036854775807):a5K l r=some (decide (z8 r∧P9 l r)):=by
 unfold a5K;rw[a0e r hs,j7];by_cases hok:z8 r
 ·rw[k9 hok,k9 (by decide)];by_cases h:l.length<60
  ·rw[ifd (by omega),a8e l hl hd,j7];have e:=a6n l (a1D hok);unfold a4v at e;rw[e,j7];congr 1;rw[a8I];simp only[L9,R5,P9,h,hok,U2];exact eq_comm
  ·rw[ifn (by omega)];have:¬P9 l r:=fun q=>h q.1
   simp[this]
 ·rw[j6 hok,j6 (by decide)];simp[hok]
def Written(l:List b9):Prop:=∀(i:Nat) (r:b9),l[i]?=some r→z8 r∧P9 (l.take i) r
theorem Written.len{l:List b9}(h:Written l):l.length≤60:=by
 rcases a4C 60 l.length with hl|hl
 ·have:=(h 60 l[60] (J7 hl)).2.1;simp at this;omega
 ·exact hl
theorem Written.rec{l:List b9}(h:Written l){r:b9}(hr:r∈l):z8 r:=by
 obtain⟨i,hi,rfl⟩:=a8X hr;exact(h i _ (J7 hi)).1
theorem Written.dep{l:List b9}(h:Written l){r:b9}(hr:r∈l):y8 r.At.Depot:=a1D (h.rec hr)
theorem Written.nil:Written []:=fun i r h=>by simp at h
theorem Written.snoc{l:List b9}(h:Written l){r:b9}(hr:z8 r)(hn:P9 l r):Written (l++ [r]):=by
 intro i x hx;rcases b0A i l.length with h1|h1|h1
 ·rw[b3O h1]at hx;have:=h i x hx;rwa [b1F (a5j h1)]
 ·subst h1;simp at hx;subst hx;simpa using ⟨hr,hn⟩
 ·rw[b2t (by simp;omega)]at hx;cases hx
theorem b1D{body:Int→Option (Sum Int (Sum Int Bool))}(l:List b9)(hl:l.length≤9223372036854775800)(ans:Bool)(ha:ans=true↔Written l)
 (h:∀(i:Nat) (hi:i<l.length),(∀r∈l.take i,z8 r)→i≤60→body (i:Int)=some (if z8 l[i]∧P9 (l.take i) l[i]then .inl ((i+1:Nat):Int)else .inr (.inr false)))
 (he:body (l.length:Int)=some (.inr (.inl (l.length:Int)))):(o8 body 0).bind (fun e=>match e with|.inl _=>some true|.inr r=>some r)=some ans:=by
 obtain⟨e,h1,h2⟩:=a0J (body:=body) (fun st=>∃i:Nat,st=(i:Int)∧i≤l.length∧Written (l.take i)) (fun st=>l.length-st.toNat) (fun e=>match e with|.inl _=>Written l|.inr r=>r=false∧¬Written l) (by
  rintro _ ⟨i,rfl,hi,hw⟩;rcases a4C i l.length with hlt|hge
  ·have hlen:=hw.len;have hb:=h i hlt (fun r hr=>hw.rec hr) (by simp at hlen;omega);by_cases hok:z8 l[i]∧P9 (l.take i) l[i]
   ·right;rw[k9 hok]at hb;refine⟨_,hb,⟨i+1,rfl,hlt,?_⟩,?_⟩
    ·rw[a4l hlt];exact hw.snoc hok.1 hok.2
    ·simp only[a2C];omega
   ·left;rw[j6 hok]at hb;exact⟨_,hb,rfl,fun hw2=>hok (hw2 i _ (J7 hlt))⟩
  ·left;obtain rfl:i=l.length:=by omega
   refine⟨_,he,?_⟩;rw[a8u]at hw;exact hw) 0 ⟨0,rfl,L0 _,by rw[a7Q];exact Written.nil⟩ (by unfold a0X;simp only[Int.toNat_zero];omega)
 rw[h1];cases e with
 |inl _=>simp only[j7];rw[ha.2 h2]
 |inr r=>
  obtain⟨rfl,h2⟩:=h2;have:ans=false:=by cases ans with|false=>rfl|true=>exact absurd (ha.1 rfl) h2
  simp only[j7];rw[this]
open Classical in theorem areWritten_eq(l:List b9)(hl:l.length≤9223372036854775800)(hs:∀r∈l,r.Text.size≤9223372036854775807):a0o l=some (decide (Written l)):=by
 unfold a0o;refine b1D l hl _ (by simp) (fun i hi hpre x1=>?_) ?_
 ·unfold S8;rw[ifd (by omega),L5 hi,j7,V4 _ (hs _ (Y8 hi)),j7];by_cases hok:z8 l[i]
  ·rw[j6 (by simp[hok]),q9 (by omega),j7];have e:sub l 0 ((i:Int)).toNat=l.take i:=by unfold sub;simp
   rw[e,c4I _ _ (by simp;omega) (fun r hr=>a1D (hpre r hr)) (a1D hok),j7,W_s (by omega)];by_cases hn:P9 (l.take i) l[i]<;>simp[hok,hn]
  ·rw[k9 (by simp[hok])];simp[hok]
 ·unfold S8;rw[j6 (by simp)]
open Classical in theorem AreWritten_eq(l:List b9)(hl:l.length≤9223372036854775800)(hs:∀r∈l,r.Text.size≤9223372036854775807):a1z l=some (decide (Written l)):=by
 unfold a1z;refine b1D l hl _ (by simp) (fun i hi hpre x1=>?_) ?_
 ·unfold Z2;rw[ifd (by omega),q9 (by omega),j7,L5 hi,j7];have e:sub l 0 ((i:Int)).toNat=l.take i:=by unfold sub;simp
  rw[e,c2q _ _ (by simp;omega) (fun r hr=>a1D (hpre r hr)) (hs _ (Y8 hi)),j7,W_s (by omega)];by_cases hn:z8 l[i]∧P9 (l.take i) l[i]
  ·rw[j6 (by simp[hn]),k9 hn]
  ·rw[k9 (by simp only[a5J,b2W];exact hn),j6 hn]
 ·unfold Z2;rw[j6 (by simp)]
open Classical in noncomputable def decF(t:ByteArray):Option b9:=if h:∃r,z8 r∧R0 r=t then some (Classical.choose h)else none
theorem c9M{r q:b9}(hr:z8 r)(hq:z8 q)(h:R0 r=R0 q):r=q:=by
 have h1:=b9V hr;rw[h,b9V hq]at h1;simp only[Y9,a5l,and_true]at h1;exact h1.symm
theorem a3C{t:ByteArray}{r:b9}(h:decF t=some r):z8 r∧R0 r=t:=by
 unfold decF at h;split at h
 ·rename_i hx;cases h;exact Classical.choose_spec hx
 ·cases h
theorem c1Z{r:b9}(h:z8 r):decF (R0 r)=some r:=by
 have hx:∃q,z8 q∧R0 q=R0 r:=⟨r,h,rfl⟩;unfold decF;rw[dif_pos hx];congr 1;have:=Classical.choose_spec hx;exact c9M this.1 h this.2
theorem b8Q{t:ByteArray}(h:decF t=none):∀r,z8 r→R0 r≠t:=fun r hr e=>by
 subst e;rw[c1Z hr]at h;cases h
theorem c5L(t:ByteArray)(ht:t.size≤281474976710656):N6 t=some (match decF t with|some r=>(r,true)|none=>(zR,false)):=by
 cases h:decF t with
 |none=>exact d1i t ht (b8Q h)
 |some r=>obtain⟨h1,rfl⟩:=a3C h;exact b9V h1
theorem b8r(t:ByteArray)(ht:t.size≤281474976710656):a0u t=some (match decF t with|some r=>(r,0)|none=>(zR,5)):=by
 cases h:decF t with
 |none=>exact c2w t ht (b8Q h)
 |some r=>obtain⟨h1,rfl⟩:=a3C h;exact c0A h1
def a0Q(l:List d8)(no p q:Int):Option d8:=l.find? fun c=>decide (K6 c∧c.No=no∧c.Part=p∧(q=0∨c.Parts=q))
theorem c6B{α R:Type}{body:Int→Option (Sum Int (Sum Int R))}(l:List α)(hl:l.length≤9223372036854775800)(q:α→Bool)(r:α→R)(h:∀(i:Nat) (hi:i<l.length),body (i:Int)=some (if q l[i]=true then .inr (.inr (r l[i]))else .inl ((i+1:Nat):Int)))
 (he:body (l.length:Int)=some (.inr (.inl (l.length:Int)))):o8 body 0=some (match l.find? q with|some x=>.inr (r x)|none=>.inl (l.length:Int)):=by
 have:=a0K (R:=R) (body:=body) l (by omega) (fun k (_:Unit)=>(k:Int)) (fun _ x=>if q x=true then .inr (r x)else .inl ()) .inr (fun _=>.inl (l.length:Int)) (fun _ _=>True) (fun pre x post s hp _=>by
  refine⟨?_,fun _ _=>trivial⟩;subst hp;rw[h pre.length (by simp)];have e:(pre++x::post)[pre.length]'(by simp)=x:=by simp
  rw[e];by_cases hq:q x=true<;>simp[hq]) (fun _ _=>he) () trivial
 rw[show((0:Nat):Int)=0 from rfl]at this;rw[this]
 have key:∀l:List α,V5 (fun(_:Unit) x=>if q x=true then Sum.inr (r x)else Sum.inl ()) l ()=match l.find? q with|some x=>.inr (r x)|none=>.inl ():=by
  intro l
  induction l with
  |nil=>rfl
  |cons x l ih=>
   simp only[V5,List.find?_cons];by_cases hq:q x=true
   ·simp[hq]
   ·simp only[hq,G8,M4];exact ih
 rw[key l];cases l.find? q<;>rfl
theorem c0S(l:List d8)(hl:l.length≤9223372036854775800)(no p q:Int):a4s l no (p,q)=some (match a0Q l no p q with|some c=>(c,true)|none=>(⟨0,0,0,0,⟨#[]⟩⟩,false)):=by
 unfold a4s
 rw[c6B (body:=a1t l no (p,q)) l hl (fun c=>decide (K6 c∧c.No=no∧c.Part=p∧(q=0∨c.Parts=q))) (fun c=>(c,true)) (fun i hi=>by
  unfold a1t;rw[ifd (by omega),L5 hi,j7,b9g,j7,W_s (by omega)];by_cases h1:K6 l[i]
  ·rw[k9 h1,k9 (by decide)];by_cases h2:l[i].No=no
   ·rw[k9 (by simpa using h2)]
    by_cases h3:l[i].Part=p
    ·rw[k9 (by simpa using h3)]
     by_cases h4:q=0
     ·rw[k9 (by simpa using h4)]
      simp[h1,h2,h3,h4]
     ·rw[j6 (by simpa using h4)]
      by_cases h5:l[i].Parts=q
      ·rw[k9 (by simpa using h5)]
       simp[h1,h2,h3,h5]
      ·rw[j6 (by simpa using h5)]
       simp[h4,h5]
    ·rw[j6 (by simpa using h3)]
     simp[h3]
   ·rw[j6 (by simpa using h2)]
    simp[h2]
  ·rw[j6 h1,j6 (by decide)];simp[h1]) (by
  unfold a1t;rw[j6 (by simp)])]
 unfold a0Q;cases l.find? (fun c=>decide (K6 c∧c.No=no∧c.Part=p∧(q=0∨c.Parts=q)))<;>rfl
theorem a4b{l:List d8}{no p q:Int}{c:d8}(h:a0Q l no p q=some c):K6 c∧c.No=no∧c.Part=p∧(q=0∨c.Parts=q):=by
 have:=List.find?_some h;exact of_decide_eq_true this
def a1B(l:List d8)(no q:Int):Nat→Int→Option ByteArray
 |0,_=>some ⟨#[]⟩
 |n+1,i=>match a0Q l no i q with
  |none=>none
  |some c=>match a1B l no q n (i+1)with
   |none=>none
   |some t=>some (c.Text++t)
def b0v(l:List d8)(no:Int):Option ByteArray:=match a0Q l no 0 0 with
 |none=>none
 |some c=>a1B l no c.Parts c.Parts.toNat 0
noncomputable def a6b(l:List d8):Nat→List b9→List b9
 |0,out=>out
 |n+1,out=>match b0v l (out.length:Int)with
  |none=>out
  |some t=>match decF t with
   |none=>out
   |some r=>if P9 out r then a6b l n (out++ [r])else out
noncomputable def a7x(l:List d8):List b9:=a6b l 61 []
theorem b0o(l:List d8):∀(n:Nat) (out:List b9),Written out→Written (a6b l n out)
 |0,out,h=>h
 |n+1,out,h=>by
  simp only[a6b];split
  ·exact h
  ·split
   ·exact h
   ·rename_i r hr;split
    ·rename_i hn;exact b0o l n _ (h.snoc (a3C hr).1 hn)
    ·exact h
theorem a6K(l:List d8):Written (a7x l):=b0o l 61 [] Written.nil
def ofK:Int→List b9→List d8
 |_,[]=>[]
 |k,r::l=>a2m (R0 r) k++ofK (k+1) l
def ofF(l:List b9):List d8:=ofK 0 l
theorem b6n:∀(l m:List b9) (k:Int),ofK k (l++m)=ofK k l++ofK (k+l.length) m
 |[],m,k=>by simp[ofK]
 |r::l,m,k=>by
  simp only[a1l,ofK,b6n l m (k+1),a3z,Y0];rw[show k+1+(l.length:Int)=k+((l.length+1:Nat):Int) by omega]
theorem b1s(l:List b9)(r:b9):ofF (l++ [r])=ofF l++a2m (R0 r) (l.length:Int):=by
 unfold ofF;rw[b6n];simp[ofK]
theorem b2h:∀(l:List b9) (k:Int),(∀r∈l,z8 r)→(ofK k l).length≤17*l.length
 |[],_,_=>by simp[ofK]
 |r::l,k,h=>by
  have h1:=b2h l (k+1) fun x hx=>h x (F6 _ hx)
  have h2:=a4f (a1X (h r C7));simp only[ofK,O6,Y0,a3U];omega
theorem c8L(l:List b9)(h:∀r∈l,z8 r)(hl:l.length≤1000):a5L l=some (ofF l):=by
 have key:=W5 (body:=a0O l) (fun k=>(ofF (l.take k),(k:Int))) l.length (by omega) (ofF l,(l.length:Int)) (fun k hk=>by
  unfold a0O;dsimp only;have hlen:=b2h (l.take k) 0 fun r hr=>h r (a4M hr)
  have hp:=a4f (a1X (h l[k] (Y8 hk)));rw[ifd (by omega),L5 hk,j7,a9B (h _ (Y8 hk)),j7,q9 (by unfold ofF;rw[a3U];simp at hlen;omega),W_s (by omega)];congr 3;rw[a4l hk,b1s];simp[a1Q (a5j hk)]) (by
  unfold a0O;dsimp only;rw[j6 (by simp),a8u])
 unfold a5L;rw[a7Q]at key;have key2:o8 (a0O l) ([],0)=_:=key;rw[key2];rfl
theorem c9d(l:List b9)(h:∀r∈l,z8 r)(hl:l.length≤1000):a3F l=some (ofF l):=by
 have key:=W5 (body:=a1N l) (fun k=>(ofF (l.take k),(k:Int))) l.length (by omega) (ofF l,(l.length:Int)) (fun k hk=>by
  unfold a1N;dsimp only;have hlen:=b2h (l.take k) 0 fun r hr=>h r (a4M hr)
  have hp:=a4f (a1X (h l[k] (Y8 hk)));rw[ifd (by omega),L5 hk,j7,b8d (h _ (Y8 hk)),j7,q9 (by unfold ofF;rw[a3U];simp at hlen;omega),W_s (by omega)];congr 3;rw[a4l hk,b1s];simp[a1Q (a5j hk)]) (by
  unfold a1N;dsimp only;rw[j6 (by simp),a8u])
 unfold a3F;rw[a7Q]at key;have key2:o8 (a1N l) ([],0)=_:=key;rw[key2];rfl
theorem d0l(t:ByteArray):(⟨#[]⟩:ByteArray)++t=t:=by
 apply a7U;apply N8;rw[ByteArray.data_append];simp
theorem b9e(t:ByteArray):t++(⟨#[]⟩:ByteArray)=t:=by
 apply a7U;apply N8;rw[ByteArray.data_append];simp
theorem c2p(l:List d8)(out:List b9)(c0:d8)(s:ByteArray)(i:Int):J9 l out c0 (false,s,i)=some (.inr (false,s,i)):=by
 unfold J9;dsimp only;split<;>rfl
theorem c8k(l:List d8)(hl:l.length≤9223372036854775800)(out:List b9)(c0:d8)(hq:c0.Parts≤10)(hq0:c0.Parts≠0):
 ∀(n:Nat) (i:Int) (s:ByteArray) (N:Nat),0≤i→i+n=c0.Parts→s.size≤24*20→s.size+24*n≤24*20→n<N→
  ∃ok s' i',S3 (J9 l out c0) N (true,s,i)=some (ok,s',i')∧s'.size≤24*20∧(match a1B l (out.length:Int) c0.Parts n i with|some t=>ok=true∧s'=s++t|none=>ok=false)
 |0,i,s,N,h0,hi,hs,hs2,hN=>by
  cases N with
  |zero=>omega
  |succ N=>
   refine⟨true,s,i,?_,hs,rfl,(b9e s).symm⟩;simp only[S3];unfold J9;dsimp only;rw[ifn (by omega)]
 |n+1,i,s,N,h0,hi,hs,hs2,hN=>by
  cases N with
  |zero=>omega
  |succ N=>
   simp only[S3]
   have hb:J9 l out c0 (true,s,i)=some (.inl ((match a0Q l (out.length:Int) i c0.Parts with|some c=>(true,s++c.Text,i+1)|none=>(false,s,i+1)))):=by
    unfold J9;dsimp only;rw[ifd (by omega),k9 rfl,c0S l hl,j7,a2W (z:=i+1) (by omega)];cases hp:a0Q l (out.length:Int) i c0.Parts with
    |none=>
     dsimp only;rw[q9 (by show((s.size+(⟨#[]⟩:ByteArray).size:Nat):Int)≤_;have:(⟨#[]⟩:ByteArray).size=0:=rfl;omega),b9e]
    |some c=>
     have hw:=(a4b hp).1;unfold K6 at hw;dsimp only;rw[q9 (by omega)]
   rw[hb];simp only[a1B];cases hp:a0Q l (out.length:Int) i c0.Parts with
   |none=>
    dsimp only;refine⟨false,s,i+1,?_,hs,rfl⟩;cases N with
    |zero=>omega
    |succ N=>
     simp only[S3,c2p]
   |some c=>
    have hw:=(a4b hp).1;unfold K6 at hw;dsimp only;obtain⟨ok,s',i',h1,h2,h3⟩:=c8k l hl out c0 hq hq0 n (i+1) (s++c.Text) N (by omega) (by omega) (by rw[b0E];omega) (by rw[b0E];omega) (by omega);refine⟨ok,s',i',h1,h2,?_⟩;cases hg:a1B l (out.length:Int) c0.Parts n (i+1)with
    |none=>rw[hg]at h3;exact h3
    |some t=>
     rw[hg]at h3;refine⟨h3.1,?_⟩;rw[h3.2,ByteArray.append_assoc]
theorem c2L(l:List d8)(hl:l.length≤9223372036854775800)(out:List b9)(hw:Written out):
 a2a l out=some (match b0v l (out.length:Int)with
  |none=>.inr (⟨ofF out,[]⟩,out)
  |some t=>match decF t with
   |none=>.inr (⟨ofF out,[]⟩,out)
   |some r=>if P9 out r then .inl (out++ [r])else .inr (⟨ofF out,[]⟩,out)):=by
 have hlen:=hw.len;have hall:=c9d out (fun r hr=>hw.rec hr) (by omega);have hdep:∀r∈out,y8 r.At.Depot:=fun r hr=>hw.dep hr
 unfold a2a;rw[c0S l hl,j7];unfold b0v;cases hp:a0Q l (out.length:Int) 0 0 with
 |none=>
  dsimp only
  have hloop:o8 (J9 l out ⟨0,0,0,0,⟨#[]⟩⟩) (false,⟨#[]⟩,1)=some (false,⟨#[]⟩,1):=
   W5 (fun _=>(false,⟨#[]⟩,(1:Int))) 0 (by omega) _ (fun k hk=>by omega) (c2p ..)
  rw[hloop,j7];dsimp only;rw[b8r _ (by show(0:Nat)≤_;omega),j7,k9 (by decide),hall];rfl
 |some c0=>
  obtain⟨hw0,g1,g2,_⟩:=a4b hp;have hw1:=hw0;unfold K6 at hw1;obtain⟨P,hP⟩:∃P:Nat,c0.Parts=P:=⟨c0.Parts.toNat,by omega⟩;obtain⟨ok,s',i',h1,h2,h3⟩:=c8k l hl out c0 (by omega) (by omega) (P-1) 1 c0.Text a0X (by omega) (by omega) (by omega) (by omega) (by unfold a0X;omega);have hloop:o8 (J9 l out c0) (true,c0.Text,1)=some (ok,s',i'):=h1;dsimp only;rw[hloop,j7];dsimp only;rw[b8r _ (by omega),j7]
  --the first part is the same card
  have hp0:a0Q l (out.length:Int) 0 c0.Parts=some c0:=by
   unfold a0Q at hp⊢;obtain⟨h5,xa,xb,hsplit,hno⟩:=List.find?_eq_some_iff_append.1 hp;refine List.find?_eq_some_iff_append.2 ⟨?_,xa,xb,hsplit,fun x hx=>?_⟩
   ·exact decide_eq_true ⟨hw0,g1,g2,.inr rfl⟩
   ·have:=hno x hx;simp only[a5J,b2W]at this⊢;exact fun h=>this ⟨h.1,h.2.1,h.2.2.1,by simp⟩
  have hg:a1B l (out.length:Int) c0.Parts c0.Parts.toNat 0=(match a1B l (out.length:Int) c0.Parts (P-1) 1 with|none=>none|some t=>some (c0.Text++t)):=by
   rw[show c0.Parts.toNat=(P-1)+1 by omega];simp only[a1B,hp0];rfl
  rw[hg];cases hgg:a1B l (out.length:Int) c0.Parts (P-1) 1 with
  |none=>
   rw[hgg]at h3;subst h3;dsimp only;rw[k9 (by decide),hall];rfl
  |some t=>
   rw[hgg]at h3;obtain⟨rfl,rfl⟩:=h3;dsimp only;rw[j6 (by decide)];cases hd:decF (c0.Text++t)with
   |none=>
    dsimp only;rw[k9 (by decide),hall];rfl
   |some r=>
    obtain⟨hr,he⟩:=a3C hd;dsimp only;rw[j6 (by decide),c2q out r (by omega) hdep (by have:=P5 hr;omega),j7];by_cases hn:P9 out r
    ·rw[j6 (by simp[hr,hn]),q9 (by simp;omega),k9 hn]
    ·rw[k9 (by simp[hn]),hall,j6 hn];rfl
theorem c8e(b:n9)(h:(b.Thread.length+b.Loose.length)*48≤140737488355328):a7l b=some (b.Thread++b.Loose):=by
 unfold a7l;rw[q9 (by simp;omega),q9 (by simp;omega)];rfl
theorem c8Q(b:n9)(h:(b.Thread.length+b.Loose.length)*48≤140737488355328):a7G b=some (⟨ofF (a7x (b.Thread++b.Loose)),[]⟩,a7x (b.Thread++b.Loose)):=by
 unfold a7G;rw[c8e b h,j7];have hl:(b.Thread++b.Loose).length≤9223372036854775800:=by rw[O6];omega
 generalize b.Thread++b.Loose=l at hl
 have key:∀(n:Nat) (out:List b9) (N:Nat),Written out→61-out.length≤n→n<N→S3 (a2a l) N out=some (⟨ofF (a6b l n out),[]⟩,a6b l n out):=by
  intro n
  induction n with
  |zero=>
   intro out N hw hn hN;have:=hw.len;omega
  |succ n ih=>
   intro out N hw hn hN;cases N with
   |zero=>omega
   |succ N=>
    simp only[S3,c2L l hl out hw,a6b];cases ht:b0v l (out.length:Int)with
    |none=>rfl
    |some t=>
     dsimp only;cases hd:decF t with
     |none=>rfl
     |some r=>
      dsimp only;by_cases hnx:P9 out r
      ·rw[k9 hnx,k9 hnx];exact ih _ N (hw.snoc (a3C hd).1 hnx) (by simp;omega) (by omega)
      ·rw[j6 hnx,j6 hnx]
 exact key 61 [] a0X Written.nil (by simp) (by unfold a0X;omega)
theorem b1P(b:n9)(h:(b.Thread.length+b.Loose.length)*48≤140737488355328):a2H b=some (b.Thread++b.Loose):=by
 unfold a2H J5
 have k1:o8 (l8 [b.Thread,b.Loose]) (0,0)=some (((b.Thread.length+b.Loose.length:Nat):Int),2):=
  W5 (body:=l8 [b.Thread,b.Loose]) (fun k=>match k with|0=>(0,0)|1=>((b.Thread.length:Int),1)|_=>(((b.Thread.length+b.Loose.length:Nat):Int),2)) 2 (by omega) _ (fun k hk=>by
   match k,hk with
   |0,_=>
    show l8 [b.Thread,b.Loose] (0,0)=some (.inl ((b.Thread.length:Int),1));unfold l8;dsimp only;rw[k9 (by simp),show idx [b.Thread,b.Loose] 0=some b.Thread from rfl,j7,a2W (z:=(0:Int)+(b.Thread.length:Int)) (by omega),ifn (by omega),show W ((0:Int)+1)=1 from rfl,Int.zero_add]
   |1,_=>
    show l8 [b.Thread,b.Loose] ((b.Thread.length:Int),1)=some (.inl (((b.Thread.length+b.Loose.length:Nat):Int),2));unfold l8;dsimp only;rw[k9 (by simp),show idx [b.Thread,b.Loose] 1=some b.Loose from rfl,j7,a2W (z:=(b.Thread.length:Int)+(b.Loose.length:Int)) (by omega),ifn (by omega),show W ((1:Int)+1)=2 from rfl];rfl) (by
   show l8 [b.Thread,b.Loose] (((b.Thread.length+b.Loose.length:Nat):Int),2)=some (.inr (((b.Thread.length+b.Loose.length:Nat):Int),2));unfold l8;dsimp only;rw[j6 (by simp)])
 have k2:o8 (l7 [b.Thread,b.Loose]) (0,([]:List d8))=some (2,b.Thread++b.Loose):=
  W5 (body:=l7 [b.Thread,b.Loose]) (fun k=>match k with|0=>(0,[])|1=>(1,b.Thread)|_=>(2,b.Thread++b.Loose)) 2 (by omega) _ (fun k hk=>by
   match k,hk with
   |0,_=>
    show l7 [b.Thread,b.Loose] (0,[])=some (.inl (1,b.Thread));unfold l7;dsimp only;rw[k9 (by simp),show idx [b.Thread,b.Loose] 0=some b.Thread from rfl,j7,q9 (by simp;omega),show W ((0:Int)+1)=1 from rfl,a2B]
   |1,_=>
    show l7 [b.Thread,b.Loose] (1,b.Thread)=some (.inl (2,b.Thread++b.Loose));unfold l7;dsimp only;rw[k9 (by simp),show idx [b.Thread,b.Loose] 1=some b.Loose from rfl,j7,q9 (by omega),show W ((1:Int)+1)=2 from rfl]) (by
   show l7 [b.Thread,b.Loose] (2,b.Thread++b.Loose)=some (.inr (2,b.Thread++b.Loose));unfold l7;dsimp only;rw[j6 (by simp)])
 rw[k1,j7];dsimp only;rw[q9 (by omega),k2];rfl
theorem c9e(b:n9)(h:(b.Thread.length+b.Loose.length)*48≤140737488355328):a1I b=some ((b.Thread++b.Loose).filter (fun c=>decide (K6 c)),()):=by
 unfold a1I;rw[b1P b h,j7];have hl:(b.Thread++b.Loose).length≤9223372036854775800:=by rw[O6];omega
 generalize b.Thread++b.Loose=l at hl
 have key:=b5q (body:=L2 l) l (by omega) (fun k=>(k:Int)) (fun c=>if K6 c then [c]else []) (l.length:Int) (fun pre x post hx=>by
  unfold L2;rw[k9 (by rw[hx];simp only[R5];exact a8J),show idx l ((pre.length:Nat):Int)=some x from by rw[hx];exact a4P,j7,c3Z,j7];have hlt:pre.length<l.length:=by rw[hx];simp
  rw[W_s (by omega)];by_cases hw:K6 x
  ·simp[hw,emit]
  ·simp[hw]) (by
  unfold L2;rw[j6 (by simp)])
 have key2:b5D (L2 l) 0=_:=key;rw[key2];simp only[b8f,a8R];congr 2
 induction l with
 |nil=>rfl
 |cons x l ih=>
  simp only[U0,List.filter_cons];clear key key2
  have ih':List.flatMap (fun c=>if K6 c then [c]else []) l=List.filter (fun c=>decide (K6 c)) l:=by
   clear ih hl
   induction l with
   |nil=>rfl
   |cons y l ih=>simp only[U0,List.filter_cons,ih];by_cases hy:K6 y<;>simp[hy]
  rw[ih'];by_cases hx:K6 x<;>simp[hx]
section
variable {K V : Type} [DecidableEq K]
theorem b8E(l:List (K×V))(k:K)(v:V)(j:K):E2 (a8C l k v) j=if j=k then some v else E2 l j:=by
 induction l with
 |nil=>simp[a8C,E2]
 |cons p l ih=>
  obtain⟨a,x⟩:=p;simp only[a8C];by_cases h:k=a
  ·subst h;simp only[D2,E2];by_cases hj:j=k<;>simp[hj]
  ·rw[j6 h];simp only[E2];by_cases hj:j=a
   ·subst hj;rw[k9 rfl,k9 rfl,j6 (fun e=>h e.symm)]
   ·rw[j6 hj,j6 hj,ih]
end
def plc(c:d8):E5:=⟨c.No,c.Part,c.Parts⟩
theorem c4x:∀(ws:List d8) (a:List (E5×ByteArray)) (b:List (Int×Int)),∃a' b',U4 U7 ws (a,b)=some (.inl (a',b'))∧
 (∀p,E2 a' p=(E2 a p).or ((ws.find? fun c=>decide (plc c=p)).map (·.Text)))∧(∀k,E2 b' k=(E2 b k).or ((ws.find? fun c=>decide (c.No=k∧c.Part=0)).map (·.Parts)))
 |[],a,b=>⟨a,b,rfl,fun p=>by simp,fun k=>by simp⟩
 |c::ws,a,b=>by
  have hstep:∃a1 b1,U7 (a,b) c=some (.inl (a1,b1))∧(∀p,E2 a1 p=(E2 a p).or (if plc c=p then some c.Text else none))∧(∀k,E2 b1 k=(E2 b k).or (if c.No=k∧c.Part=0 then some c.Parts else none)):=by
   unfold U7;dsimp only
   have ha:∀p,(E2 a (plc c)).isSome=false→E2 (a8C a (plc c) c.Text) p=(E2 a p).or (if plc c=p then some c.Text else none):=fun p h=>by
    rw[b8E];by_cases hp:p=plc c
    ·subst hp;rw[k9 rfl,k9 rfl];cases hm:E2 a (plc c)with
     |none=>rfl
     |some v=>rw[hm]at h;cases h
    ·rw[j6 hp,j6 (fun e=>hp e.symm)];simp
   have ha2:∀p,(E2 a (plc c)).isSome=true→E2 a p=(E2 a p).or (if plc c=p then some c.Text else none):=fun p h=>by
    by_cases hp:plc c=p
    ·subst hp;cases hm:E2 a (plc c)with
     |none=>rw[hm]at h;cases h
     |some v=>rfl
    ·rw[j6 hp];simp
   have hb:∀k,(E2 b c.No).isSome=false→c.Part=0→E2 (a8C b c.No c.Parts) k=(E2 b k).or (if c.No=k∧c.Part=0 then some c.Parts else none):=fun k h h0=>by
    rw[b8E];by_cases hp:k=c.No
    ·subst hp;rw[k9 rfl,k9 ⟨rfl,h0⟩];cases hm:E2 b c.No with
     |none=>rfl
     |some v=>rw[hm]at h;cases h
    ·rw[j6 hp,j6 (fun e=>hp e.1.symm)];simp
   have hb2:∀k,((E2 b c.No).isSome=true∨c.Part≠0)→E2 b k=(E2 b k).or (if c.No=k∧c.Part=0 then some c.Parts else none):=fun k h=>by
    by_cases hp:c.No=k∧c.Part=0
    ·rcases h with h|h
     ·rw[hp.1]at h;cases hm:E2 b k with
      |none=>rw[hm]at h;cases h
      |some v=>rfl
     ·exact absurd hp.2 h
    ·rw[j6 hp];simp
   have e:(⟨c.No,c.Part,c.Parts⟩:E5)=plc c:=rfl;rw[e];cases h1:(E2 a (plc c)).isSome with
   |false=>
    rw[k9 (by decide)];cases h2:(E2 b c.No).isSome with
    |false=>
     rw[k9 (by decide)];by_cases h0:c.Part=0
     ·rw[k9 (by simpa using h0)]
      exact⟨_,_,rfl,fun p=>ha p h1,fun k=>hb k h2 h0⟩
     ·rw[j6 (by simpa using h0)]
      exact⟨_,_,rfl,fun p=>ha p h1,fun k=>hb2 k (.inr h0)⟩
    |true=>
     rw[j6 (by decide)];exact⟨_,_,rfl,fun p=>ha p h1,fun k=>hb2 k (.inl h2)⟩
   |true=>
    rw[j6 (by decide)];cases h2:(E2 b c.No).isSome with
    |false=>
     rw[k9 (by decide)];by_cases h0:c.Part=0
     ·rw[k9 (by simpa using h0)]
      exact⟨_,_,rfl,fun p=>ha2 p h1,fun k=>hb k h2 h0⟩
     ·rw[j6 (by simpa using h0)]
      exact⟨_,_,rfl,fun p=>ha2 p h1,fun k=>hb2 k (.inr h0)⟩
    |true=>
     rw[j6 (by decide)];exact⟨_,_,rfl,fun p=>ha2 p h1,fun k=>hb2 k (.inl h2)⟩
  obtain⟨a1,b1,h1,h2,h3⟩:=hstep;obtain⟨a2,b2,h4,h5,h6⟩:=c4x ws a1 b1;refine⟨a2,b2,by simp only[U4,h1];exact h4,fun p=>?_,fun k=>?_⟩
  ·rw[h5,h2,Option.or_assoc];congr 1;simp only[List.find?_cons];by_cases hp:plc c=p<;>simp[hp]
  ·rw[h6,h3,Option.or_assoc];congr 1;simp only[List.find?_cons];by_cases hp:c.No=k∧c.Part=0<;>simp[hp]
theorem b3P{α:Type}(p q:α→Bool)(l:List α):(l.filter p).find? q=l.find? fun x=>p x&&q x:=by
 induction l with
 |nil=>rfl
 |cons x l ih=>
  simp only[List.filter_cons,List.find?_cons];by_cases hp:p x=true
  ·simp[hp,List.find?_cons,ih]
  ·simp[hp,ih]
structure d1Z(l:List d8)(A:List (E5×ByteArray))(B:List (Int×Int)):Prop where
 a:∀k i q:Int,q≠0→E2 A ⟨k,i,q⟩=(a0Q l k i q).map (·.Text)
 b:∀k:Int,E2 B k=(a0Q l k 0 0).map (·.Parts)
theorem d0I(l:List d8):∃A B,U4 U7 (l.filter fun c=>decide (K6 c)) (([]:List (E5×ByteArray)),([]:List (Int×Int)))=some (.inl (A,B))∧d1Z l A B:=by
 obtain⟨A,B,h1,h2,h3⟩:=c4x (l.filter fun c=>decide (K6 c)) [] [];refine⟨A,B,h1,⟨fun k i q hq=>?_,fun k=>?_⟩⟩
 ·rw[h2];simp only[E2,Option.none_or,b3P];unfold a0Q;congr 2;funext c;rw[a8I];simp only[D7,R5,plc,E5.mk.injEq,hq,false_or]
 ·rw[h3];simp only[E2,Option.none_or,b3P];unfold a0Q;congr 2;funext c;rw[a8I];simp
theorem c7O{l:List d8}{A:List (E5×ByteArray)}{B:List (Int×Int)}(hM:d1Z l A B)(k P:Int)(hP:(E2 B k).getD 0=P)(hP0:P≠0)(hP10:P≤10):
 ∀(n:Nat) (i:Int) (s:ByteArray) (fine:Bool) (N:Nat),0≤i→i+n=P→s.size+24*n≤24*20→n<N→
  ∃s' fine' i',S3 (F8 A B k) N (s,fine,i)=some (s',fine',i')∧s'.size≤24*20∧(fine=false→fine'=false)∧(fine=true→match a1B l k P n i with|some t=>fine'=true∧s'=s++t|none=>fine'=false)
 |0,i,s,fine,N,h0,hi,hs,hN=>by
  cases N with
  |zero=>omega
  |succ N=>
   refine⟨s,fine,i,?_,by omega,fun h=>h,fun h=>⟨h,(b9e s).symm⟩⟩;simp only[S3];unfold F8;dsimp only;rw[hP,ifn (by omega)]
 |n+1,i,s,fine,N,h0,hi,hs,hN=>by
  cases N with
  |zero=>omega
  |succ N=>
   have ha:=hM.a k i P hP0
   have hsz:((E2 A ⟨k,i,P⟩).getD ⟨#[]⟩).size≤24:=by
    rw[ha];cases hp:a0Q l k i P with
    |none=>exact L0 _
    |some c=>
     have hw:=(a4b hp).1;unfold K6 at hw;simp only[a6T,Option.getD_some];omega
   have hb:F8 A B k (s,fine,i)=some (.inl (s++(E2 A ⟨k,i,P⟩).getD ⟨#[]⟩,fine&&(E2 A ⟨k,i,P⟩).isSome,i+1)):=by
    unfold F8;dsimp only;rw[hP,ifd (by omega),q9 (by omega),a2W (z:=i+1) (by omega)];cases fine<;>rfl
   simp only[S3,hb];obtain⟨s',fine',i',h1,h2,h3,h4⟩:=c7O hM k P hP hP0 hP10 n (i+1) (s++(E2 A ⟨k,i,P⟩).getD ⟨#[]⟩) (fine&&(E2 A ⟨k,i,P⟩).isSome) N (by omega) (by omega) (by rw[b0E];omega) (by omega);refine⟨s',fine',i',h1,h2,fun hf=>h3 (by rw[hf];rfl),fun hf=>?_⟩;simp only[a1B];cases hp:a0Q l k i P with
   |none=>
    dsimp only;exact h3 (by rw[ha,hp];simp)
   |some c=>
    have h5:=h4 (by rw[hf,ha,hp];rfl);dsimp only;cases hg:a1B l k P n (i+1)with
    |none=>rw[hg]at h5;exact h5
    |some t=>
     rw[hg]at h5;refine⟨h5.1,?_⟩;rw[h5.2,ha,hp];simp only[a6T,Option.getD_some];rw[ByteArray.append_assoc]
theorem c2A{l:List d8}{A:List (E5×ByteArray)}{B:List (Int×Int)}(hM:d1Z l A B)(out:List b9)(hw:Written out):
 V3 A B (out,(out.length:Int))=some (match b0v l (out.length:Int)with
  |none=>.inr (out,(out.length:Int))
  |some t=>match decF t with
   |none=>.inr (out,(out.length:Int))
   |some r=>if P9 out r then .inl (out++ [r],((out.length+1:Nat):Int))else .inr (out,(out.length:Int))):=by
 have hlen:=hw.len;have hdep:∀r∈out,y8 r.At.Depot:=fun r hr=>hw.dep hr
 have hb:=hM.b (out.length:Int);unfold V3;dsimp only;unfold b0v;cases hp:a0Q l (out.length:Int) 0 0 with
 |none=>
  rw[hp]at hb;have hP:(E2 B (out.length:Int)).getD 0=0:=by rw[hb];rfl
  have hloop:o8 (F8 A B (out.length:Int)) (⟨#[]⟩,decide ((E2 B (out.length:Int)).getD 0>0),0)=some (⟨#[]⟩,false,0):=by
   rw[hP]
   exact W5 (body:=F8 A B (out.length:Int)) (fun _=>((⟨#[]⟩:ByteArray),false,(0:Int))) 0 (by omega) _ (fun k hk=>by omega) (by
    unfold F8;dsimp only;rw[hP,j6 (by decide)])
  rw[hloop,j7];dsimp only;rw[k9 (by decide)]
 |some c0=>
  obtain⟨hw0,g1,g2,_⟩:=a4b hp;have hw1:=hw0;unfold K6 at hw1;rw[hp]at hb;have hP:(E2 B (out.length:Int)).getD 0=c0.Parts:=by rw[hb];rfl
  obtain⟨P,hPn⟩:∃P:Nat,c0.Parts=P:=⟨c0.Parts.toNat,by omega⟩;obtain⟨s',fine',i',h1,h2,_,h4⟩:=c7O hM (out.length:Int) c0.Parts hP (by omega) (by omega) P 0 ⟨#[]⟩ true a0X (by omega) (by omega) (by show 0+24*P≤_;omega) (by unfold a0X;omega);have h4:=h4 rfl;have hfine:decide ((E2 B (out.length:Int)).getD 0>0)=true:=by rw[hP];simp only[R5];omega
  have hloop:o8 (F8 A B (out.length:Int)) (⟨#[]⟩,decide ((E2 B (out.length:Int)).getD 0>0),0)=some (s',fine',i'):=by rw[hfine];exact h1
  rw[hloop,j7];dsimp only;rw[show c0.Parts.toNat=P by omega];cases hg:a1B l (out.length:Int) c0.Parts P 0 with
  |none=>
   rw[hg]at h4;subst h4;dsimp only;rw[k9 (by decide)]
  |some t=>
   rw[hg]at h4;obtain⟨rfl,rfl⟩:=h4;rw[d0l]at h2⊢;dsimp only;rw[j6 (by decide),c5L t (by omega),j7];cases hd:decF t with
   |none=>
    dsimp only;rw[k9 (by decide)]
   |some r=>
    obtain⟨hr,he⟩:=a3C hd;dsimp only;rw[j6 (by decide),c4I out r (by omega) hdep (a1D hr),j7];by_cases hn:P9 out r
    ·rw[j6 (by simp[hn]),q9 (by simp;omega),k9 hn,W_s (by omega)]
    ·rw[k9 (by simp[hn]),j6 hn]
theorem a7p(b:n9)(h:(b.Thread.length+b.Loose.length)*48≤140737488355328):E9 b=some (⟨ofF (a7x (b.Thread++b.Loose)),[]⟩,a7x (b.Thread++b.Loose)):=by
 unfold E9 a6x;rw[j7,c9e b h,j7];generalize b.Thread++b.Loose=l;obtain⟨A,B,h1,hM⟩:=d0I l;dsimp only;rw[h1,j7];dsimp only
 have key:∀(n:Nat) (out:List b9) (N:Nat),Written out→61-out.length≤n→n<N→S3 (V3 A B) N (out,(out.length:Int))=some (a6b l n out,((a6b l n out).length:Int)):=by
  intro n
  induction n with
  |zero=>
   intro out N hw hn hN;have:=hw.len;omega
  |succ n ih=>
   intro out N hw hn hN;cases N with
   |zero=>omega
   |succ N=>
    simp only[S3,c2A hM out hw,a6b];cases ht:b0v l (out.length:Int)with
    |none=>rfl
    |some t=>
     dsimp only;cases hd:decF t with
     |none=>rfl
     |some r=>
      dsimp only;by_cases hnx:P9 out r
      ·rw[k9 hnx,k9 hnx];have:=ih (out++ [r]) N (hw.snoc (a3C hd).1 hnx) (by simp;omega) (by omega);simp only[O6,List.length_singleton]at this;exact this
      ·rw[j6 hnx,j6 hnx]
 have hk:o8 (V3 A B) ([],0)=_:=key 61 [] a0X Written.nil (by simp) (by unfold a0X;omega);rw[hk,j7];dsimp only;have hw:=a6K l;rw[show a6b l 61 []=a7x l from rfl,c8L _ (fun r hr=>hw.rec hr) (by have:=hw.len;omega)];rfl
def a0l(picks:List Int)(i:Nat):Int:=if picks.length=0 then 0 else picks.getD (i % picks.length) 0
def b0c(l:List Int):Prop:=∀x∈l,-9223372036854775808≤x∧x≤9223372036854775807
theorem b5T{picks:List Int}(h:b0c picks)(i:Nat): -9223372036854775808≤a0l picks i∧a0l picks i≤9223372036854775807:=by
 unfold a0l;by_cases h0:picks.length=0
 ·rw[k9 h0];omega
 ·rw[j6 h0];have:i % picks.length<picks.length:=Nat.mod_lt _ (by omega);have:=h picks[i % picks.length] (Y8 this);simpa[List.getD,J7 ‹_›]using this
theorem c5l{picks:List Int}(h0:picks.length≠0)(i:Nat):idx picks ((i:Int).tmod (picks.length:Int))=some (a0l picks i):=by
 have hlt:i % picks.length<picks.length:=Nat.mod_lt _ (by omega);have e:(i:Int).tmod (picks.length:Int)=((i % picks.length:Nat):Int):=by rw[Int.tmod_eq_emod_of_nonneg (by omega)];rfl
 rw[e,L5 hlt];unfold a0l;rw[j6 h0];simp[List.getD,J7 hlt]
theorem d2p{x n:Int}(hx: -9223372036854775808≤x∧x≤9223372036854775807)(hn:1≤n∧n≤4611686018427387904):(W (x.tmod n+n)).tmod n=x % n:=by
 have h1:=Int.tmod_lt_of_pos x (show 0<n by omega)
 have h2: -n<x.tmod n:=by
  have:=Int.neg_lt_of_neg_lt (show-(x.tmod n)<n from by rw[←Int.neg_tmod];exact Int.tmod_lt_of_pos _ (by omega));exact this
 rw[a2W (by omega),Int.tmod_eq_emod_of_nonneg (by omega),Int.add_emod_right];have h3:x=n*x.tdiv n+x.tmod n:=(Int.mul_tdiv_add_tmod x n).symm
 conv=>rhs;rw[h3]
 rw[Int.mul_add_emod_self_left]
theorem c1V(picks:List Int)(hp:b0c picks)(i:Nat)(n:Int)(hn:1≤n∧n≤4611686018427387904):a2Y picks (i:Int) n=some (a0l picks i % n):=by
 unfold a2Y;by_cases h0:picks.length=0
 ·rw[k9 (by simp[h0])];unfold a0l;rw[k9 h0];simp
 ·rw[j6 (by simpa using h0),q9 (by omega),c5l h0,j7,q9 (by omega),q9 (by omega),d2p (b5T hp i) hn]
theorem c1u(picks:List Int)(i:Nat):a5z picks (i:Int)=some (a0l picks i):=by
 unfold a5z;by_cases h0:picks.length=0
 ·rw[k9 (by simp[h0])];unfold a0l;rw[k9 h0]
 ·rw[j6 (by simpa using h0),q9 (by omega),c5l h0];rfl
theorem a2o(x m:Int)(hx: -9223372036854775808≤x∧x≤9223372036854775807)(hm:1≤m∧m≤4611686018427387904):F1 x m=some (x % m):=by
 unfold F1;rw[q9 (by omega),q9 (by omega),d2p hx hm]
def b5r(picks:List Int)(i:Nat)(out:List d8)(c:d8):List d8:=
 if a0l picks (2*i) % 4=0 then out
 else if a0l picks (2*i) % 4=3 then c::out
 else if a0l picks (2*i) % 4=1∧0<c.Text.size then out++ [⟨c.No,c.Part,c.Parts,c.Size,c.Text.extract 0 (a0l picks (2*i+1) % c.Text.size).toNat⟩]
 else out++ [c]
def a4k(picks:List Int):Nat→List d8→List d8→List d8
 |_,out,[]=>out
 |i,out,c::l=>a4k picks (i+1) (b5r picks i out c) l
theorem c5u(picks:List Int)(i:Nat)(out:List d8)(c:d8):(b5r picks i out c).length≤out.length+1:=by
 unfold b5r;split
 ·omega
 ·split
  ·simp
  ·split<;>simp
theorem a6W(picks:List Int):∀(l:List d8) (i:Nat) (out:List d8),(a4k picks i out l).length≤out.length+l.length
 |[],_,_=>by simp[a4k]
 |c::l,i,out=>by
  have h1:=a6W picks l (i+1) (b5r picks i out c);have h2:=c5u picks i out c;simp only[a4k,Y0];omega
theorem b0Z(picks:List Int):∀(l:List d8) (i:Nat) (out:List d8) (c:d8),a4k picks i out (l++ [c])=b5r picks (i+l.length) (a4k picks i out l) c
 |[],i,out,c=>by simp[a4k]
 |x::l,i,out,c=>by
  simp only[a1l,a4k,b0Z picks l (i+1),Y0];rw[show i+1+l.length=i+(l.length+1) by omega]
def a9c(b:n9)(picks:List Int):n9:=⟨b.Thread,a4k picks 0 [] b.Loose⟩
structure c1g(b:n9):Prop where
 t:b.Thread.length*48≤140737488355328
 l:(b.Loose.length+1)*48≤140737488355328
 s:∀c∈b.Loose,c.Text.size≤281474976710656
theorem d3A(x:Int):0≤x % 4∧x % 4<4:=by omega
theorem a6V(b:n9)(picks:List Int)(h:c1g b)(hp:b0c picks)(hpl:picks.length≤9223372036854775800):E6 b picks=some (a9c b picks):=by
 unfold E6 m8;have ht:=h.t;have hl:=h.l;rw[q9 (by omega),j7]
 have key:=W5 (body:=V1 b picks) (fun k=>((k:Int),([]:List d8),([]:List d8),([]:List d8),a4k picks 0 [] (b.Loose.take k))) b.Loose.length (by omega) ((b.Loose.length:Int),[],[],[],a4k picks 0 [] b.Loose) (fun k hk=>by
  have hlen:=a6W picks (b.Loose.take k) 0 [];simp only[N0,Z5,a0k]at hlen;have hsn:=b0Z picks (b.Loose.take k) 0 [] b.Loose[k];rw[←a4l hk]at hsn;simp only[Z5,a1Q (a5j hk),a0k]at hsn;have htx:=h.s b.Loose[k] (Y8 hk);unfold V1;dsimp only;rw[hsn];generalize hO:a4k picks 0 [] (b.Loose.take k)=out at hlen⊢;have e2:W (2*(k:Int))=((2*k:Nat):Int):=by rw[a2W (by omega)];omega
  rw[ifd (by omega),L5 hk,j7,e2,c1V picks hp _ 4 (by omega),j7,W_s (by omega)];have hm:=d3A (a0l picks (2*k));unfold b5r;by_cases h0:a0l picks (2*k) % 4=0
  ·rw[k9 (by simp[h0]),k9 h0]
  ·rw[j6 (by simpa using h0),j6 h0]
   by_cases h3:a0l picks (2*k) % 4=3
   ·rw[k9 (by simp[h3]),k9 h3];unfold J4;rw[q9 (by simp),j6 (by simp)];by_cases hz:out.length=0
    ·have:out=[]:=a5Q hz;subst this;rw[k9 (by simp),q9 (by simp)];rfl
    ·rw[j6 (by simp only[L9];omega),q9 (by simp;omega)];rfl
   ·rw[j6 (by simpa using h3),j6 h3]
    by_cases h1:a0l picks (2*k) % 4=1
    ·rw[k9 (by simp[h1])];by_cases hs:0<b.Loose[k].Text.size
     ·rw[ifd (by omega),k9 ⟨h1,hs⟩];have e3:W (((2*k:Nat):Int)+1)=((2*k+1:Nat):Int):=W_s (by omega);have hpos:0≤a0l picks (2*k+1) % (b.Loose[k].Text.size:Int):=Int.emod_nonneg _ (by omega);have hlt:a0l picks (2*k+1) % (b.Loose[k].Text.size:Int)<(b.Loose[k].Text.size:Int):=Int.emod_lt_of_pos _ (by omega);rw[e3,c1V picks hp _ _ (by omega),j7,q9 (by omega)];unfold a4z P1;rw[q9 (by rw[ByteArray.size_extract];omega),j7,j7,q9 (by simp;omega)]
     ·rw[ifn (by omega),j6 (by rintro⟨_,h⟩;exact hs h),q9 (by simp;omega)]
    ·rw[j6 (by simpa using h1),j6 (by rintro⟨h,_⟩;exact h1 h),q9 (by simp;omega)]) (by
  unfold V1;dsimp only;rw[j6 (by simp),a8u])
 rw[a7Q]at key;have key2:o8 (V1 b picks) (0,[],[],[],[])=_:=key;rw[key2];rfl
theorem c1p(b:n9)(picks:List Int)(h:c1g b)(hp:b0c picks)(hpl:picks.length≤9223372036854775800):a3S b picks=some (a9c b picks):=by
 unfold a3S;have ht:=h.t;have hl:=h.l;rw[q9 (by simp;omega)]
 have key:=W5 (body:=a0N b picks) (fun k=>((k:Int),([]:List d8),([]:List d8),([]:List d8),([]:List d8),([]:List d8),a4k picks 0 [] (b.Loose.take k))) b.Loose.length (by omega) ((b.Loose.length:Int),[],[],[],[],[],a4k picks 0 [] b.Loose) (fun k hk=>by
  have hlen:=a6W picks (b.Loose.take k) 0 [];simp only[N0,Z5,a0k]at hlen;have hsn:=b0Z picks (b.Loose.take k) 0 [] b.Loose[k];rw[←a4l hk]at hsn;simp only[Z5,a1Q (a5j hk),a0k]at hsn;have htx:=h.s b.Loose[k] (Y8 hk);unfold a0N;dsimp only;rw[hsn];generalize hO:a4k picks 0 [] (b.Loose.take k)=out at hlen⊢;have e2:W (2*(k:Int))=((2*k:Nat):Int):=by rw[a2W (by omega)];omega
  rw[ifd (by omega),L5 hk,j7,e2,c1u,j7,a2o _ 4 (b5T hp _) (by omega),j7,W_s (by omega)];have hm:=d3A (a0l picks (2*k));unfold b5r;by_cases h0:a0l picks (2*k) % 4=0
  ·rw[k9 (by simp[h0]),k9 h0]
  ·rw[j6 (by simpa using h0),j6 h0]
   by_cases h1:a0l picks (2*k) % 4=1
   ·have h3:¬a0l picks (2*k) % 4=3:=by omega
    rw[k9 (by simp[h1]),j6 h3];by_cases hs:0<b.Loose[k].Text.size
    ·rw[ifd (by omega),k9 ⟨h1,hs⟩];have e3:W (((2*k:Nat):Int)+1)=((2*k+1:Nat):Int):=W_s (by omega);have hpos:0≤a0l picks (2*k+1) % (b.Loose[k].Text.size:Int):=Int.emod_nonneg _ (by omega);have hlt:a0l picks (2*k+1) % (b.Loose[k].Text.size:Int)<(b.Loose[k].Text.size:Int):=Int.emod_lt_of_pos _ (by omega);rw[e3,c1u,j7,a2o _ _ (b5T hp _) (by omega),j7,q9 (by omega),j6 (by simp[h1]),q9 (by simp;omega)]
    ·rw[ifn (by omega),j6 (by simp[h1]),j6 (by rintro⟨_,h⟩;exact hs h),q9 (by simp;omega)]
   ·rw[j6 (by simpa using h1)]
    by_cases h3:a0l picks (2*k) % 4=3
    ·rw[k9 (by simp[h3]),k9 h3,q9 (by simp;omega)];rfl
    ·rw[j6 (by simpa using h3),j6 h3,j6 (by rintro⟨h,_⟩;exact h1 h),q9 (by simp;omega)]) (by
  unfold a0N;dsimp only;rw[j6 (by simp),a8u])
 rw[a7Q]at key;have key2:o8 (a0N b picks) (0,[],[],[],[],[],[])=_:=key;rw[key2];rfl
def Bef(a b:o4):Prop:=a.Depot<b.Depot∨(a.Depot=b.Depot∧a.No<b.No)
instance (a b : o4) : Decidable (Bef a b) := by unfold Bef; infer_instance
theorem Bef.trans{a b c:o4}(h:Bef a b)(k:Bef b c):Bef a c:=by unfold Bef at*;omega
theorem Bef.irr(a:o4):¬Bef a a:=by unfold Bef;omega
theorem Bef.tri(a b:o4):Bef a b∨a=b∨Bef b a:=by
 obtain⟨a1,a2⟩:=a;obtain⟨b1,b2⟩:=b;unfold Bef;simp only[o4.mk.injEq];omega
def a6G(l:List b9):Prop:=l.Pairwise fun a b=>Bef a.At b.At
def a6t(l:List b9):Prop:=l.Pairwise fun a b=>a.At≠b.At
theorem a6G.once{l:List b9}(h:a6G l):a6t l:=by
 unfold a6G at h;unfold a6t;exact h.imp fun {a b} (h:Bef a.At b.At) (e:a.At=b.At)=>Bef.irr b.At (e▸h)
theorem b8S:∀ {l m:List b9},a6G l→a6G m→(∀r,r∈l↔r∈m)→l=m
 |[],[],_,_,_=>rfl
 |[],y::m,_,_,h=>by have:=(h y).2 C7;cases this
 |x::l,[],_,_,h=>by have:=(h x).1 C7;cases this
 |x::l,y::m,hl,hm,h=>by
  unfold a6G at hl hm;simp only[b2P]at hl hm
  have e:x=y:=by
   rcases u9.1 ((h x).1 C7)with e|h1
   ·exact e
   ·rcases u9.1 ((h y).2 C7)with e|h2
    ·exact e.symm
    ·exact absurd ((hm.1 x h1).trans (hl.1 y h2)) (Bef.irr _)
  subst e;congr 1;refine b8S hl.2 hm.2 fun r=>?_
  constructor
  ·intro hr;rcases u9.1 ((h r).1 (F6 _ hr))with e|h1
   ·subst e;exact absurd (hl.1 r hr) (Bef.irr _)
   ·exact h1
  ·intro hr;rcases u9.1 ((h r).2 (F6 _ hr))with e|h1
   ·subst e;exact absurd (hm.1 r hr) (Bef.irr _)
   ·exact h1
def a7f(p:List b9)(r:b9):Prop:=z8 r∧(∀y,p.getLast?=some y→Bef y.At r.At)∧((cnt p r.At.Depot:Nat):Int)=r.At.No
def W8(l:List b9):Prop:=∀(i:Nat) (r:b9),l[i]?=some r→a7f (l.take i) r
def b0C(l:List b9):Prop:=l.length≤60∧W8 l
theorem W8.nil:W8 []:=fun i r h=>by simp at h
theorem b0y{l:List b9}{r:b9}:W8 (l++ [r])↔W8 l∧a7f l r:=by
 constructor
 ·intro h;refine⟨fun i x hx=>?_,?_⟩
  ·obtain⟨hi,rfl⟩:=P3.1 hx;have:=h i l[i] (by rw[b3O hi,hx]);rwa [b1F (a5j hi)]at this
  ·have:=h l.length r (by simp);simpa using this
 ·intro⟨h,hr⟩ i x hx;rcases b0A i l.length with h1|h1|h1
  ·rw[b3O h1]at hx;have:=h i x hx;rwa [b1F (a5j h1)]
  ·subst h1;simp at hx;subst hx;simpa using hr
  ·rw[b2t (by simp;omega)]at hx;cases hx
theorem W8.facts:∀(n:Nat) {l:List b9},l.length=n→W8 l→(∀r∈l,z8 r)∧a6G l∧∀x,l.getLast?=some x→(∀r∈l,r=x∨Bef r.At x.At)∧((cnt l x.At.Depot:Nat):Int)=x.At.No+1∧∀d,x.At.Depot<d→cnt l d=0
 |0,l,hn,_=>by
  obtain rfl:=List.length_eq_zero_iff.1 hn;exact⟨by simp,List.Pairwise.nil,by simp⟩
 |n+1,l,hn,h=>by
  rcases List.eq_nil_or_concat l with rfl|⟨L,b,rfl⟩
  ·simp at hn
  ·rw[List.concat_eq_append]at h hn⊢;obtain⟨h1,h2⟩:=b0y.1 h;obtain⟨f1,f2,f3⟩:=W8.facts n (by simpa using hn) h1
   obtain⟨b1,b2,b3⟩:=h2
   have hb:∀r∈L,Bef r.At b.At:=fun r hr=>by
    cases hg:L.getLast? with
    |none=>rw[List.getLast?_eq_none_iff]at hg;subst hg;cases hr
    |some y=>
     rcases(f3 y hg).1 r hr with e|e
     ·rw[e];exact b2 y hg
     ·exact e.trans (b2 y hg)
   refine⟨fun r hr=>?_,?_,fun x hx=>?_⟩
   ·rcases E3.1 hr with hr|hr
    ·exact f1 r hr
    ·obtain rfl:=a1V.1 hr;exact b1
   ·unfold a6G at f2⊢;rw[List.pairwise_append];exact⟨f2,List.pairwise_singleton _ _,fun a ha c hc=>by obtain rfl:=a1V.1 hc;exact hb a ha⟩
   ·rw[List.getLast?_concat]at hx;cases hx;refine⟨fun r hr=>?_,?_,fun d hd=>?_⟩
    ·rcases E3.1 hr with hr|hr
     ·exact .inr (hb r hr)
     ·exact .inl (a1V.1 hr)
    ·rw[a5C,k9 rfl];omega
    ·rw[a5C,j6 (by omega)];cases hg:L.getLast? with
     |none=>rw[List.getLast?_eq_none_iff]at hg;subst hg;rfl
     |some y=>
      have:=b2 y hg;have:=(f3 y hg).2.2 d (by unfold Bef at this;omega);omega
theorem W8.rec{l:List b9}(h:W8 l){r:b9}(hr:r∈l):z8 r:=(W8.facts _ rfl h).1 r hr
theorem W8.rise{l:List b9}(h:W8 l):a6G l:=(W8.facts _ rfl h).2.1
theorem W8.dep{l:List b9}(h:W8 l){r:b9}(hr:r∈l):y8 r.At.Depot:=a1D (h.rec hr)
open Classical in theorem book_loop{S E:Type}{body:S→Option (Sum S E)}(l:List b9)(hl:l.length≤9223372036854775800)(enc:Nat→S)(yes no:E)
 (h:∀(i:Nat) (hi:i<l.length),W8 (l.take i)→body (enc i)=some (if a7f (l.take i) l[i]then .inl (enc (i+1))else .inr no))
 (he:body (enc l.length)=some (.inr yes)):o8 body (enc 0)=some (if W8 l then yes else no):=by
 have key:=a0K (body:=body) l (by omega) (fun k (_:List b9)=>enc k) (fun p x=>if a7f p x then .inl (p++ [x])else .inr ()) (fun _:Unit=>no) (fun _=>yes) (fun pre s=>s=pre∧W8 pre)
  (fun pre x post s hp ⟨hs,hb⟩=>by
   subst hs;have hlt:s.length<l.length:=by rw[hp];simp
   have e1:l.take s.length=s:=by rw[hp];simp
   have e2:l[s.length]=x:=by simp only[hp];simp
   have:=h s.length hlt (by rw[e1];exact hb);rw[e1,e2]at this;by_cases hk:a7f s x
   ·rw[k9 hk]at this⊢;exact⟨this,fun s' hs'=>by cases hs';exact⟨rfl,b0y.2 ⟨hb,hk⟩⟩⟩
   ·rw[j6 hk]at this⊢;exact⟨this,fun s' hs'=>by cases hs'⟩) (fun s _=>he) [] ⟨rfl,W8.nil⟩
 rw[key]
 have run:∀(post pre:List b9),W8 pre→V5 (R:=Unit) (fun p x=>if a7f p x then .inl (p++ [x])else .inr ()) post pre=if W8 (pre++post)then .inl (pre++post)else .inr ():=by
  intro post
  induction post with
  |nil=>intro pre hp;simp[V5,hp]
  |cons x post ih=>
   intro pre hp;unfold V5;by_cases hk:a7f pre x
   ·rw[k9 hk];dsimp only;rw[ih _ (b0y.2 ⟨hp,hk⟩)];simp
   ·rw[j6 hk]
    have:¬W8 (pre++x::post):=fun hb=>hk (by
     have:=hb pre.length x (by simp);simpa using this)
    rw[j6 this]
 rw[run l [] W8.nil,a2B];by_cases hb:W8 l<;>simp[hb]
def a4H(p:List b9):Int×Int:=match p.getLast? with|none=>(-1,0)|some y=>(y.At.Depot,y.At.No)
theorem c4j(p:List b9)(r:b9):a4H (p++ [r])=(r.At.Depot,r.At.No):=by unfold a4H;rw[List.getLast?_concat]
theorem c5Y{p:List b9}{r:b9}(h:W8 p)(hr:z8 r):a7f p r↔(r.At.Depot=(a4H p).1∧r.At.No=(a4H p).2+1)∨((a4H p).1<r.At.Depot∧r.At.No=0):=by
 have hd:=a1D hr;unfold y8 at hd;obtain⟨f1,f2,f3⟩:=W8.facts _ rfl h;unfold a7f a4H;cases hg:p.getLast? with
 |none=>
  rw[List.getLast?_eq_none_iff]at hg;subst hg;simp only[c5f,reduceCtorEq,false_implies,implies_true,U2,hr];omega
 |some y=>
  obtain⟨_,g2,g3⟩:=f3 y hg;simp only[Y9,forall_eq',hr,U2];unfold Bef;rcases Int.lt_trichotomy r.At.Depot y.At.Depot with h1|h1|h1
  ·omega
  ·rw[h1];omega
  ·have:=g3 _ h1;omega
open Classical in theorem isBook_eq(b:I4)(hl:b.Records.length≤9223372036854775800)(hs:∀r∈b.Records,r.Text.size≤9223372036854775807):a0f b=some (decide (b0C b.Records)):=by
 obtain⟨l⟩:=b;dsimp only at hl hs;unfold a0f
 have key:=book_loop (body:=E7 ⟨l⟩) l hl (fun k=>((k:Int),(a4H (l.take k)).1,(a4H (l.take k)).2)) (.inl ((l.length:Int),(a4H l).1,(a4H l).2)) (.inr false)
  (fun i hi hb=>by
   unfold E7;dsimp only;rw[ifd (by omega),L5 hi,j7,a4l hi,c4j,V4 _ (hs _ (Y8 hi)),W_s (by omega)];by_cases hok:z8 l[i]
   ·have hn:0≤l[i].At.No∧l[i].At.No≤9999:=hok.1.2
    have hn2:(a4H (l.take i)).2+1≤9223372036854775807∧-9223372036854775808≤(a4H (l.take i)).2+1:=by
     unfold a4H;cases hg:(l.take i).getLast? with
     |none=>decide
     |some y=>
      have:0≤y.At.No∧y.At.No≤9999:=(hb.rec (List.mem_of_getLast? hg)).1.2;dsimp only;omega
    rw[a2W (z:=(a4H (l.take i)).2+1) ⟨hn2.2,hn2.1⟩];simp only[hok,a0a,a2R,j7,M4,G8,L9,R5,a5J,beq_eq_false_iff_ne,ne_eq];have hq:=c5Y hb hok;by_cases hS:a7f (l.take i) l[i]
    ·rw[k9 hS];rcases hq.1 hS with⟨a1,a2⟩|⟨a1,a2⟩
     ·rw[k9 a1,k9 a2];rfl
     ·rw[j6 (by omega),k9 a1,j6 (by decide),j6 (fun hh=>hh a2)]
    ·rw[j6 hS];have hq2:=fun hh=>hS (hq.2 hh)
     by_cases a1:l[i].At.Depot=(a4H (l.take i)).1
     ·rw[k9 a1,j6 (fun a2=>hq2 (.inl ⟨a1,a2⟩)),j6 (by omega)];split<;>rfl
     ·rw[j6 a1];by_cases a3:l[i].At.Depot>(a4H (l.take i)).1
      ·rw[k9 a3,j6 (by decide),k9 (fun a2=>hq2 (.inr ⟨a3,a2⟩))]
      ·rw[j6 a3];split<;>rfl
   ·have hS:¬a7f (l.take i) l[i]:=fun hS=>hok hS.1
    simp only[hok,a0U,a4G,j7,D2,hS,G8];split
    ·split
     ·rfl
     ·split<;>rfl
    ·split<;>rfl)
  (by unfold E7;dsimp only;rw[j6 (by simp),a8u])
 have e0:o8 (E7 ⟨l⟩) (0,-1,0)=_:=key;rw[e0,j7];unfold b0C;by_cases hb:W8 l
 ·rw[k9 hb];dsimp only;simp only[hb,and_true];congr 1;by_cases x1:l.length≤60
  ·simp only[x1,a0a,R5];omega
  ·simp only[x1,a0U,b2W];omega
 ·rw[j6 hb];simp[hb]
theorem c1R(a b:o4):a4g a b=some (decide (Bef a b)):=by
 unfold a4g Bef;by_cases h1:a.Depot<b.Depot
 ·simp[h1]
 ·by_cases h2:a.Depot=b.Depot
  ·simp[h2]
  ·simp[h1,h2]
open Classical in theorem Check_eq(b:I4)(hs:∀r∈b.Records,r.Text.size≤9223372036854775807):a5S b=some (if b0C b.Records then 0 else 81):=by
 obtain⟨l⟩:=b;dsimp only at hs;unfold a5S b0C;by_cases x1:l.length≤60
 ·rw[j6 (by have:=x1;simp only[R5];omega)]
  have key:=book_loop (body:=Z9 ⟨l⟩) l (by omega) (fun k=>(k:Int)) (.inl (l.length:Int)) (.inr 81)
   (fun i hi hb=>by
    unfold Z9;dsimp only;have hdep:∀r∈l.take i,y8 r.At.Depot:=fun r hr=>hb.dep hr
    have z1:i≤60:=by omega
    have es:sub l 0 ((i:Int)).toNat=l.take i:=by unfold sub;simp
    rw[ifd (by omega),L5 hi,j7,a0e _ (hs _ (Y8 hi)),j7,q9 (by omega)];simp only[j7,es];rw[a8e _ (by simp;omega) hdep];simp only[j7];rw[W_s (by omega)];by_cases hok:z8 l[i]
    ·rw[j6 (by simp[hok])];have hc:=a6n (l.take i) (a1D hok);rw[a4v]at hc;simp only[hc,j7]
     have hcd:(if(((cnt (l.take i) l[i].At.Depot:Nat):Int) !=l[i].At.No)=true then some (Sum.inr (Sum.inr (81:Int)))else some (Sum.inl ((i+1:Nat):Int)):Option (Sum Int (Sum Int Int)))=if((cnt (l.take i) l[i].At.Depot:Nat):Int)=l[i].At.No then some (.inl ((i+1:Nat):Int))else some (.inr (.inr 81)):=by
      by_cases hh:((cnt (l.take i) l[i].At.Depot:Nat):Int)=l[i].At.No<;>simp[hh]
     rw[hcd];by_cases h0:i=0
     ·subst h0;rw[j6 (by simp)];unfold a7f;by_cases hh:((cnt (l.take 0) l[0].At.Depot:Nat):Int)=l[0].At.No
      ·rw[k9 hh,k9 ⟨hok,by simp,hh⟩]
      ·rw[j6 hh,j6 (fun hx=>hh hx.2.2)]
     ·rw[ifd (by omega),a2W (by omega)];have hj:i-1<l.length:=by omega
      have ej:((i:Int)-1)=((i-1:Nat):Int):=by omega
      have hg:(l.take i).getLast?=some l[i-1]:=by
       rw[List.getLast?_eq_getElem?,Z5,a1Q (by omega),a5q,k9 (by omega),J7 hj]
      rw[ej,L5 hj,j7,c1R,j7];unfold a7f;rw[hg];by_cases hbf:Bef l[i-1].At l[i].At
      ·rw[j6 (by simp[hbf])];by_cases hh:((cnt (l.take i) l[i].At.Depot:Nat):Int)=l[i].At.No
       ·rw[k9 hh,k9 ⟨hok,by intro y hy;cases hy;exact hbf,hh⟩]
       ·rw[j6 hh,j6 (fun hx=>hh hx.2.2)]
      ·rw[k9 (by simp[hbf]),j6 (fun hx=>hbf (hx.2.1 _ rfl))]
    ·rw[k9 (by simp[hok]),j6 (fun hx=>hok hx.1)])
   (by unfold Z9;dsimp only;rw[j6 (by simp)])
  have e0:o8 (Z9 ⟨l⟩) 0=_:=key;rw[e0,j7];by_cases hb:W8 l
  ·rw[k9 hb];simp[hb,x1]
  ·rw[j6 hb];simp[hb]
 ·rw[k9 (by have:=x1;simp only[R5];omega),j6 (fun hx=>x1 hx.1)]
theorem ltR(a b:b9):Go.Proofs.ltOf b2r a b=true↔Bef a.At b.At:=by
 unfold Go.Proofs.ltOf Bef;rw[decide_eq_true_iff];unfold b2r
 have hc:∀x y:Int,(a8x x y= -1∧x<y)∨(a8x x y=1∧y<x)∨(a8x x y=0∧x=y):=fun x y=>by
  unfold a8x;by_cases h1:x<y
  ·exact .inl ⟨by rw[k9 h1],h1⟩
  ·by_cases h2:x>y
   ·exact .inr (.inl ⟨by rw[j6 h1,k9 h2],h2⟩)
   ·exact .inr (.inr ⟨by rw[j6 h1,j6 h2],by omega⟩)
 rcases hc a.At.Depot b.At.Depot with⟨e1,g1⟩|⟨e1,g1⟩|⟨e1,g1⟩<;>rcases hc a.At.No b.At.No with⟨e2,g2⟩|⟨e2,g2⟩|⟨e2,g2⟩<;>rw[e1,e2]<;>simp[orI]<;>omega
theorem a0v(l:List b9):(A0 l).Perm l:=by
 obtain⟨⟨h1,_,h3⟩,_⟩:=a9f l;have e1:(a5w l).extract 0 l.toArray.size=a5w l:=by rw[←h1];simp
 have e2:l.toArray.extract 0 l.toArray.size=l.toArray:=by simp
 rw[e1,e2]at h3;simpa[A0]using h3
theorem a6t.perm{l m:List b9}(h:a6t l)(p:l.Perm m):a6t m:=by
 unfold a6t at*;exact(p.pairwise_iff (fun {a b} (h:a.At≠b.At)=>h.symm)).1 h
theorem b5p{l:List b9}(h:a6t l):a6G (A0 l):=by
 have ho:a6t (A0 l):=h.perm (a0v l).symm;obtain⟨⟨h1,_,_⟩,h2⟩:=a9f l;unfold a6t at ho;unfold a6G;rw[b5f]at ho⊢;intro i j hi hj hij;have hne:=ho i j hi hj hij;have hs:(A0 l).length=(a5w l).size:=by simp[A0]
 have hlt:=h2 i j (L0 _) hij (by rw[←h1];omega);have e1:(a5w l)[j]! =(A0 l)[j]:=by simp only[A0];rw[getElem!_pos (a5w l) j (by omega)];simp
 have e2:(a5w l)[i]! =(A0 l)[i]:=by simp only[A0];rw[getElem!_pos (a5w l) i (by omega)];simp
 rw[e1,e2]at hlt;have hn:¬Bef (A0 l)[j].At (A0 l)[i].At:=fun hb=>by rw[(ltR _ _).2 hb]at hlt;cases hlt
 rcases Bef.tri (A0 l)[i].At (A0 l)[j].At with g|g|g
 ·exact g
 ·exact absurd g hne
 ·exact absurd g hn
theorem b0V{l m:List b9}(h:a6G m)(p:m.Perm l):A0 l=m:=by
 refine b8S (b5p (h.once.perm p)) h fun r=>?_
 rw[(a0v l).mem_iff,p.mem_iff]
theorem c4b{l:List b9}(h:a6G l):A0 l=l:=b0V h (List.Perm.refl _)
def b0W:List b9→b9→List b9
 |[],r=>[r]
 |x::l,r=>if Bef x.At r.At then x::b0W l r else r::x::l
theorem a7t:∀(l:List b9) (r:b9),(b0W l r).Perm (r::l)
 |[],r=>List.Perm.refl _
 |x::l,r=>by
  unfold b0W;split
  ·exact((a7t l r).cons x).trans (List.Perm.swap r x l)
  ·exact List.Perm.refl _
theorem c1Y(l:List b9)(r:b9):(b0W l r).length=l.length+1:=by simpa using (a7t l r).length_eq
theorem b2I:∀ {l:List b9}{r:b9},a6G l→(∀x∈l,x.At≠r.At)→a6G (b0W l r)
 |[],r,_,_=>List.pairwise_singleton _ _
 |x::l,r,h,hn=>by
  unfold a6G at h;obtain⟨h1,h2⟩:=b2P.1 h;unfold b0W;split
  ·rename_i hb;refine b2P.2 ⟨fun y hy=>?_,b2I h2 fun y hy=>hn y (F6 _ hy)⟩;rcases u9.1 ((a7t l r).mem_iff.1 hy)with e|hy
   ·rw[e];exact hb
   ·exact h1 y hy
  ·rename_i hb
   have hx:Bef r.At x.At:=by
    rcases Bef.tri r.At x.At with g|g|g
    ·exact g
    ·exact absurd g.symm (hn x C7)
    ·exact absurd g hb
   refine b2P.2 ⟨fun y hy=>?_,h⟩;rcases u9.1 hy with e|hy
   ·rw[e];exact hx
   ·exact hx.trans (h1 y hy)
theorem c6s{l:List b9}{r:b9}(h:a6G l)(hn:∀x∈l,x.At≠r.At):A0 (l++ [r])=b0W l r:=
 b0V (b2I h hn) ((a7t l r).trans (List.perm_append_comm (l₁:=[r]) (l₂:=l)))
def a9V(l:List b9)(r:b9):Nat:=(l.takeWhile fun x=>decide (Bef x.At r.At)).length
theorem c9B(l:List b9)(r:b9):a9V l r≤l.length:=(List.takeWhile_sublist _).length_le
theorem b6h:∀(l:List b9) (r:b9),b0W l r=l.take (a9V l r)++ [r]++l.drop (a9V l r)
 |[],r=>rfl
 |x::l,r=>by
  unfold b0W a9V;by_cases hb:Bef x.At r.At
  ·rw[k9 hb,List.takeWhile_cons_of_pos (by simpa using hb),b6h l r]
   simp[a9V]
  ·rw[j6 hb,List.takeWhile_cons_of_neg (by simpa using hb)]
   simp
theorem c4S(r:b9):∀(l:List b9) (s:Nat),(match V5 (fun(s:Nat) (x:b9)=>if Bef x.At r.At then .inl (s+1)else(.inr s:Sum Nat Nat)) l s with|.inl s'=>(s':Int)|.inr s'=>(s':Int))=((s+a9V l r:Nat):Int)
 |[],s=>by simp[V5,a9V]
 |x::l,s=>by
  unfold V5 a9V;by_cases hb:Bef x.At r.At
  ·rw[k9 hb,List.takeWhile_cons_of_pos (by simpa using hb)]
   dsimp only;rw[c4S r l (s+1),Y0];unfold a9V;congr 1;omega
  ·rw[j6 hb,List.takeWhile_cons_of_neg (by simpa using hb)]
   simp
theorem c4d(l:List b9)(r:b9)(hl:l.length≤1000000):a7o l r=some (b0W l r):=by
 unfold a7o
 have key:=a0K (body:=a0x l r) l (by omega) (fun k (_:Nat)=>(k:Int)) (fun(s:Nat) (x:b9)=>if Bef x.At r.At then .inl (s+1)else(.inr s:Sum Nat Nat)) (fun s=>(s:Int)) (fun s=>(s:Int)) (fun pre s=>s=pre.length)
  (fun pre x post s hp hs=>by
   subst hp hs;unfold a0x;rw[k9 (by simp only[R5];exact a8J),a4P,j7,c1R,j7,W_s (by simp at hl;omega)];by_cases hb:Bef x.At r.At
   ·rw[k9 (by simp[hb]),k9 hb];exact⟨rfl,fun s' hs'=>by cases hs';simp⟩
   ·rw[j6 (by simp[hb]),j6 hb];exact⟨rfl,fun s' hs'=>by cases hs'⟩)
  (fun s hs=>by subst hs;unfold a0x;rw[j6 (by simp)]) 0 rfl
 have key2:o8 (a0x l r) 0=_:=key
 have key3:o8 (a0x l r) 0=some ((a9V l r:Nat):Int):=by
  rw[key2];have:=c4S r l 0;rw[a0k]at this;generalize V5 (fun(s:Nat) (x:b9)=>if Bef x.At r.At then .inl (s+1)else(.inr s:Sum Nat Nat)) l 0=q at this⊢
  cases q<;>exact Y7 some this
 rw[key3,j7];have hp:=c9B l r;rw[q9 (by omega),j7,q9 (by omega),j7,b6h];have e1:sub l 0 ((a9V l r:Nat):Int).toNat=l.take (a9V l r):=by unfold sub;simp
 have e2:sub l ((a9V l r:Nat):Int).toNat l.length=l.drop (a9V l r):=by unfold sub;rw[a2C,a5m (by simp)]
 rw[e1,e2];have l1:(l.take (a9V l r)).length≤1000000:=by simp;omega
 have l2:(l.drop (a9V l r)).length≤1000000:=by simp;omega
 rw[q9 (by simp only[N0];omega),q9 (by simp only[a2B,Y0,N0];omega),q9 (by simp only[a2B,O6,Y0,N0];omega),a2B]
theorem c1S:∀(l s:List b9),a6G s→a6t (s++l)→a6G (l.foldl b0W s)∧(l.foldl b0W s).Perm (s++l)
 |[],s,h,_=>⟨h,by simp⟩
 |x::l,s,h,ho=>by
  have hp:=a7t s x;have ho1:=ho;unfold a6t at ho;rw[List.pairwise_append]at ho;have hx:∀y∈s,y.At≠x.At:=fun y hy=>ho.2.2 y hy x C7
  have hq:(b0W s x++l).Perm (s++x::l):=(hp.append_right l).trans (List.perm_middle.symm);obtain⟨f1,f2⟩:=c1S l (b0W s x) (b2I h hx) (ho1.perm hq.symm);exact⟨f1,f2.trans hq⟩
theorem c3M(l:List b9)(hl:l.length≤100000)(ho:a6t l):a5a l=some (A0 l):=by
 unfold a5a
 have key:=a0K (R:=Unit) (body:=V2 l) l (by omega) (fun k (s:List b9)=>(s,(k:Int))) (fun s x=>.inl (b0W s x)) (fun _=>([],0)) (fun s=>(s,(l.length:Int))) (fun pre s=>s.length=pre.length)
  (fun pre x post s hp hs=>by
   subst hp;unfold V2;dsimp only;rw[k9 (by simp only[R5];exact a8J),a4P,j7,c4d _ _ (by simp at hl;omega),j7,W_s (by simp at hl;omega)];exact⟨rfl,fun s' hs'=>by cases hs';rw[c1Y];simp[hs]⟩)
  (fun s hs=>by unfold V2;dsimp only;rw[j6 (by simp)]) [] rfl
 have key2:o8 (V2 l) ([],0)=_:=key;rw[key2,c4g,j7];dsimp only;obtain⟨f1,f2⟩:=c1S l [] List.Pairwise.nil (by simpa using ho)
 rw[b0V f1 (by simpa using f2)]
theorem Written.once{l:List b9}(h:Written l):a6t l:=by
 unfold a6t;rw[b5f];intro i j hi hj hij he;have a:=(h i _ (J7 hi)).2.2;have b:=(h j _ (J7 hj)).2.2;have hd:l[i].At.Depot=l[j].At.Depot:=by rw[he]
 have hn:l[i].At.No=l[j].At.No:=by rw[he]
 have e:cnt (l.take (i+1)) l[i].At.Depot=cnt (l.take i) l[i].At.Depot+1:=by
  rw[a4l hi,a5C,k9 rfl]
 have m:cnt (l.take (i+1)) l[i].At.Depot≤cnt (l.take j) l[i].At.Depot:=by
  have:l.take (i+1)=(l.take j).take (i+1):=by rw[a9w,a1Q (by omega)]
  rw[this];exact(List.take_sublist _ _).countP_le
 rw[←hd,←hn]at b;omega
theorem c2N(x y:Int):W9 x y=some (if x<y then-1 else if x>y then 1 else 0):=by
 unfold W9 a2g;simp only[bne_self_eq_false,j7,M4,G8,R5];by_cases h:x<y
 ·simp[h]
 ·by_cases h2:x>y<;>simp[h,h2]
theorem d2A(a b:Int):a4X [a,b]=some (if a≠0 then a else b):=by
 unfold a4X
 have key:=a0K (body:=a0C [a,b]) [a,b] (by simp) (fun k (_:Unit)=>(k:Int)) (fun _ (x:Int)=>if x≠0 then(.inr x:Sum Unit Int)else .inl ()) (fun x=>.inr x) (fun _=>.inl 2) (fun _ _=>True)
  (fun pre x post s hp _=>by
   have hlen:pre.length≤1:=by
    have:=Y7 List.length hp;simp at this;omega
   rw[hp];unfold a0C;rw[k9 (by simp only[R5];exact a8J),a4P,j7,W_s (by omega)];by_cases h:x=0
   ·simp[h]
   ·simp[h])
  (fun s _=>rfl) () trivial
 have key2:o8 (a0C [a,b]) 0=_:=key;rw[key2];by_cases ha:a=0
 ·by_cases hb:b=0
  ·simp[V5,ha,hb]
  ·simp[V5,ha,hb]
 ·simp[V5,ha]
theorem c0q(r:b9)(t:o4):a1r r t=some (if Bef r.At t then-1 else if r.At=t then 0 else 1):=by
 unfold a1r a4w;simp only[c2N,j7,d2A];obtain⟨⟨d,n⟩,_⟩:=r;obtain⟨e,m⟩:=t;unfold Bef;simp only[o4.mk.injEq,Y9];rcases Int.lt_trichotomy d e with h1|h1|h1
 ·simp[h1]
 ·subst h1;rcases Int.lt_trichotomy n m with h2|h2|h2
  ·simp[h2]
  ·simp[h2]
  ·have a:¬n<m:=by omega
   have b:¬n=m:=by omega
   simp[h2,a,b]
 ·have a:¬d<e:=by omega
  have b:¬d=e:=by omega
  simp[h1,a,b]
theorem d1T{z:Int}(h:0≤z∧z≤18446744073709551615):IntKind.u64.wrap z=z:=by
 simp only[IntKind.wrap,IntKind.signed,IntKind.bits];simp;omega
theorem d4C(i j:Nat)(h:i+j≤9223372036854775807):W ((IntKind.u64.wrap (W ((i:Int)+(j:Int)))).fdiv (2^(min (1:Int).toNat IntKind.u64.bits)))=(((i+j) / 2:Nat):Int):=by
 have e:(2:Int)^(min (1:Int).toNat IntKind.u64.bits)=2:=by decide
 rw[e,a2W (z:=(i:Int)+j) (by omega),d1T (by omega),Int.fdiv_eq_ediv_of_nonneg _ (by omega)];have e2:((i:Int)+j) / 2=(((i+j) / 2:Nat):Int):=by simp
 rw[e2,a2W (by omega)]
theorem d0e(l:List b9)(hl:l.length≤4611686018427387903)(hs:a6G l)(t:o4):∃i:Nat,a1H ⟨l⟩ t=some ((i:Int),decide (∃v,l[i]?=some v∧v.At=t))∧(∀v,v∈l→v.At=t→l[i]?=some v):=by
 unfold a1H r7;have hlt2:∀(i j:Nat) (hi:i<l.length) (hj:j<l.length),i<j→Bef l[i].At l[j].At:=fun i j hi hj hij=>b5f.1 hs i j hi hj hij
 have hmono:∀(i j:Nat) (hi:i<l.length) (hj:j<l.length),i≤j→Bef l[j].At t→Bef l[i].At t:=by
  intro i j hi hj hij hb;rcases Nat.lt_or_eq_of_le hij with h|h
  ·exact(hlt2 i j hi hj h).trans hb
  ·subst h;exact hb
 obtain⟨e,h1,i,h2,h3,h4,h5⟩:=a0J (body:=m9 l t) (fun st:Int×Int=>∃i j:Nat,st=((i:Int),(j:Int))∧i≤j∧j≤l.length∧(∀k (hk:k<l.length),k<i→Bef l[k].At t)∧(∀k (hk:k<l.length),j≤k→¬Bef l[k].At t))
  (fun st=>(st.2-st.1).toNat) (fun st=>∃i:Nat,st=((i:Int),(i:Int))∧i≤l.length∧(∀k (hk:k<l.length),k<i→Bef l[k].At t)∧(∀k (hk:k<l.length),i≤k→¬Bef l[k].At t)) (by
  rintro⟨_,_⟩ ⟨i,j,he,hij,hj,ha,hb⟩;cases he;unfold m9;by_cases hlt:i<j
  ·right;have c:(i:Int)<(j:Int):=by omega
   have hm:(i+j) / 2<l.length:=by omega
   simp only[c,a0a,D2,d4C i j (by omega),L5 hm,j7,c0q];by_cases hc:Bef l[(i+j) / 2].At t
   ·refine⟨((((i+j) / 2+1:Nat):Int),(j:Int)),?_,⟨(i+j) / 2+1,j,rfl,by omega,hj,fun k hk hki=>?_,hb⟩,by simp only;omega⟩
    ·simp only[hc,D2,show decide ((-1:Int)<0)=true from rfl];rw[a2W (z:=(((i+j) / 2:Nat):Int)+1) (by omega)];rfl
    ·exact hmono k ((i+j) / 2) hk hm (by omega) hc
   ·refine⟨((i:Int),(((i+j) / 2:Nat):Int)),?_,⟨i,(i+j) / 2,rfl,by omega,by omega,ha,fun k hk hki=>?_⟩,by simp only;omega⟩
    ·have:decide ((if l[(i+j) / 2].At=t then(0:Int)else 1)<0)=false:=by split<;>rfl
     simp only[hc,G8,this,M4]
    ·exact fun h=>hc (hmono ((i+j) / 2) k hm hk hki h)
  ·left;have c:¬(i:Int)<(j:Int):=by omega
   obtain rfl:i=j:=by omega
   exact⟨_,by simp only[c,a0U,M4,G8],i,rfl,hj,ha,hb⟩) (0,(l.length:Int)) ⟨0,l.length,rfl,by omega,by omega,by omega,by omega⟩ (by unfold a0X;simp only;omega)
 subst h2;rw[h1];refine⟨i,?_,fun v hv he=>?_⟩
 ·by_cases hi:i<l.length
  ·have c:(i:Int)<(l.length:Int):=by omega
   have hge:=h5 i hi (y6 _);simp only[j7,c,a0a,D2,L5 hi,c0q,hge,G8,J7 hi,Y9,exists_eq_left'];by_cases he:l[i].At=t<;>simp[he]
  ·have c:¬(i:Int)<(l.length:Int):=by omega
   simp only[j7,c,a0U,M4,G8];rw[b2t (by omega)];simp
 ·obtain⟨k,hk,rfl⟩:=a8X hv;rcases b0A k i with g|g|g
  ·have:=h4 k hk g;rw[he]at this;exact absurd this (Bef.irr _)
  ·subst g;exact J7 hk
  ·have hi:i<l.length:=by omega
   have:=hlt2 i k hi hk g;rw[he]at this;exact absurd this (h5 i hi (y6 _))
def fnd(l:List b9)(t:o4):Option b9:=l.find? fun v=>decide (v.At=t)
theorem a7i{l:List b9}{t:o4}{v:b9}(h:fnd l t=some v):v∈l∧v.At=t:=
 ⟨List.mem_of_find?_eq_some h,by simpa using List.find?_some h⟩
theorem a8G{l:List b9}{t:o4}(h:fnd l t=none):∀v∈l,v.At≠t:=fun v hv=>by
 have:=List.find?_eq_none.1 h v hv;simpa using this
theorem c8u(l:List b9)(hl:l.length≤1000000)(hs:a6G l)(t:o4):∃i:Int,a1H ⟨l⟩ t=some (i,(fnd l t).isSome)∧∀v,fnd l t=some v→idx l i=some v:=by
 obtain⟨i,h1,h2⟩:=d0e l (by omega) hs t;refine⟨(i:Int),?_,fun v hv=>?_⟩
 ·rw[h1];congr 2;cases hf:fnd l t with
  |none=>
   have hn:=a8G hf;simp only[Option.isSome_none,b2W];rintro⟨v,hv,he⟩;exact hn v (b0f hv) he
  |some v=>
   obtain⟨g1,g2⟩:=a7i hf;simp only[Option.isSome_some,R5];exact⟨v,h2 v g1 g2,g2⟩
 ·obtain⟨g1,g2⟩:=a7i hv;have h3:=h2 v g1 g2;obtain⟨hi,he⟩:=P3.1 h3;rw[L5 hi,he]
theorem c1r(t:o4):∀(l:List b9) (s:Nat),(match V5 (fun(s:Nat) (x:b9)=>if x.At=t then(.inr s:Sum Nat Nat)else .inl (s+1)) l s with|.inl _=>fnd l t=none|.inr k=>∃v,fnd l t=some v∧s≤k∧l[k-s]?=some v)
 |[],s=>rfl
 |x::l,s=>by
  unfold V5;by_cases h:x.At=t
  ·rw[k9 h];exact⟨x,by simp[fnd,h],y6 _,by simp⟩
  ·rw[j6 h];have ih:=c1r t l (s+1);have e:fnd (x::l) t=fnd l t:=by simp[fnd,h]
   rw[e];dsimp only;generalize V5 (fun(s:Nat) (x:b9)=>if x.At=t then(.inr s:Sum Nat Nat)else .inl (s+1)) l (s+1)=q at ih⊢
   cases q with
   |inl _=>exact ih
   |inr k=>
    obtain⟨v,a,b,c⟩:=ih;refine⟨v,a,by omega,?_⟩;have:k-s=(k-(s+1))+1:=by omega
    rw[this,List.getElem?_cons_succ];exact c
theorem c6f(l:List b9)(hl:l.length≤1000000)(t:o4):∃z:Int,a7L l t=some z∧(fnd l t=none→z= -1)∧∀v,fnd l t=some v→0≤z∧idx l z=some v:=by
 unfold a7L
 have key:=a0K (body:=a0M l t) l (by omega) (fun k (_:Nat)=>(k:Int)) (fun(s:Nat) (x:b9)=>if x.At=t then(.inr s:Sum Nat Nat)else .inl (s+1)) (fun s=>.inr (s:Int)) (fun s=>.inl (s:Int)) (fun pre s=>s=pre.length)
  (fun pre x post s hp hs=>by
   subst hp hs;unfold a0M;rw[k9 (by simp only[R5];exact a8J),a4P,j7,c8m,W_s (by simp at hl;omega)];by_cases hb:x.At=t
   ·rw[k9 (by simp[hb]),k9 hb];exact⟨rfl,fun s' hs'=>by cases hs'⟩
   ·rw[j6 (by simp[hb]),j6 hb];exact⟨rfl,fun s' hs'=>by cases hs';simp⟩)
  (fun s hs=>by subst hs;unfold a0M;rw[j6 (by simp)]) 0 rfl
 have key2:o8 (a0M l t) 0=_:=key;rw[key2,j7];have hr:=c1r t l 0;generalize V5 (fun(s:Nat) (x:b9)=>if x.At=t then(.inr s:Sum Nat Nat)else .inl (s+1)) l 0=q at hr⊢
 cases q with
 |inl _=>exact⟨-1,rfl,fun _=>rfl,fun v hv=>by rw[hr]at hv;cases hv⟩
 |inr k=>
  obtain⟨v,a,_,c⟩:=hr;refine⟨(k:Int),rfl,(fun h=>by rw[a]at h;cases h),fun v' hv'=>?_⟩;rw[a]at hv';cases hv';rw[a6l]at c;obtain⟨hi,he⟩:=P3.1 c;exact⟨by omega,by rw[L5 hi,he]⟩
def a0S(l:List b9)(r:b9):Bool×Int:=
 match fnd l r.At with
 |some v=>if v=r then(false,0)else(false,82)
 |none=>if((cnt l r.At.Depot:Nat):Int)<r.At.No then(false,83)else if l.length=60 then(false,2)else(true,0)
theorem b9m(l:List b9)(r:b9)(hl:l.length≤1000000)(hd:∀r∈l,y8 r.At.Depot)(hs:r.Text.size≤9223372036854775807):a5F l r=some (if z8 r then a0S l r else(false,80)):=by
 unfold a5F a0S;rw[a0e _ hs,j7];by_cases hr:z8 r
 ·obtain⟨z,h1,h2,h3⟩:=c6f l hl r.At;rw[j6 (by simp[hr]),k9 hr,h1,j7];cases hf:fnd l r.At with
  |some v=>
   obtain⟨g1,g2⟩:=h3 v hf;rw[k9 (by simpa using g1),g2,j7,b4z]
   dsimp only;by_cases hv:v=r
   ·rw[k9 (by simp[hv]),k9 hv]
   ·rw[j6 (by simp[hv]),j6 hv]
  |none=>
   have hz:=h2 hf;subst hz;have hc:=a6n l (a1D hr);rw[a4v]at hc;rw[j6 (by decide),a8e l hl hd,j7,hc,j7];dsimp only;by_cases h4:((cnt l r.At.Depot:Nat):Int)<r.At.No
   ·rw[k9 (by simpa using h4),k9 h4]
   ·rw[j6 (by simpa using h4),j6 h4]
    by_cases h5:l.length=60
    ·rw[k9 (by simp[h5]),k9 h5]
    ·rw[j6 (by simp only[L9];omega),j6 h5]
 ·rw[k9 (by simp[hr]),j6 hr]
theorem c8o(b:I4)(r:b9)(hb:b.Records.length≤9223372036854775800)(hs:∀r∈b.Records,r.Text.size≤9223372036854775807)(hr:r.Text.size≤9223372036854775807):
 ∃x,a1e b r=some x∧a9E b r=some x∧x.1.Records.length≤61:=by
 obtain⟨l⟩:=b;dsimp only at hb hs;unfold a1e a9E;rw[isBook_eq _ hb hs,Check_eq _ hs,V4 _ hr];simp only[j7];by_cases h:b0C l
 ·have hl:=h.1;have hd:∀r∈l,y8 r.At.Depot:=fun r hr=>h.2.dep hr
  rw[b9m l r (by omega) hd hr];simp only[h,a0a,a2R,M4,D2,G8,bne_self_eq_false,j7];by_cases hk:z8 r
  ·simp only[hk,a0a,a2R,M4,D2,G8];obtain⟨i,h1,h2⟩:=c8u l (by omega) h.2.rise r.At;rw[h1,j7];dsimp only;cases hf:fnd l r.At with
   |some v=>
    rw[k9 (show(some v).isSome=true from rfl),h2 v hf,j7,b4z]
    skip
    by_cases hv:v=r
    ·have ha:a0S l r=(false,0):=by unfold a0S;rw[hf];exact k9 hv
     rw[k9 (by simp[hv]),ha];unfold D8;rw[q9 (by omega),j7,c4b h.2.rise];refine⟨_,rfl,?_,by dsimp only;omega⟩;dsimp only;rw[j6 (by decide),k9 (show(!false)=true from rfl),q9 (by simp only[N0];omega)];rfl
    ·have ha:a0S l r=(false,82):=by unfold a0S;rw[hf];exact j6 hv
     rw[j6 (by simp[hv]),ha];exact⟨_,rfl,rfl,by simp⟩
   |none=>
    have hn:=a8G hf;have hc:=a6n l (a1D hk);rw[a4v]at hc;rw[j6 (by simp),a7W l (by omega) hd,j7,hc,j7]
    skip
    by_cases h4:((cnt l r.At.Depot:Nat):Int)<r.At.No
    ·have ha:a0S l r=(false,83):=by unfold a0S;rw[hf];exact k9 h4
     rw[k9 (by simpa using h4),ha]
     exact⟨_,rfl,rfl,by simp⟩
    ·rw[j6 (by simpa using h4)]
     by_cases h5:l.length=60
     ·have ha:a0S l r=(false,2):=by unfold a0S;rw[hf];dsimp only;rw[j6 h4,k9 h5]
      rw[k9 (by simp[h5]),ha];exact⟨_,rfl,rfl,by simp⟩
     ·have ha:a0S l r=(true,0):=by unfold a0S;rw[hf];dsimp only;rw[j6 h4,j6 h5]
      rw[j6 (by simp only[L9];omega),ha];unfold l3 D8;rw[q9 (by omega),j7,q9 (by simp only[Y0,N0];omega),q9 (by simp only[O6,Y0,N0];omega),j7,c6s h.2.rise hn];refine⟨_,rfl,?_,by dsimp only;rw[c1Y];omega⟩;dsimp only;rw[j6 (by decide),j6 (by decide),c4d l r (by omega)];rfl
  ·simp only[hk,a0U,a4G,D2,G8,show((80:Int) !=0)=true from rfl];exact⟨_,rfl,rfl,by simp⟩
 ·simp only[h,a0U,a4G,D2,G8,show((81:Int) !=0)=true from rfl];exact⟨_,rfl,rfl,by simp⟩
abbrev N5:=Int×Int×Int×Int×Int
def I64(x:Int):Prop:= -9223372036854775808≤x∧x≤9223372036854775807
def d5s(n:N5):Prop:=I64 n.1∧I64 n.2.1∧I64 n.2.2.1∧I64 n.2.2.2.1∧I64 n.2.2.2.2
theorem c8G(n:Int)(h:I64 n):∃t,a5Z n=some t∧a6C t:=by
 unfold a5Z;rw[a2o n 6 h (by omega),j7];have hc:n % 6=0∨n % 6=1∨n % 6=2∨n % 6=3∨n % 6=4∨n % 6=5:=by omega
 rcases hc with e|e|e|e|e|e<;>rw[e]<;>exact⟨_,rfl,by decide+kernel⟩
def low(l:List b9)(d n:Int):Nat:=l.countP fun r=>r.At.Depot==d&&decide (r.At.No<n)
theorem c9c(l:List b9)(r:b9)(d n:Int):low (l++ [r]) d n=low l d n+if r.At.Depot=d∧r.At.No<n then 1 else 0:=by
 unfold low;rw[List.countP_append,List.countP_singleton];congr 1;by_cases a:r.At.Depot=d<;>by_cases b:r.At.No<n<;>simp[a,b]
theorem Written.pre{l:List b9}{r:b9}(h:Written (l++ [r])):Written l∧z8 r∧P9 l r:=by
 refine⟨fun i x hx=>?_,?_⟩
 ·obtain⟨hi,rfl⟩:=P3.1 hx;have:=h i l[i] (by rw[b3O hi,hx]);rwa [b1F (a5j hi)]at this
 ·have:=h l.length r (by simp);simpa using this
theorem Written.low:∀(k:Nat) {l:List b9},l.length=k→Written l→(∀r∈l,r.At.No<((cnt l r.At.Depot:Nat):Int))∧∀(d:Int) (n:Nat),n≤cnt l d→low l d n=n
 |0,l,hk,_=>by
  obtain rfl:=List.length_eq_zero_iff.1 hk;exact⟨by simp,fun d n hn=>by rw[c5f]at hn;unfold Proofs.YtggdlgclohnbaaaGreatDoor.low;simp;omega⟩
 |k+1,l,hk,h=>by
  rcases List.eq_nil_or_concat l with rfl|⟨L,b,rfl⟩
  ·simp at hk
  ·rw[List.concat_eq_append]at h hk⊢;obtain⟨h1,h2,h3,h4⟩:=h.pre;obtain⟨f1,f2⟩:=Written.low k (by simpa using hk) h1
   refine⟨fun r hr=>?_,fun d n hn=>?_⟩
   ·rw[a5C];rcases E3.1 hr with hr|hr
    ·have:=f1 r hr;split<;>omega
    ·obtain rfl:=a1V.1 hr;rw[k9 rfl];omega
   ·rw[a5C]at hn;rw[c9c];by_cases a:b.At.Depot=d
    ·rw[k9 a]at hn;rw[a]at h4;rcases a4C (cnt L d) n with g|g
     ·obtain rfl:n=cnt L d+1:=by omega
      rw[k9 ⟨a,by omega⟩]
      have e:Proofs.YtggdlgclohnbaaaGreatDoor.low L d ((cnt L d+1:Nat):Int)=Proofs.YtggdlgclohnbaaaGreatDoor.low L d ((cnt L d:Nat):Int):=by
       unfold Proofs.YtggdlgclohnbaaaGreatDoor.low;apply List.countP_congr;intro x hx;have:=f1 x hx;simp only[D7,L9,R5];constructor
       ·rintro⟨a1,_⟩;rw[a1]at this;exact⟨a1,this⟩
       ·rintro⟨a1,a2⟩;exact⟨a1,by omega⟩
      rw[e,f2 d _ (y6 _)]
     ·rw[j6 (by omega),f2 d n g,a8h]
    ·rw[j6 a]at hn;rw[j6 (fun x=>a x.1),f2 d n (by omega),a8h]
theorem c1k{l:List b9}(h:Written l):b0C (A0 l):=by
 have hp:=a0v l;have hr:=b5p h.once;obtain⟨f1,f2⟩:=Written.low _ rfl h;refine⟨by rw[hp.length_eq];exact h.len,fun i r hi=>?_⟩;obtain⟨hlt,rfl⟩:=P3.1 hi;have hm:(A0 l)[i]∈l:=hp.mem_iff.1 (Y8 hlt);refine⟨h.rec hm,fun y hy=>?_,?_⟩
 ·have hj:0<i:=by
   rcases Nat.eq_zero_or_pos i with e|e
   ·subst e;simp at hy
   ·exact e
  rw[List.getLast?_eq_getElem?,Z5,a1Q (by omega),a5q,k9 (by omega)]at hy;obtain⟨_,rfl⟩:=P3.1 hy;exact b5f.1 hr (i-1) i (by omega) hlt (by omega)
 ·have hno:0≤(A0 l)[i].At.No:=(h.rec hm).1.2.1;have hl:=f1 _ hm;obtain⟨k,hk⟩:∃k:Nat,(A0 l)[i].At.No=(k:Int):=⟨(A0 l)[i].At.No.toNat,by omega⟩;have hlow:=f2 (A0 l)[i].At.Depot k (by omega);have e1:low (A0 l) (A0 l)[i].At.Depot k=low l (A0 l)[i].At.Depot k:=hp.countP_eq _
  have e2:low (A0 l) (A0 l)[i].At.Depot k=cnt ((A0 l).take i) (A0 l)[i].At.Depot:=by
   unfold low cnt
   have key:∀p:b9→Bool,(A0 l).countP p=((A0 l).take i).countP p+((A0 l).drop i).countP p:=fun p=>by
    rw[←List.countP_append,b0m]
   rw[key]
   have z:((A0 l).drop i).countP (fun r=>r.At.Depot==(A0 l)[i].At.Depot&&decide (r.At.No<(k:Int)))=0:=by
    rw[List.countP_eq_zero];intro x hx;obtain⟨j,hj,rfl⟩:=List.mem_drop_iff_getElem.1 hx;simp only[D7,L9,R5];rintro⟨a1,a2⟩;rcases Nat.eq_zero_or_pos j with e|e
    ·subst e;simp only[a8h]at a2;omega
    ·have:=b5f.1 hr i (i+j) hlt (by omega) (by omega);unfold Bef at this;omega
   rw[z,a8h];apply List.countP_congr;intro x hx;obtain⟨j,hj,rfl⟩:=List.mem_take_iff_getElem.1 hx;have:=b5f.1 hr j i (by omega) hlt (by omega);unfold Bef at this;simp only[D7,L9,R5];constructor
   ·exact fun a=>a.1
   ·exact fun a=>⟨a,by omega⟩
  rw[←e2,e1,hlow,hk]
theorem c9w{G:List b9}(h:a6t G){x y:b9}(hx:x∈G)(hy:y∈G)(e:x.At=y.At):x=y:=by
 obtain⟨i,hi,rfl⟩:=a8X hx;obtain⟨j,hj,rfl⟩:=a8X hy;have hp:=b5f.1 h;rcases b0A i j with g|g|g
 ·exact absurd e (hp i j hi hj g)
 ·subst g;rfl
 ·exact absurd e.symm (hp j i hj hi g)
theorem a1a(n:Int)(h0:0≤n)(h1:n≤100000):(O3 n).size≤6:=by
 obtain⟨u,rfl⟩:∃u:Nat,n=(u:Int):=⟨n.toNat,by omega⟩;unfold O3;rw[Z3,Lib.itoa_nonneg];exact c4T (by omega) (by omega)
theorem c6z{r:b9}(h:z8 r):1≤(R0 r).size∧(R0 r).size≤216:=by
 have hn:=a7r h;simp only[F4,u9,a8m,or_false,forall_eq_or_imp,forall_eq]at hn;obtain⟨n1,n2,n3,n4,n5,n6,n7⟩:=hn;have s1:=a1a r.At.Depot n1.1 n1.2;have s2:=a1a r.At.No n2.1 n2.2;have s3:=a1a r.Kind n3.1 n3.2;have s4:=a1a r.Day n4.1 n4.2;have s5:=a1a r.Known n5.1 n5.2;have s6:=a1a r.Of.Depot n6.1 n6.2;have s7:=a1a r.Of.No n7.1 n7.2;have hs:(⟨#[32]⟩:ByteArray).size=1:=rfl;have ht:=P5 h;rw[b9q];generalize O3 r.At.Depot=x1 at s1⊢;generalize O3 r.At.No=x2 at s2⊢;generalize O3 r.Kind=x3 at s3⊢;generalize O3 r.Day=x4 at s4⊢;generalize O3 r.Known=x5 at s5⊢;generalize O3 r.Of.Depot=x6 at s6⊢;generalize O3 r.Of.No=x7 at s7⊢;generalize r.Text=x8 at ht⊢;generalize (⟨#[32]⟩:ByteArray)=sp at hs⊢;simp only[b0E,hs];omega
theorem c2B(s:ByteArray)(i:Nat):(a9a s i).size=min s.size (24*(i+1))-24*i:=by
 unfold a9a;rw[ByteArray.size_extract];omega
theorem c3N{r:b9}(h:z8 r){k i:Nat}(hk:k≤59)(hi:i<N4 (R0 r).size):K6 (b1S (R0 r) (k:Int) i):=by
 obtain⟨h1,h2⟩:=c6z h;have hp:=c2B (R0 r) i;unfold K6 b1S;dsimp only;unfold N4 at hi⊢;omega
theorem c5p{c:d8}:∀(F:List b9) (k:Nat),c∈ofK (k:Int) F↔∃(j i:Nat) (r:b9),F[j]?=some r∧i<N4 (R0 r).size∧c=b1S (R0 r) ((k+j:Nat):Int) i
 |[],k=>by simp[ofK]
 |x::F,k=>by
  have e:((k:Int)+1)=((k+1:Nat):Int):=rfl;unfold ofK;rw[E3,e,c5p F (k+1)];constructor
  ·rintro(h|⟨j,i,r,h1,h2,h3⟩)
   ·unfold a2m at h;obtain⟨i,hi,rfl⟩:=L6.1 h;exact⟨0,i,x,rfl,a5U.1 hi,rfl⟩
   ·exact⟨j+1,i,r,by simpa using h1,h2,by rw[h3];congr 1;omega⟩
  ·rintro⟨j,i,r,h1,h2,h3⟩;cases j with
   |zero=>
    left;simp at h1;subst h1;unfold a2m;exact L6.2 ⟨i,a5U.2 h2,h3.symm⟩
   |succ j=>
    right;exact⟨j,i,r,by simpa using h1,h2,by rw[h3];congr 1;omega⟩
theorem c9T{c:d8}(F:List b9):c∈ofF F↔∃(j i:Nat) (r:b9),F[j]?=some r∧i<N4 (R0 r).size∧c=b1S (R0 r) (j:Int) i:=by
 have:=c5p (c:=c) F 0;unfold ofF;simpa using this
open Classical in theorem have_eq(b:n9)(w:List b9)(hb:(b.Thread.length+b.Loose.length)*48≤140737488355328)(hl:w.length≤9223372036854775800)(hs:∀r∈w,r.Text.size≤9223372036854775807):a0n b w=some (decide (Written w∧b.Thread++b.Loose=ofF w)):=by
 unfold a0n;rw[areWritten_eq w hl hs,j7];by_cases h:Written w
 ·have:=h.len;rw[k9 (by simp[h]),b1P b hb,j7,c8L w (fun r hr=>h.rec hr) (by omega),j7,c0z _ _ (by rw[O6];omega),j7];simp[h]
 ·rw[j6 (by simp[h])];simp[h]
theorem b7A(r:b9):∀(l:List b9) (s:Nat),(match V5 (fun(s:Nat) (x:b9)=>if r=x then(.inr s:Sum Nat Nat)else .inl (s+1)) l s with|.inl _=>decide (r∈l)=false|.inr _=>decide (r∈l)=true)
 |[],s=>by simp[V5]
 |x::l,s=>by
  unfold V5;by_cases h:r=x
  ·rw[k9 h];simp[h]
  ·rw[j6 h];have ih:=b7A r l (s+1);dsimp only;generalize V5 (fun(s:Nat) (x:b9)=>if r=x then(.inr s:Sum Nat Nat)else .inl (s+1)) l (s+1)=q at ih⊢
   cases q<;>simpa[h]using ih
theorem c2a(l:List b9)(hl:l.length≤1000000)(r:b9):y0 l r=some (decide (r∈l)):=by
 unfold y0 G3
 have key:=a0K (body:=s9 l r) l (by omega) (fun k (_:Nat)=>(k:Int)) (fun(s:Nat) (x:b9)=>if r=x then(.inr s:Sum Nat Nat)else .inl (s+1)) (fun s=>.inr (s:Int)) (fun s=>.inl (s:Int)) (fun pre s=>s=pre.length)
  (fun pre x post s hp hs=>by
   subst hp hs;unfold s9;rw[k9 (by simp only[R5];exact a8J),a4P,j7,b4z,W_s (by simp at hl;omega)];by_cases hb:r=x
   ·rw[k9 (by simp[hb]),k9 hb];exact⟨rfl,fun s' hs'=>by cases hs'⟩
   ·rw[j6 (by simp[hb]),j6 hb];exact⟨rfl,fun s' hs'=>by cases hs';simp⟩)
  (fun s hs=>by subst hs;unfold s9;rw[j6 (by simp)]) 0 rfl
 have k2:o8 (s9 l r) 0=_:=key;rw[k2,j7];have hr:=b7A r l 0;generalize V5 (fun(s:Nat) (x:b9)=>if r=x then(.inr s:Sum Nat Nat)else .inl (s+1)) l 0=q at hr⊢
 cases q with
 |inl _=>dsimp only at hr⊢;rw[hr];rfl
 |inr k=>
  dsimp only at hr⊢;rw[hr,j7];simp
theorem Written.take{l:List b9}(h:Written l)(n:Nat):Written (l.take n):=by
 intro i r hi;rw[a5q]at hi;split at hi
 ·rename_i hn;have:=h i r hi;rw[a9w,a1Q (by omega)];exact this
 ·cases hi
structure Bx(b:n9)(l:List b9)(n:Nat):Prop where
 w:Written l
 t:b.Thread=ofF (l.take n)
 a:b.Thread++b.Loose=ofF l
 f:n≤l.length
theorem b7V{w:List b9}(h:Written w){c:d8}(hc:c∈ofF w):K6 c:=by
 obtain⟨j,i,r,h1,h2,rfl⟩:=(c9T w).1 hc;have:=h.len;have:=(P3.1 h1).1;exact c3N (h.rec (b0f h1)) (by omega) h2
theorem Bx.len{b:n9}{w:List b9}{f:Nat}(h:Bx b w f):b.Thread.length+b.Loose.length≤1020:=by
 have h1:=b2h w 0 (fun r hr=>h.w.rec hr);have h2:=h.w.len;have h3:(b.Thread++b.Loose).length=(ofK 0 w).length:=Y7 List.length h.a;rw[O6]at h3;omega
theorem Bx.loose{b:n9}{w:List b9}{f:Nat}(h:Bx b w f){c:d8}(hc:c∈b.Loose):c∈ofF w:=by rw[←h.a];exact a6p _ hc
theorem Bx.sz{b:n9}{w:List b9}{f:Nat}(h:Bx b w f):c1g b:=⟨by have:=h.len;omega,by have:=h.len;omega,fun c hc=>by
 have:=b7V h.w (h.loose hc);have h1:=this.2.2.2.1;have h2:=this.2.2.2.2;omega⟩
theorem Bx.more{b:n9}{w:List b9}{f:Nat}(h:Bx b w f){x:b9}(hx:z8 x)(hn:P9 w x):Bx ⟨b.Thread,b.Loose++a2m (R0 x) (w.length:Int)⟩ (w++ [x]) f:=
 ⟨h.w.snoc hx hn,by rw[b1F h.f];exact h.t,by rw[←a3z,h.a,b1s],by have:=h.f;simp;omega⟩
theorem Bx.nil:Bx ⟨[],[]⟩ [] 0:=⟨Written.nil,by simp[ofF,ofK],by simp[ofF,ofK],y6 _⟩
theorem Written.item{w:List b9}(h:Written w){d:Int}{n:Nat}(hn:n<cnt w d):∃r∈w,r.At=⟨d,(n:Int)⟩:=by
 have hl:=(Written.low _ rfl h).2 d;have h1:=hl n (by omega);have h2:=hl (n+1) (by omega);refine b6S fun hno=>?_
 have:Go.Proofs.YtggdlgclohnbaaaGreatDoor.low w d ((n+1:Nat):Int)=Go.Proofs.YtggdlgclohnbaaaGreatDoor.low w d (n:Int):=by
  unfold Go.Proofs.YtggdlgclohnbaaaGreatDoor.low;refine List.countP_congr fun r hr=>?_
  simp only[D7,L9,R5];constructor
  ·rintro⟨h3,h4⟩;refine⟨h3,?_⟩;rcases(show r.At.No<(n:Int)∨(n:Int)≤r.At.No by omega)with h5|h5
   ·exact h5
   ·exfalso;refine hno ⟨r,hr,?_⟩;have e:r.At.No=(n:Int):=by omega
    obtain⟨⟨d',n'⟩,_⟩:=r;dsimp only at h3 e⊢;rw[h3,e]
  ·rintro⟨h3,h4⟩;exact⟨h3,by omega⟩
 omega
theorem c3X{w:List b9}(h:a6t w){r:b9}(hr:r∈w):fnd w r.At=some r:=by
 cases hf:fnd w r.At with
 |none=>exact absurd rfl (a8G hf r hr)
 |some v=>
  obtain⟨h1,h2⟩:=a7i hf;rw[c9w h h1 hr h2]
theorem c6N{w v:List b9}(h:a6t w)(p:v.Perm w)(t:o4):fnd v t=fnd w t:=by
 cases hf:fnd v t with
 |some x=>
  obtain⟨h1,h2⟩:=a7i hf;rw[←h2,c3X h (p.mem_iff.1 h1)]
 |none=>
  cases hg:fnd w t with
  |none=>rfl
  |some y=>
   obtain⟨h1,h2⟩:=a7i hg;exact absurd h2 (a8G hf y (p.mem_iff.2 h1))
theorem c8F{w v:List b9}(p:v.Perm w)(d:Int):cnt v d=cnt w d:=p.countP_eq _
theorem c4f{w v:List b9}(h:a6t w)(p:v.Perm w)(r:b9):a0S v r=a0S w r:=by
 unfold a0S;rw[c6N h p,c8F p,p.length_eq]
def a3R(w:List b9)(r:b9):Int:=if z8 r then(a0S w r).2 else 80
theorem c9z{w:List b9}(h:Written w){r:b9}(hr:r∈w):a3R w r=0:=by
 unfold a3R a0S;rw[k9 (h.rec hr),c3X h.once hr];simp
theorem b4Z{w:List b9}(h:Written w){r:b9}(hr:r∉w)(he:a3R w r=0):z8 r∧P9 w r∧a0S w r=(true,0):=by
 unfold a3R at he;split at he
 ·rename_i hk;unfold a0S at he⊢;cases hf:fnd w r.At with
  |some v=>
   rw[hf]at he;dsimp only at he;split at he
   ·rename_i hv;exact absurd (hv▸(a7i hf).1) hr
   ·cases he
  |none=>
   rw[hf]at he;dsimp only at he;split at he
   ·cases he
   ·rename_i h1;split at he
    ·cases he
    ·rename_i h2;refine⟨hk,⟨by have:=h.len;omega,?_⟩,?_⟩
     ·rcases(show r.At.No<((cnt w r.At.Depot:Nat):Int)∨((cnt w r.At.Depot:Nat):Int)≤r.At.No by omega)with h3|h3
      ·exfalso;have h0:0≤r.At.No:=hk.1.2.1;obtain⟨x,g1,g2⟩:=h.item (d:=r.At.Depot) (n:=r.At.No.toNat) (by omega);refine a8G hf x g1 ?_;rw[g2,b2K h0]
      ·omega
     ·dsimp only;rw[j6 h1,j6 h2]
 ·cases he
def Z7(b:n9)(w:List b9)(r:b9):n9×List b9×Int:=
 if r∈w then(b,w,0)else if a3R w r=0 then(⟨b.Thread,b.Loose++a2m (R0 r) (w.length:Int)⟩,w++ [r],0)else(⟨[],[]⟩,[],a3R w r)
def HB(b:n9)(w:List b9):Prop:=Written w∧b.Thread++b.Loose=ofF w
theorem HB.len{b:n9}{w:List b9}(h:HB b w):b.Thread.length+b.Loose.length≤1020:=by
 have h1:=b2h w 0 (fun r hr=>h.1.rec hr);have h2:=h.1.len;have h3:(b.Thread++b.Loose).length=(ofK 0 w).length:=Y7 List.length h.2;rw[O6]at h3;omega
theorem a8a(b:n9)(w:List b9)(r:b9)(h:Written w):(Z7 b w r).2.2=a3R w r:=by
 unfold Z7;split
 ·rename_i hm;exact(c9z h hm).symm
 ·split
  ·rename_i h1;exact h1.symm
  ·rfl
theorem c9O(l:List b9)(hl:b0C l)(r:b9)(hr:r.Text.size≤9223372036854775807):∃bk,a1e ⟨l⟩ r=some (bk,a3R l r):=by
 have x1:=hl.1;have hts:∀r∈l,r.Text.size≤9223372036854775807:=fun r hr=>by have:=P5 (hl.2.rec hr);omega
 have hd:∀r∈l,y8 r.At.Depot:=fun r hr=>hl.2.dep hr
 obtain⟨x,h1,h2,_⟩:=c8o ⟨l⟩ r (by dsimp only;omega) hts hr;refine⟨x.1,?_⟩;rw[h1];unfold a9E at h2;rw[Check_eq _ hts,j7,j6 (by simp[hl])]at h2;dsimp only at h2;rw[b9m l r (by omega) hd hr,j7]at h2;unfold a3R;by_cases hk:z8 r
 ·rw[k9 hk]at h2⊢;cases ha:a0S l r with
  |mk m e=>
   rw[ha]at h2;dsimp only at h2⊢;by_cases he:e=0
   ·subst he;rw[j6 (by decide)]at h2
    have hx:x.2=0:=by
     split at h2
     ·simp only[gd,j7]at h2;split at h2
      ·cases h2;rfl
      ·cases h2
     ·rw[c4d l r (by omega),j7]at h2;cases h2;rfl
    rw[←hx]
   ·rw[k9 (by simpa using he)]at h2
    cases h2;rfl
 ·rw[j6 hk]at h2⊢;rw[k9 (by decide)]at h2;cases h2;rfl
theorem b7C(b:n9)(w:List b9)(r:b9)(hw:Written w)(hb:b.Thread.length+b.Loose.length≤100000)(hr:r.Text.size≤9223372036854775807):Q2 b w r=some (Z7 b w r):=by
 have hwl:=hw.len;unfold Q2 D8 F3 m8 l3 Z7;rw[c2a _ (by omega),j7];by_cases hm:r∈w
 ·rw[k9 (by simp[hm]),k9 hm,q9 (by omega),q9 (by omega),q9 (by omega)];rfl
 ·rw[j6 (by simp[hm]),j6 hm,q9 (by omega),j7];obtain⟨bk,h1⟩:=c9O (A0 w) (c1k hw) r hr;have he:a3R (A0 w) r=a3R w r:=by unfold a3R;rw[c4f hw.once (a0v w)]
  rw[h1,j7,he];dsimp only;by_cases h0:a3R w r=0
  ·obtain⟨hk,hn,_⟩:=b4Z hw hm h0;have hcl:(a2m (R0 r) (w.length:Int)).length≤17:=by rw[a3U];exact a4f (a1X hk)
   rw[j6 (by simp[h0]),k9 h0,q9 (by omega),q9 (by omega)];simp only[j7];rw[a9B hk,j7,q9 (by omega),q9 (by omega),j7,q9 (by simp only[Y0,N0];omega)]
  ·rw[k9 (by simpa using h0),j6 h0]
theorem a9P{R α:Type}{body:Int→Option (Sum Int (Sum Int R))}(l:List α)(hl:l.length≤9223372036854775800)(q:α→Prop)(r0:R)
 (h:∀(i:Nat) (hi:i<l.length),(q l[i]∧body (i:Int)=some (.inl ((i+1:Nat):Int)))∨(¬q l[i]∧body (i:Int)=some (.inr (.inr r0)))) (he:body (l.length:Int)=some (.inr (.inl (l.length:Int)))):
 ((∀x∈l,q x)∧o8 body 0=some (.inl (l.length:Int)))∨(¬(∀x∈l,q x)∧o8 body 0=some (.inr r0)):=by
 letI:DecidablePred q:=fun _=>Classical.propDecidable _
 have key:=a9O l.length (by omega) (fun i=>match l[i]? with|some x=>if q x then none else some r0|none=>none) 0 (L0 _) (fun i _ h2=>by
  simp only[J7 h2];rcases h i h2 with⟨g1,g2⟩|⟨g1,g2⟩<;>simp[g1,g2]) he
 have key:o8 body 0=_:=key;rw[key];by_cases hall:∀x∈l,q x
 ·left;refine⟨hall,?_⟩
  rw[a7v _ _ (fun i _ h2=>by
   have hi:i<l.length:=by omega
   simp only[J7 hi,k9 (hall _ (Y8 hi))])]
  simp
 ·right;refine⟨hall,?_⟩
  have:∃i,∃hi:i<l.length,¬q l[i]:=by
   refine b6S fun hn=>hall fun x hx=>b6S fun hq=>?_
   obtain⟨i,hi,rfl⟩:=a8X hx;exact hn ⟨i,hi,hq⟩
  obtain⟨i,hi,hq⟩:=this;obtain⟨j,r,a,b,c,d⟩:=a6O (q:=fun i=>match l[i]? with|some x=>if q x then none else some r0|none=>none) (l.length-0) 0 i (L0 _) (by omega) (by simp[J7 hi,hq])
  rw[d];have hj:j<l.length:=by omega
  simp only[J7 hj]at c;split at c
  ·cases c
  ·cases c;rfl
instance (n : Int) : Decidable (y8 n) := inferInstanceAs (Decidable (_ ∧ _))
theorem a5D(n:Int):F7 n=some (decide (y8 n)):=by
 unfold F7 y8;rw[a5c];rfl
def H6(l:I6):Prop:=∀n∈a4v l,0≤n∧n≤60
instance (l : I6) : Decidable (H6 l) := inferInstanceAs (Decidable (∀ n ∈ a4v l, _))
theorem b2b(l:I6):X6 l=some (decide (H6 l)):=by
 have h:=b1w (a4v l) (by simp[a4v]) Z1 (fun n=> !decide (0≤n∧n≤60)) (fun x _=>by unfold Z1;rw[a5c];rfl);unfold X6;have h:B2 [l.1,l.2.1,l.2.2.1,l.2.2.2.1,l.2.2.2.2.1,l.2.2.2.2.2]=_:=h;rw[h,j7];congr 1;rw[a8I];simp only[a5J,R5,List.any_eq_false,b2W,Classical.not_not];rfl
theorem c1H(l:I6):(a4v l).length=6:=rfl
theorem b0h(l:I6):a0G l=some (decide (H6 l)):=by
 unfold a0G
 rcases a9P (body:=R4 l) (a4v l) (by rw[c1H];omega) (fun n=>0≤n∧n≤60) false (fun i hi=>by
  unfold R4;have hi6:i<6:=hi;have hx:idx [l.1,l.2.1,l.2.2.1,l.2.2.2.1,l.2.2.2.2.1,l.2.2.2.2.2] (i:Int)=some (a4v l)[i]:=L5 hi;rw[ifd (by omega),q9 (by omega),hx,j7,c1C,j7,W_s (by omega)];by_cases hq:0≤(a4v l)[i]∧(a4v l)[i]≤60
  ·rw[j6 (by simp[hq])];exact .inl ⟨hq,rfl⟩
  ·rw[k9 (by simp only[hq];decide)];exact .inr ⟨hq,rfl⟩) (by unfold R4;rw[c1H,j6 (by decide)])with⟨h1,h2⟩|⟨h1,h2⟩
 ·rw[h2,j7];have h:H6 l:=h1;simp[h]
 ·rw[h2,j7];have h:¬H6 l:=h1;simp[h]
abbrev I36:=I6×I6×I6×I6×I6×I6
def a5W(k:I36):List I6:=[k.1,k.2.1,k.2.2.1,k.2.2.2.1,k.2.2.2.2.1,k.2.2.2.2.2]
theorem a9J(l:I36):(a5W l).length=6:=rfl
def M7(d:e9):Prop:=y8 d.Me∧HB d.Box d.Written∧∀l∈a5W d.Known,H6 l
structure SzD(d:e9):Prop where
 b:d.Box.Thread.length+d.Box.Loose.length≤100000
 w:d.Written.length≤100000
 t:∀r∈d.Written,r.Text.size≤9223372036854775807
theorem M7.sz{d:e9}(h:M7 d):SzD d:=⟨by have:=h.2.1.len;omega,by have:=h.2.1.1.len;omega,fun r hr=>by have:=P5 (h.2.1.1.rec hr);omega⟩
open Classical in theorem isValid_eq(d:e9)(h:SzD d):P0 d=some (decide (M7 d)):=by
 have hb:=h.b;have hw:=h.w;unfold P0;unfold M7
 rcases a9P (body:=R3 d) (a5W d.Known) (by rw[a9J];omega) H6 false (fun i hi=>by
  unfold R3;have hi6:i<6:=hi;have hx:idx [d.Known.1,d.Known.2.1,d.Known.2.2.1,d.Known.2.2.2.1,d.Known.2.2.2.2.1,d.Known.2.2.2.2.2] (i:Int)=some (a5W d.Known)[i]:=L5 hi;rw[ifd (by omega),hx,j7,b2b,j7,W_s (by omega)];by_cases hq:H6 (a5W d.Known)[i]
  ·rw[j6 (by simp[hq])];exact .inl ⟨hq,rfl⟩
  ·rw[k9 (by simp[hq])];exact .inr ⟨hq,rfl⟩) (by unfold R3;rw[a9J,j6 (by decide)])with⟨hk,hz⟩|⟨hk,hz⟩
 ·rw[hz,j7];dsimp only;rw[a5D,j7,have_eq d.Box d.Written (by omega) (by omega) h.t];by_cases hm:y8 d.Me
  ·rw[k9 (by simp[hm]),j7];congr 1;rw[a8I];simp only[R5];exact⟨fun e=>⟨hm,e,hk⟩,fun e=>e.2.1⟩
  ·rw[j6 (by simp[hm])];simp[hm]
 ·rw[hz,j7];dsimp only;simp only[hk,and_false,a0U]
theorem b4Y(n:Int):K7 n 0 5=some (decide (y8 n)):=by rw[c1C];rfl
open Classical in theorem rCheckBox_eq(b:n9)(w:List b9)(hb:(b.Thread.length+b.Loose.length)*48≤140737488355328)(hl:w.length≤9223372036854775800)(hs:∀r∈w,r.Text.size≤9223372036854775807):a1q b w=some (if HB b w then 0 else 84):=by
 unfold a1q HB;rw[AreWritten_eq w hl hs,j7];by_cases h:Written w
 ·have:=h.len;rw[j6 (by simp[h]),c8e b hb,j7,c9d w (fun r hr=>h.rec hr) (by omega),j7,a7z _ _ (by rw[O6];omega),j7];by_cases hc:b.Thread++b.Loose=ofF w
  ·rw[j6 (by simp[hc]),k9 ⟨h,hc⟩]
  ·rw[k9 (by simp[hc]),j6 (fun e=>hc e.2)]
 ·rw[k9 (by simp[h]),j6 (fun e=>h e.1)]
open Classical in theorem CheckDepot_eq(d:e9)(h:SzD d):M8 d=some (if M7 d then 0 else 85):=by
 have hb:=h.b;have hw:=h.w;unfold M8;rw[b4Y,j7];by_cases hm:y8 d.Me
 ·rw[j6 (by simp[hm]),rCheckBox_eq d.Box d.Written (by omega) (by omega) h.t,j7];by_cases hh:HB d.Box d.Written
  ·rw[k9 hh,j6 (by decide)]
   rcases a9P (body:=P4 d) (a5W d.Known) (by rw[a9J];omega) H6 85 (fun i hi=>by
    unfold P4;have hi6:i<6:=hi;have hx:idx [d.Known.1,d.Known.2.1,d.Known.2.2.1,d.Known.2.2.2.1,d.Known.2.2.2.2.1,d.Known.2.2.2.2.2] (i:Int)=some (a5W d.Known)[i]:=L5 hi;rw[ifd (by omega),q9 (by omega),hx,j7,b0h,j7,W_s (by omega)];by_cases hq:H6 (a5W d.Known)[i]
    ·rw[j6 (by simp[hq])];exact .inl ⟨hq,rfl⟩
    ·rw[k9 (by simp[hq])];exact .inr ⟨hq,rfl⟩) (by unfold P4;rw[a9J,j6 (by decide)])with⟨hk,hz⟩|⟨hk,hz⟩
   ·rw[hz,j7,k9 ⟨hm,hh,hk⟩]
   ·rw[hz,j7,j6 (fun e=>hk e.2.2)]
  ·rw[j6 hh,k9 (by decide),j6 (fun e=>hh e.2.1)]
 ·rw[k9 (by simp[hm]),j6 (fun e=>hm e.1)]
def b4e(m:c8):Prop:=y8 m.From∧y8 m.To∧m.From≠m.To∧H6 m.Have∧m.Records.length≤6∧∀r∈m.Records,z8 r
def SzM(m:c8):Prop:=∀r∈m.Records,r.Text.size≤9223372036854775807
theorem b4e.sz{m:c8}(h:b4e m):SzM m:=fun r hr=>by have:=P5 (h.2.2.2.2.2 r hr);omega
open Classical in theorem isMessage_eq(m:c8)(h:SzM m):a0V m=some (decide (b4e m)):=by
 unfold a0V b4e;rw[a5D,j7];by_cases h1:y8 m.From
 ·rw[k9 (by simp[h1]),a5D,j7];by_cases h2:y8 m.To
  ·rw[k9 (by simp[h2])];by_cases h3:m.From=m.To
   ·rw[j6 (by simp[h3])];simp[h3]
   ·rw[k9 (by simpa using h3),b2b,j7]
    by_cases h4:H6 m.Have
    ·rw[k9 (by simp[h4])];by_cases h5:m.Records.length≤6
     ·have hc:=b1w m.Records (by omega) Z4 (fun r=> !decide (z8 r)) (fun x hx=>by unfold Z4;rw[V4 x (h x hx)];rfl);have hc:w6 m.Records=_:=hc;rw[ifd (by omega),hc,j7];congr 1;rw[a8I];simp only[a5J,List.any_eq_false,b2W,Classical.not_not,R5,h1,h2,h3,h4,h5,ne_eq,not_false_eq_true,U2]
     ·rw[ifn (by omega)];simp[h5]
    ·rw[j6 (by simp[h4])];simp[h4]
  ·rw[j6 (by simp[h2])];simp[h2]
 ·rw[j6 (by simp[h1])];simp[h1]
open Classical in theorem CheckMessage_eq(m:c8)(h:SzM m):a0y m=some (if b4e m then 0 else 86):=by
 unfold a0y;rw[b4Y,j7];by_cases h1:y8 m.From
 ·rw[j6 (by simp[h1]),b4Y,j7];by_cases h2:y8 m.To
  ·rw[j6 (by simp[h2])];by_cases h3:m.From=m.To
   ·rw[k9 (by simp[h3]),j6 (fun e=>e.2.2.1 h3)]
   ·rw[j6 (by simpa using h3),b0h,j7]
    by_cases h4:H6 m.Have
    ·rw[j6 (by simp[h4])];by_cases h5:m.Records.length≤6
     ·rw[ifn (by omega)]
      rcases a9P (body:=M2 m) m.Records (by omega) z8 86 (fun i hi=>by
       unfold M2;rw[ifd (by omega),L5 hi,j7,a0e _ (h _ (Y8 hi)),j7,W_s (by omega)];by_cases hq:z8 m.Records[i]
       ·rw[k9 hq,j6 (by decide)];exact .inl ⟨hq,rfl⟩
       ·rw[j6 hq,k9 (by decide)];exact .inr ⟨hq,rfl⟩) (by unfold M2;rw[j6 (by simp)])with⟨hk,hz⟩|⟨hk,hz⟩
      ·rw[hz,j7,k9 ⟨h1,h2,h3,h4,h5,hk⟩]
      ·rw[hz,j7,j6 (fun e=>hk e.2.2.2.2.2)]
     ·rw[ifd (by omega),j6 (fun e=>h5 e.2.2.2.2.1)]
    ·rw[k9 (by simp[h4]),j6 (fun e=>h4 e.2.2.2.1)]
  ·rw[k9 (by simp[h2]),j6 (fun e=>h2 e.2.1)]
 ·rw[k9 (by simp[h1]),j6 (fun e=>h1 e.1)]
theorem a6t.filter{w:List b9}(h:a6t w)(p:b9→Bool):a6t (w.filter p):=List.Pairwise.filter p h
def K8(v:List b9)(h:Int→Int):List b9:=(A0 v).filter fun r=> !(decide (r.At.No<h r.At.Depot))
theorem c4e{v:List b9}{h:Int→Int}{r:b9}:r∈K8 v h↔r∈v∧h r.At.Depot≤r.At.No:=by
 unfold K8;rw[a9b,(a0v v).mem_iff];simp
theorem c8l{w:List b9}(h:Written w){r:b9}(hr:r∈w):a0S w r=(false,0):=by
 unfold a0S;rw[c3X h.once hr];simp
theorem d0t(w:List b9)(r:b9):(if z8 r then a0S w r else(false,80)).2=a3R w r:=by unfold a3R;split<;>rfl
theorem b9h{α:Type}(l:List α):([]:List α)++l=l:=rfl
open Classical in theorem rWrite_eq(b:n9)(w:List b9)(r:b9)(hb:(b.Thread.length+b.Loose.length)*48≤140737488355328)(hl:w.length≤9223372036854775800)(hs:∀r∈w,r.Text.size≤9223372036854775807)(hr:r.Text.size≤9223372036854775807):
 a4u b w r=some (if HB b w then Z7 b w r else(⟨[],[]⟩,[],84)):=by
 unfold a4u Y3;rw[rCheckBox_eq b w (by omega) (by omega) hs,j7];by_cases h:HB b w
 ·have hw:=h.1;have hwl:=hw.len;have hbl:=h.len;rw[k9 h,k9 h,j6 (by decide),b9m w r (by omega) (fun r hr=>hw.dep hr) hr,j7];have he:=d0t w r;unfold Z7;by_cases hm:r∈w
  ·rw[k9 (hw.rec hm),c8l hw hm,k9 hm];dsimp only;rw[j6 (by decide),q9 (by simp only[N0];omega),q9 (by simp only[N0];omega),j7,q9 (by simp only[N0];omega),j6 (by decide)];rfl
  ·rw[j6 hm];by_cases h0:a3R w r=0
   ·obtain⟨hk,hn,ha⟩:=b4Z hw hm h0;have hcl:(a2m (R0 r) (w.length:Int)).length≤17:=by rw[a3U];exact a4f (a1X hk)
    rw[k9 hk,ha,k9 h0];dsimp only;rw[j6 (by decide),q9 (by simp only[N0];omega),q9 (by simp only[N0];omega),j7,q9 (by simp only[N0];omega),k9 rfl];dsimp only;simp only[b9h];rw[b8d hk,j7,q9 (by omega),q9 (by simp only[Y0,N0];omega)]
   ·rw[j6 h0];generalize (if z8 r then a0S w r else(false,80))=z at he⊢
    obtain⟨m,e⟩:=z;dsimp only at he⊢;subst he;rw[k9 (by simpa using h0)]
 ·rw[j6 h,j6 h,k9 (by decide)]
abbrev zT:I36:=((0,0,0,0,0,0),(0,0,0,0,0,0),(0,0,0,0,0,0),(0,0,0,0,0,0),(0,0,0,0,0,0),(0,0,0,0,0,0))
abbrev zD:e9:=⟨0,⟨[],[]⟩,[],zT⟩
abbrev zM:c8:=⟨0,0,(0,0,0,0,0,0),[]⟩
theorem c1O(me:Int):a1C me=some (if y8 me then(⟨me,⟨[],[]⟩,[],zT⟩,0)else(zD,1)):=by
 unfold a1C;rw[a5D,j7];by_cases h:y8 me
 ·rw[j6 (by simp[h]),k9 h]
 ·rw[k9 (by simp[h]),j6 h]
theorem b9W(me:Int):a0Z me=some (if y8 me then(⟨me,⟨[],[]⟩,[],zT⟩,0)else(zD,1)):=by
 unfold a0Z;rw[b4Y,j7];by_cases h:y8 me
 ·rw[j6 (by simp[h]),k9 h]
 ·rw[k9 (by simp[h]),j6 h]
def a4J(d:e9)(r:b9):b9:=⟨⟨d.Me,((cnt d.Written d.Me:Nat):Int)⟩,r.Kind,r.Day,r.Known,r.Of,r.Text⟩
open Classical in noncomputable def noteS(d:e9)(r:b9):e9×b9×Int:=
 if M7 d then
  if a3R d.Written (a4J d r)=0 then(⟨d.Me,(Z7 d.Box d.Written (a4J d r)).1,(Z7 d.Box d.Written (a4J d r)).2.1,d.Known⟩,a4J d r,0)
  else(zD,zR,a3R d.Written (a4J d r))
 else(zD,zR,85)
theorem a6Q(l:List b9){d:Int}(h:y8 d):idx [(a0h l).1,(a0h l).2.1,(a0h l).2.2.1,(a0h l).2.2.2.1,(a0h l).2.2.2.2.1,(a0h l).2.2.2.2.2] d=some ((cnt l d:Nat):Int):=a6n l h
theorem c7V(d:e9)(r:b9)(h:SzD d)(hr:r.Text.size≤9223372036854775807):a4U d r=some (noteS d r):=by
 have hb:=h.b;have hwl:=h.w;unfold a4U noteS;rw[isValid_eq d h,j7];by_cases hv:M7 d
 ·obtain⟨h1,h2,h3⟩:=id hv;have hw:=h2.1;rw[j6 (by simp[hv]),k9 hv];unfold W7 F3 m8 l3;rw[q9 (by omega),q9 (by omega),q9 (by omega)];simp only[j7];rw[a7W _ (by omega) (fun r hr=>hw.dep hr),j7,a6Q _ h1,j7];unfold a3B;have hwr:Q2 ⟨d.Box.Thread,d.Box.Loose⟩ d.Written (a4J d r)=some (Z7 d.Box d.Written (a4J d r)):=b7C d.Box d.Written (a4J d r) hw hb hr;unfold a4J at hwr⊢;rw[hwr,j7];have he:=a8a d.Box d.Written (a4J d r) hw;unfold a4J at he;generalize hz:Z7 d.Box d.Written ⟨⟨d.Me,((cnt d.Written d.Me:Nat):Int)⟩,r.Kind,r.Day,r.Known,r.Of,r.Text⟩=z at he⊢;obtain⟨b',w',e⟩:=z;dsimp only at he⊢;subst he;by_cases h0:a3R d.Written ⟨⟨d.Me,((cnt d.Written d.Me:Nat):Int)⟩,r.Kind,r.Day,r.Known,r.Of,r.Text⟩=0
  ·rw[k9 (by simpa using h0),k9 h0,j7]
   dsimp only;rw[j6 (by simpa using h0)]
  ·rw[j6 (by simpa using h0),j6 h0,j7]
   dsimp only;rw[k9 (by simpa using h0)];rfl
 ·rw[k9 (by simp[hv]),j6 hv];rfl
theorem c0s(d:e9)(r:b9)(h:SzD d)(hr:r.Text.size≤9223372036854775807):a5x d r=some (noteS d r):=by
 have hb:=h.b;have hwl:=h.w;unfold a5x noteS;rw[CheckDepot_eq d h,j7];by_cases hv:M7 d
 ·obtain⟨h1,h2,h3⟩:=id hv;have hw:=h2.1;rw[k9 hv,k9 hv,j6 (by decide)];rw[a8e _ (by omega) (fun r hr=>hw.dep hr),j7,a6Q _ h1,j7];have hwr:=rWrite_eq d.Box d.Written (a4J d r) (by omega) (by omega) h.t hr;rw[k9 h2]at hwr;unfold a4J at hwr⊢;rw[hwr,j7];have he:=a8a d.Box d.Written (a4J d r) hw;unfold a4J at he;generalize hz:Z7 d.Box d.Written ⟨⟨d.Me,((cnt d.Written d.Me:Nat):Int)⟩,r.Kind,r.Day,r.Known,r.Of,r.Text⟩=z at he⊢;obtain⟨b',w',e⟩:=z;dsimp only at he⊢;subst he;by_cases h0:a3R d.Written ⟨⟨d.Me,((cnt d.Written d.Me:Nat):Int)⟩,r.Kind,r.Day,r.Known,r.Of,r.Text⟩=0
  ·rw[j6 (by simpa using h0),k9 h0]
  ·rw[k9 (by simpa using h0),j6 h0];rfl
 ·rw[j6 hv,j6 hv,k9 (by decide)];rfl
open Classical in noncomputable def tellS(d:e9)(to:Int):e9×c8×Int:=
 if M7 d then
  if y8 to∧to≠d.Me then(⟨d.Me,⟨d.Box.Thread++d.Box.Loose,[]⟩,d.Written,d.Known⟩,⟨d.Me,to,a0h d.Written,[]⟩,0)else(zD,zM,1)
 else(zD,zM,85)
theorem c4o(b:n9)(hb:(b.Thread.length+b.Loose.length)*48≤140737488355328):X5 b=some ⟨b.Thread++b.Loose,[]⟩:=by
 unfold X5;rw[b1P b (by omega)];rfl
theorem c0w(b:n9)(hb:(b.Thread.length+b.Loose.length)*48≤140737488355328):a5N b=some ⟨b.Thread++b.Loose,[]⟩:=by
 unfold a5N;rw[c8e b (by omega)];rfl
theorem c9g(d:e9)(to:Int)(h:SzD d):a4T d to=some (tellS d to):=by
 have hb:=h.b;have hwl:=h.w;unfold a4T tellS;rw[isValid_eq d h,j7];by_cases hv:M7 d
 ·have hw:=hv.2.1.1;rw[j6 (by simp[hv]),k9 hv,a5D,j7];by_cases h1:y8 to
  ·rw[j6 (by simp[h1])];by_cases h2:to=d.Me
   ·rw[k9 (by simp[h2]),j6 (fun e=>e.2 h2)]
   ·rw[j6 (by simpa using h2),k9 ⟨h1,h2⟩]
    unfold W7 F3 m8 l3 a3q K5;rw[q9 (by omega),q9 (by omega),q9 (by omega)];simp only[j7];rw[c4o ⟨d.Box.Thread,d.Box.Loose⟩ (by dsimp only;omega)];simp only[j7];rw[a7W _ (by omega) (fun r hr=>hw.dep hr)];rfl
  ·rw[k9 (by simp[h1]),j6 (fun e=>h1 e.1)]
 ·rw[k9 (by simp[hv]),j6 hv]
theorem c1M(d:e9)(to:Int)(h:SzD d):a3E d to=some (tellS d to):=by
 have hb:=h.b;have hwl:=h.w;unfold a3E tellS;rw[CheckDepot_eq d h,j7];by_cases hv:M7 d
 ·have hw:=hv.2.1.1;rw[k9 hv,k9 hv,j6 (by decide),b4Y,j7];by_cases h1:y8 to
  ·rw[j6 (by simp[h1])];by_cases h2:to=d.Me
   ·rw[k9 (by simp[h2]),j6 (fun e=>e.2 h2)]
   ·rw[j6 (by simpa using h2),k9 ⟨h1,h2⟩]
    unfold a0E Y3;rw[q9 (by simp only[N0];omega),q9 (by simp only[N0];omega),j7,q9 (by simp only[N0];omega),j7,c0w d.Box (by omega),j7,a8e _ (by omega) (fun r hr=>hw.dep hr)];rfl
  ·rw[k9 (by simp[h1]),j6 (fun e=>h1 e.1)]
 ·rw[j6 hv,j6 hv,k9 (by decide)]
open Classical in noncomputable def restS(d:e9)(picks:List Int):e9×Int:=
 if M7 d then(⟨d.Me,⟨ofF (a7x ((a9c d.Box picks).Thread++(a9c d.Box picks).Loose)),[]⟩,a7x ((a9c d.Box picks).Thread++(a9c d.Box picks).Loose),zT⟩,0)else(zD,85)
theorem HB.loose{b:n9}{w:List b9}(h:HB b w){c:d8}(hc:c∈b.Loose):K6 c:=b7V h.1 (by rw[←h.2];exact a6p _ hc)
theorem HB.sz{b:n9}{w:List b9}(h:HB b w):c1g b:=⟨by have:=h.len;omega,by have:=h.len;omega,fun c hc=>by
 have:=h.loose hc;have h1:=this.2.2.2.1;have h2:=this.2.2.2.2;omega⟩
theorem HB.fallen{b:n9}{w:List b9}(h:HB b w)(picks:List Int):((a9c b picks).Thread.length+(a9c b picks).Loose.length)*48≤140737488355328:=by
 have hl:=a6W picks b.Loose 0 [];have:=h.len;simp only[N0]at hl;show(b.Thread.length+(a4k picks 0 [] b.Loose).length)*48≤_;omega
theorem c1I(d:e9)(picks:List Int)(h:SzD d)(hp:b0c picks)(hpl:picks.length≤9223372036854775800):a2j d picks=some (restS d picks):=by
 unfold a2j restS;rw[isValid_eq d h,j7];by_cases hv:M7 d
 ·rw[j6 (by simp[hv]),k9 hv,a6V _ picks hv.2.1.sz hp hpl,j7,a7p _ (hv.2.1.fallen picks),j7]
 ·rw[k9 (by simp[hv]),j6 hv]
theorem b3Z(d:e9)(picks:List Int)(h:SzD d)(hp:b0c picks)(hpl:picks.length≤9223372036854775800):a1W d picks=some (restS d picks):=by
 unfold a1W restS;rw[CheckDepot_eq d h,j7];by_cases hv:M7 d
 ·rw[k9 hv,k9 hv,j6 (by decide),c1p _ picks hv.2.1.sz hp hpl,j7,c8Q _ (hv.2.1.fallen picks),j7]
 ·rw[j6 hv,j6 hv,k9 (by decide)]
theorem b2y{b:n9}{w:List b9}{r:b9}(h:HB b w)(he:a3R w r=0):HB (Z7 b w r).1 (Z7 b w r).2.1:=by
 unfold Z7;split
 ·exact h
 ·rename_i hm;obtain⟨h1,h2,_⟩:=b4Z h.1 hm he;exact⟨h.1.snoc h1 h2,by dsimp only;rw[←a3z,h.2,b1s]⟩
theorem c4k(b:n9)(w:List b9)(r:b9)(he:a3R w r=0):w.length≤(Z7 b w r).2.1.length:=by
 unfold Z7;split
 ·exact y6 _
 ·simp
def a3i(s:n9×List b9)(r:b9):Sum (n9×List b9) Int:=
 if((cnt s.2 r.At.Depot:Nat):Int)<r.At.No then .inl s else if a3R s.2 r=0 then .inl ((Z7 s.1 s.2 r).1,(Z7 s.1 s.2 r).2.1)else .inr (a3R s.2 r)
theorem b5j{s s':n9×List b9}{r:b9}{n:Nat}(h:HB s.1 s.2∧n≤s.2.length)(he:a3i s r=.inl s'):HB s'.1 s'.2∧n≤s'.2.length:=by
 unfold a3i at he;split at he
 ·cases he;exact h
 ·split at he
  ·rename_i h0;cases he;exact⟨b2y h.1 h0,z6 h.2 (c4k _ _ _ h0)⟩
  ·cases he
theorem c2Q(d:e9)(m:c8)(hd:HB d.Box d.Written)(hm:b4e m):(∀s,V5 a3i m.Records (d.Box,d.Written)=.inl s→o8 (I7 m) (0,⟨⟨d.Me,d.Box,d.Written,d.Known⟩⟩)=some (.inl ((m.Records.length:Int),⟨⟨d.Me,s.1,s.2,d.Known⟩⟩)))∧
 ∀e,V5 a3i m.Records (d.Box,d.Written)=.inr e→o8 (I7 m) (0,⟨⟨d.Me,d.Box,d.Written,d.Known⟩⟩)=some (.inr (zD,[],e)):=by
 have h6:=hm.2.2.2.2.1
 have key:=a0K (body:=I7 m) m.Records (by omega) (fun k (s:n9×List b9)=>((k:Int),(⟨⟨d.Me,s.1,s.2,d.Known⟩⟩:B8))) a3i (fun e=>.inr (zD,[],e)) (fun s=>.inl ((m.Records.length:Int),⟨⟨d.Me,s.1,s.2,d.Known⟩⟩)) (fun _ s=>HB s.1 s.2∧d.Written.length≤s.2.length)
  (fun pre x post s hp hs=>by
   have hx:z8 x:=hm.2.2.2.2.2 x (hp▸a6p _ C7);have hw:=hs.1.1;have hwl:=hw.len;have hbl:=hs.1.len;have hlen:m.Records.length=pre.length+1+post.length:=by rw[hp];simp;omega
   refine⟨?_,fun s' hs'=>b5j hs hs'⟩;unfold I7;dsimp only;rw[hp,k9 (by simp only[R5];exact a8J),a4P,j7,a7W _ (by omega) (fun r hr=>hw.dep hr),j7,a6Q _ (a1D hx),j7,W_s (by omega)];unfold a3i;by_cases h1:((cnt s.2 x.At.Depot:Nat):Int)<x.At.No
   ·rw[k9 (by simpa using h1),k9 h1]
   ·rw[j6 (by simpa using h1),j6 h1]
    unfold a2S;dsimp only;rw[b7C s.1 s.2 x hw (by omega) (by have:=P5 hx;omega),j7];have he:=a8a s.1 s.2 x hw;generalize Z7 s.1 s.2 x=z at he⊢;obtain⟨b',w',e⟩:=z;dsimp only at he⊢;subst he;by_cases h0:a3R s.2 x=0
    ·rw[k9 (by simpa using h0),k9 h0,j7]
     dsimp only;rw[j6 (by simpa using h0)]
    ·rw[j6 (by simpa using h0),j6 h0,j7]
     dsimp only;rw[k9 (by simpa using h0)])
  (fun s hs=>by unfold I7;dsimp only;rw[j6 (by simp)]) (d.Box,d.Written) ⟨hd,y6 _⟩
 refine⟨fun s hs=>?_,fun e he=>?_⟩
 ·rw[hs]at key;exact key
 ·rw[he]at key;exact key
theorem c4c(d:e9)(m:c8)(hd:HB d.Box d.Written)(hm:b4e m):(∀s,V5 a3i m.Records (d.Box,d.Written)=.inl s→o8 (M6 m) (0,⟨d.Me,d.Box,d.Written,d.Known⟩)=some (.inl ((m.Records.length:Int),⟨d.Me,s.1,s.2,d.Known⟩)))∧
 ∀e,V5 a3i m.Records (d.Box,d.Written)=.inr e→o8 (M6 m) (0,⟨d.Me,d.Box,d.Written,d.Known⟩)=some (.inr (zD,[],e)):=by
 have h6:=hm.2.2.2.2.1
 have key:=a0K (body:=M6 m) m.Records (by omega) (fun k (s:n9×List b9)=>((k:Int),(⟨d.Me,s.1,s.2,d.Known⟩:e9))) a3i (fun e=>.inr (zD,[],e)) (fun s=>.inl ((m.Records.length:Int),⟨d.Me,s.1,s.2,d.Known⟩)) (fun _ s=>HB s.1 s.2∧d.Written.length≤s.2.length)
  (fun pre x post s hp hs=>by
   have hx:z8 x:=hm.2.2.2.2.2 x (hp▸a6p _ C7);have hw:=hs.1.1;have hwl:=hw.len;have hbl:=hs.1.len;have hlen:m.Records.length=pre.length+1+post.length:=by rw[hp];simp;omega
   refine⟨?_,fun s' hs'=>b5j hs hs'⟩;unfold M6;dsimp only;rw[hp,k9 (by simp only[R5];exact a8J),a4P,j7,a8e _ (by omega) (fun r hr=>hw.dep hr),j7,a6Q _ (a1D hx),j7,W_s (by omega)];unfold a3i;by_cases h1:((cnt s.2 x.At.Depot:Nat):Int)<x.At.No
   ·rw[k9 (by simpa using h1),k9 h1]
   ·rw[j6 (by simpa using h1),j6 h1]
    rw[rWrite_eq s.1 s.2 x (by omega) (by omega) (fun r hr=>by have:=P5 (hw.rec hr);omega) (by have:=P5 hx;omega),j7,k9 hs.1];have he:=a8a s.1 s.2 x hw;generalize Z7 s.1 s.2 x=z at he⊢;obtain⟨b',w',e⟩:=z;dsimp only at he⊢;subst he;by_cases h0:a3R s.2 x=0
    ·rw[j6 (by simpa using h0),k9 h0]
    ·rw[k9 (by simpa using h0),j6 h0])
  (fun s hs=>by unfold M6;dsimp only;rw[j6 (by simp)]) (d.Box,d.Written) ⟨hd,y6 _⟩
 refine⟨fun s hs=>?_,fun e he=>?_⟩
 ·rw[hs]at key;exact key
 ·rw[he]at key;exact key
theorem b4Q(m:c8):∀(l:List b9) (s:n9×List b9) {n:Nat}{t:n9×List b9},HB s.1 s.2∧n≤s.2.length→V5 a3i l s=.inl t→HB t.1 t.2∧n≤t.2.length
 |[],s,n,t,h,he=>by unfold V5 at he;cases he;exact h
 |x::l,s,n,t,h,he=>by
  unfold V5 at he;cases hx:a3i s x with
  |inl s'=>rw[hx]at he;exact b4Q m l s' (b5j h hx) he
  |inr e=>rw[hx]at he;cases he
def a0z(r:I6)(i:Int):Int:=(idx (a4v r) i).getD 0
def b3d(K:I36)(f:Int):I6:=(idx (a5W K) f).getD (0,0,0,0,0,0)
def d2s(r:I6)(i y:Int):I6:=(if(i==0)=true then y else r.1,if(i==1)=true then y else r.2.1,if(i==2)=true then y else r.2.2.1,if(i==3)=true then y else r.2.2.2.1,if(i==4)=true then y else r.2.2.2.2.1,if(i==5)=true then y else r.2.2.2.2.2)
def d3d(K:I36)(f:Int)(y:I6):I36:=(if(f==0)=true then y else K.1,if(f==1)=true then y else K.2.1,if(f==2)=true then y else K.2.2.1,if(f==3)=true then y else K.2.2.2.1,if(f==4)=true then y else K.2.2.2.2.1,if(f==5)=true then y else K.2.2.2.2.2)
theorem c2W(r:I6){i:Int}(h:y8 i):idx (a4v r) i=some (a0z r i):=by
 rcases a2y h with rfl|rfl|rfl|rfl|rfl|rfl<;>rfl
theorem c8X(K:I36){i:Int}(h:y8 i):idx (a5W K) i=some (b3d K i):=by
 rcases a2y h with rfl|rfl|rfl|rfl|rfl|rfl<;>rfl
theorem c1n{α:Type}(i k:Int)(a b:α):(if(i==k)=true then a else b)=if k=i then a else b:=by
 by_cases h:i=k
 ·subst h;simp
 ·rw[j6 (by simpa using h),j6 (fun e=>h e.symm)]
theorem c8H(r:I6)(i y:Int){k:Int}(hk:y8 k):a0z (d2s r i y) k=if k=i then y else a0z r k:=by
 rcases a2y hk with rfl|rfl|rfl|rfl|rfl|rfl<;>exact c1n i _ y _
theorem c8j(K:I36)(f:Int)(y:I6){k:Int}(hk:y8 k):b3d (d3d K f y) k=if k=f then y else b3d K k:=by
 rcases a2y hk with rfl|rfl|rfl|rfl|rfl|rfl<;>exact c1n f _ y _
theorem c0b(l:List b9){d:Int}(h:y8 d):a0z (a0h l) d=((cnt l d:Nat):Int):=by unfold a0z;rw[a6n l h];rfl
theorem a5y{l:I6}:H6 l↔∀x,y8 x→0≤a0z l x∧a0z l x≤60:=by
 constructor
 ·intro h x hx;exact h _ (by rcases a2y hx with rfl|rfl|rfl|rfl|rfl|rfl<;>(unfold a0z a4v;simp[idx]))
 ·intro h n hn;simp only[a4v,u9,a8m,or_false]at hn;rcases hn with rfl|rfl|rfl|rfl|rfl|rfl
  ·exact h 0 (by decide)
  ·exact h 1 (by decide)
  ·exact h 2 (by decide)
  ·exact h 3 (by decide)
  ·exact h 4 (by decide)
  ·exact h 5 (by decide)
theorem b3B{K:I36}:(∀l∈a5W K,H6 l)↔∀k,y8 k→H6 (b3d K k):=by
 constructor
 ·intro h x hx;exact h _ (by rcases a2y hx with rfl|rfl|rfl|rfl|rfl|rfl<;>(unfold b3d a5W;simp[idx]))
 ·intro h n hn;simp only[a5W,u9,a8m,or_false]at hn;rcases hn with rfl|rfl|rfl|rfl|rfl|rfl
  ·exact h 0 (by decide)
  ·exact h 1 (by decide)
  ·exact h 2 (by decide)
  ·exact h 3 (by decide)
  ·exact h 4 (by decide)
  ·exact h 5 (by decide)
def kn1(m:c8)(K:I36)(i:Nat):I36:=d3d K m.From (d2s (b3d K m.From) (i:Int) (if a0z m.Have (i:Int)>a0z (b3d K m.From) (i:Int)then a0z m.Have (i:Int)else a0z (b3d K m.From) (i:Int)))
def knK(m:c8)(K:I36)(k:Nat):I36:=(List.range k).foldl (kn1 m) K
def moK(a:Bool)(h c:I6)(k:Nat):Bool:=(List.range k).foldl (fun(a:Bool) (i:Nat)=>a||decide (a0z h (i:Int)>a0z c (i:Int))) a
theorem c7h(m:c8)(K:I36)(k:Nat):knK m K (k+1)=kn1 m (knK m K k) k:=by unfold knK;rw[List.range_succ,List.foldl_append];rfl
theorem c4G(a:Bool)(h c:I6)(k:Nat):moK a h c (k+1)=(moK a h c k||decide (a0z h (k:Int)>a0z c (k:Int))):=by unfold moK;rw[List.range_succ,List.foldl_append];rfl
theorem c8N(a:Bool)(h c:I6):∀k,moK a h c k=(a||moK false h c k)
 |0=>by simp[moK]
 |k+1=>by rw[c4G,c4G,c8N a h c k,Bool.or_assoc]
theorem c2b(m:c8)(hf:y8 m.From)(me:Int)(b:n9)(w:List b9)(K:I36)(hw:Written w):o8 (M5 m) (false,0,⟨⟨me,b,w,K⟩⟩)=some (moK false m.Have (a0h w) 6,6,⟨⟨me,b,w,knK m K 6⟩⟩):=by
 have hwl:=hw.len
 exact W5 (body:=M5 m) (fun k=>(moK false m.Have (a0h w) k,(k:Int),(⟨⟨me,b,w,knK m K k⟩⟩:B8))) 6 (by omega) (moK false m.Have (a0h w) 6,6,⟨⟨me,b,w,knK m K 6⟩⟩) (fun k hk=>by
  have hk':y8 (k:Int):=by unfold y8;omega
  have hf':=hf;unfold y8 at hf';unfold M5;dsimp only;have e1:idx [m.Have.1,m.Have.2.1,m.Have.2.2.1,m.Have.2.2.2.1,m.Have.2.2.2.2.1,m.Have.2.2.2.2.2] (k:Int)=_:=c2W m.Have hk';have e2:idx [(knK m K k).1,(knK m K k).2.1,(knK m K k).2.2.1,(knK m K k).2.2.2.1,(knK m K k).2.2.2.2.1,(knK m K k).2.2.2.2.2] m.From=_:=c8X (knK m K k) hf;have e3:=c2W (b3d (knK m K k) m.From) hk';unfold a4v at e3;rw[ifd (by omega),e1,j7,q9 (by omega),q9 (by omega),e2,j7,e3,j7,q9 (by omega),q9 (by omega)];simp only[j7];rw[e3,j7,a7W _ (by omega) (fun r hr=>hw.dep hr),j7,a6Q _ hk',j7,W_s (by omega),c7h,c4G,c0b w hk'];by_cases hm:moK false m.Have (a0h w) k=true
  ·rw[k9 hm,hm,Bool.true_or];rfl
  ·rw[j6 hm,Bool.eq_false_iff.2 hm,Bool.false_or];rfl) (by unfold M5;dsimp only;rw[j6 (by decide)];rfl)
theorem c1a(m:c8)(hf:y8 m.From)(me:Int)(b:n9)(w:List b9)(K:I36)(a:Bool):o8 (Q6 m (a0h w)) (a,0,⟨me,b,w,K⟩)=some (moK a m.Have (a0h w) 6,6,⟨me,b,w,knK m K 6⟩):=by
 exact W5 (body:=Q6 m (a0h w)) (fun k=>(moK a m.Have (a0h w) k,(k:Int),(⟨me,b,w,knK m K k⟩:e9))) 6 (by omega) (moK a m.Have (a0h w) 6,6,⟨me,b,w,knK m K 6⟩) (fun k hk=>by
  have hk':y8 (k:Int):=by unfold y8;omega
  have hf':=hf;unfold y8 at hf';unfold Q6;dsimp only;have e1:idx [m.Have.1,m.Have.2.1,m.Have.2.2.1,m.Have.2.2.2.1,m.Have.2.2.2.2.1,m.Have.2.2.2.2.2] (k:Int)=_:=c2W m.Have hk';have e2:idx [(knK m K k).1,(knK m K k).2.1,(knK m K k).2.2.1,(knK m K k).2.2.2.1,(knK m K k).2.2.2.2.1,(knK m K k).2.2.2.2.2] m.From=_:=c8X (knK m K k) hf;have e3:=c2W (b3d (knK m K k) m.From) hk';unfold a4v at e3;rw[ifd (by omega),q9 (by omega),q9 (by omega),e2,j7,e3,j7,q9 (by omega),e1,j7,q9 (by omega),q9 (by omega)];simp only[j7];rw[e3,j7,q9 (by omega),q9 (by omega),a6Q _ hk',j7,W_s (by omega),c7h,c4G,c0b w hk'];by_cases hm:moK a m.Have (a0h w) k=true
  ·rw[k9 hm,hm,Bool.true_or];rfl
  ·rw[j6 hm,Bool.eq_false_iff.2 hm,Bool.false_or];rfl) (by unfold Q6;dsimp only;rw[j6 (by decide)];rfl)
theorem c4i(k:B8)(h:I6)(hw:Written k.Depot.Written):S7 k h=some ((K8 k.Depot.Written (a0z h)).take 6):=by
 have hwl:=hw.len;have hsl:(A0 k.Depot.Written).length=k.Depot.Written.length:=(a0v _).length_eq
 have hdel:u7 (A0 k.Depot.Written) h=some (K8 k.Depot.Written (a0z h)):=
  d0c (fun x=>F2 x h) (p:=fun r=>decide (r.At.No<a0z h r.At.Depot)) _ (fun x hx=>by
   have hd:=hw.dep ((a0v _).mem_iff.1 hx);have hd':=hd;unfold y8 at hd';have e:=c2W h hd;unfold a4v at e;show F2 x h=_;unfold F2;rw[q9 (by omega),e,j7]) (by omega)
 have hbl:(K8 k.Depot.Written (a0z h)).length≤k.Depot.Written.length:=by
  unfold K8;have:=List.length_filter_le (fun r:b9=> !(decide (r.At.No<a0z h r.At.Depot))) (A0 k.Depot.Written);omega
 unfold S7 D8 l3;rw[q9 (by omega),j7];dsimp only;rw[hdel,j7]
 have hmin:(if 6<((K8 k.Depot.Written (a0z h)).length:Int)then(6:Int)else((K8 k.Depot.Written (a0z h)).length:Int))=((min 6 (K8 k.Depot.Written (a0z h)).length:Nat):Int):=by
  split<;>omega
 rw[hmin,q9 (by omega),j7]
 have hsub:sub (K8 k.Depot.Written (a0z h)) 0 ((min 6 (K8 k.Depot.Written (a0z h)).length:Nat):Int).toNat=(K8 k.Depot.Written (a0z h)).take 6:=by
  unfold sub;rw[a2C,List.drop_zero,a6l];rcases Nat.le_total 6 (K8 k.Depot.Written (a0z h)).length with h1|h1
  ·rw[a1Q h1]
  ·rw[Nat.min_eq_right h1,a5m (y6 _),a5m h1]
 rw[hsub,q9 (by have:=List.length_take_le 6 (K8 k.Depot.Written (a0z h));omega),j7]
theorem b9z(m:c8)(w:List b9)(hw:Written w):∃z,o8 (a0b m (A0 w)) (0,[])=some (z,(K8 w (a0z m.Have)).take 6):=by
 have hwl:=hw.len;have hsl:(A0 w).length=w.length:=(a0v _).length_eq
 obtain⟨e,h1,h2⟩:=a0J (body:=a0b m (A0 w)) (fun st=>∃k:Nat,st.1=(k:Int)∧k≤(A0 w).length∧st.2=((A0 w).take k).filter (fun r=> !(decide (r.At.No<a0z m.Have r.At.Depot)))∧st.2.length≤6) (fun st=>(A0 w).length-st.1.toNat) (fun e=>∃z,e=(z,(K8 w (a0z m.Have)).take 6)) (by
  rintro⟨i,acc⟩ ⟨k,hi,hk,ha,hl⟩;dsimp only at hi ha hl;subst hi;unfold a0b;dsimp only;rcases a4C k (A0 w).length with hlt|hge
  ·rcases a4C acc.length 6 with h6|h6
   ·right;have hx:=(a0v w).mem_iff.1 (Y8 hlt);have hd:=hw.dep hx;have hd':=hd;unfold y8 at hd';have e:=c2W m.Have hd;unfold a4v at e;rw[ifd (by omega),ifd (by omega),L5 hlt,j7,j7,q9 (by omega),e,j7];by_cases hq:(A0 w)[k].At.No≥a0z m.Have (A0 w)[k].At.Depot
    ·rw[k9 (by simpa using hq),j7,q9 (by simp only[Y0,N0];omega)]
     refine⟨_,rfl,⟨k+1,W_s (by omega),hlt,?_,by simp only[O6,Y0,N0];omega⟩,by dsimp only;rw[W_s (by omega)];omega⟩;rw[a4l hlt,b2v,←ha];rw[List.filter_cons_of_pos (by simp;omega)];rfl
    ·rw[j6 (by simpa using hq)]
     refine⟨_,rfl,⟨k+1,W_s (by omega),hlt,?_,hl⟩,by dsimp only;rw[W_s (by omega)];omega⟩;dsimp only;rw[a4l hlt,b2v,←ha,List.filter_cons_of_neg (by simp;omega)];simp
   ·left;refine⟨_,by rw[ifd (by omega),ifn (by omega)],(k:Int),?_⟩;congr 1;unfold K8;rw[←b0m k (A0 w),b2v,←b0m k (A0 w),b0m,←ha,b1F (by omega),a5m (by omega)]
  ·left;obtain rfl:k=(A0 w).length:=by omega
   refine⟨_,by rw[j6 (by simp)],((A0 w).length:Int),?_⟩;rw[a8u]at ha;congr 1;unfold K8;rw[←ha,a5m hl]) (0,[]) ⟨0,rfl,L0 _,by simp,by simp⟩ (by unfold a0X;simp only[Int.toNat_zero];omega)
 obtain⟨z,rfl⟩:=h2;exact⟨z,h1⟩
open Classical in noncomputable def recvS(d:e9)(m:c8):e9×List c8×Int:=
 if M7 d then
  if b4e m∧m.To=d.Me then
   match V5 a3i m.Records (d.Box,d.Written)with
   |.inr e=>(zD,[],e)
   |.inl s=>(⟨d.Me,⟨s.1.Thread++s.1.Loose,[]⟩,s.2,knK m d.Known 6⟩,
    if((K8 s.2 (a0z m.Have)).take 6).length=0∧s.2.length=d.Written.length∧moK false m.Have (a0h s.2) 6=false then []else [⟨d.Me,m.From,a0h s.2,(K8 s.2 (a0z m.Have)).take 6⟩],0)
  else(zD,[],86)
 else(zD,[],85)
theorem c2i(d:e9)(m:c8)(h:SzD d)(hm:SzM m):a2f d m=some (recvS d m):=by
 have hb:=h.b;have hwl:=h.w;unfold a2f recvS;rw[isValid_eq d h,j7];by_cases hv:M7 d
 ·rw[j6 (by simp[hv]),k9 hv,isMessage_eq m hm,j7];by_cases h1:b4e m
  ·rw[j6 (by simp[h1])];by_cases h2:m.To=d.Me
   ·rw[j6 (by simp[h2]),k9 ⟨h1,h2⟩];unfold a3w F3 m8 l3;rw[q9 (by omega),q9 (by omega),q9 (by omega)];simp only[j7];obtain⟨l1,l2⟩:=c2Q d m hv.2.1 h1;cases hr:V5 a3i m.Records (d.Box,d.Written)with
    |inr e=>rw[l2 e hr];rfl
    |inl s=>
     rw[l1 s hr,j7];obtain⟨g1,g2⟩:=b4Q m m.Records (d.Box,d.Written) ⟨hv.2.1,y6 _⟩ hr;have gl:=g1.len;have gw:=g1.1.len;dsimp only;unfold a1Z K5;dsimp only;rw[c4o s.1 (by omega),j7,j7,c2b m h1.1 d.Me _ s.2 d.Known g1.1,j7];dsimp only;rw[a7W _ (by omega) (fun r hr=>g1.1.dep hr),j7,j7,c4i _ m.Have g1.1,j7];dsimp only;generalize (K8 s.2 (a0z m.Have)).take 6=B;by_cases c1:B.length=0
     ·rw[k9 (by simpa using c1)]
      by_cases c2:s.2.length=d.Written.length
      ·rw[k9 (by simp only[L9];omega)];by_cases c3:moK false m.Have (a0h s.2) 6=false
       ·rw[k9 (by simp[c3]),k9 ⟨c1,c2,c3⟩]
       ·rw[j6 (by simpa using c3),j6 (fun e=>c3 e.2.2)]
      ·rw[j6 (by simp only[L9];omega),j6 (fun e=>c2 e.2.1)]
     ·rw[j6 (by simp only[L9];omega),j6 (fun e=>c1 e.1)]
   ·rw[k9 (by simpa using h2),j6 (fun e=>h2 e.2)]
  ·rw[k9 (by simp[h1]),j6 (fun e=>h1 e.1)]
 ·rw[k9 (by simp[hv]),j6 hv]
theorem b3n(d:e9)(m:c8)(h:SzD d)(hm:SzM m):a0I d m=some (recvS d m):=by
 have hb:=h.b;have hwl:=h.w;unfold a0I recvS;rw[CheckDepot_eq d h,j7];by_cases hv:M7 d
 ·rw[k9 hv,k9 hv,j6 (by decide),CheckMessage_eq m hm,j7];by_cases h1:b4e m
  ·rw[k9 h1,j6 (by decide)];by_cases h2:m.To=d.Me
   ·rw[j6 (by simp[h2]),k9 ⟨h1,h2⟩];unfold a0E Y3;rw[q9 (by simp only[N0];omega),q9 (by simp only[N0];omega),j7,q9 (by simp only[N0];omega),j7];simp only[b9h];obtain⟨l1,l2⟩:=c4c d m hv.2.1 h1;cases hr:V5 a3i m.Records (d.Box,d.Written)with
    |inr e=>rw[l2 e hr];rfl
    |inl s=>
     rw[l1 s hr,j7];obtain⟨g1,g2⟩:=b4Q m m.Records (d.Box,d.Written) ⟨hv.2.1,y6 _⟩ hr;have gl:=g1.len;have gw:=g1.1.len;dsimp only at g2⊢;rw[c0w s.1 (by omega),j7,a8e _ (by omega) (fun r hr=>g1.1.dep hr),j7,c1a m h1.1 d.Me _ s.2 d.Known _,j7];dsimp only;obtain⟨z,hz⟩:=b9z m s.2 g1.1;rw[c3M _ (by omega) g1.1.once,j7,hz,j7];dsimp only;generalize (K8 s.2 (a0z m.Have)).take 6=B;rw[c8N];by_cases c2:s.2.length=d.Written.length
     ·have e:decide ((s.2.length:Int)>(d.Written.length:Int))=false:=by simp;omega
      rw[e,Bool.false_or];by_cases c3:moK false m.Have (a0h s.2) 6=false
      ·rw[j6 (by simp[c3])];by_cases c1:B.length=0
       ·rw[ifn (by omega),k9 ⟨c1,c2,c3⟩]
       ·rw[ifd (by omega),j6 (fun e=>c1 e.1)]
      ·rw[k9 (by simpa using c3),j6 (fun e=>c3 e.2.2)]
     ·have e:decide ((s.2.length:Int)>(d.Written.length:Int))=true:=by simp;omega
      rw[e,Bool.true_or,k9 rfl,j6 (fun e=>c2 e.2.1)]
   ·rw[k9 (by simpa using h2),j6 (fun e=>h2 e.2)]
  ·rw[j6 h1,k9 (by decide),j6 (fun e=>h1 e.1)]
 ·rw[j6 hv,j6 hv,k9 (by decide)]
end Go.Proofs.YtggdlgclohnbaaaGreatDoor
namespace Go.Proofs.YtggdlgclohnbaaaGreatDoor
open Go Go.RowKit Go.Sx Go.Proofs.Tryz
def I3(i:Int):Prop:=0≤i∧i≤2
theorem I3.dep{i:Int}(h:I3 i):y8 i:=by unfold I3 at h;unfold y8;omega
theorem I3.cases{i:Int}(h:I3 i):i=0∨i=1∨i=2:=by unfold I3 at h;omega
def uq(D:Int→e9)(i:Int)(d:e9):Int→e9:=fun k=>if k=i then d else D k
theorem b1n(D:Int→e9){i:Int}(h:I3 i):idx [D 0,D 1,D 2] i=some (D i):=by
 rcases h.cases with rfl|rfl|rfl<;>rfl
theorem b6H(D:Int→e9)(i:Int)(y:e9):((if(i==0)=true then y else D 0),(if(i==1)=true then y else D 1),(if(i==2)=true then y else D 2))=(uq D i y 0,uq D i y 1,uq D i y 2):=by
 rw[c1n i 0,c1n i 1,c1n i 2];rfl
theorem c9s{me b:Int}(h:I3 me)(hb:0≤b∧b≤1):I3 ((W ((W (me+1))+b)).tmod 3):=by
 have hb':b=0∨b=1:=by omega
 unfold I3;rcases h.cases with rfl|rfl|rfl<;>rcases hb' with rfl|rfl<;>decide
theorem c8W{x:Int}{m:Nat}(h:0<m):0≤x % (m:Int)∧x % (m:Int)<(m:Int):=⟨Int.emod_nonneg _ (by omega),Int.emod_lt_of_pos _ (by omega)⟩
theorem d2X(x:Int):I3 (x % 3):=by unfold I3;omega
theorem d5g(x:Int):0≤x % 2∧x % 2≤1:=by omega
theorem c9S{α:Type}{l:List α}{a b:Nat}{x:α}(h:x∈l.take a++l.drop b):x∈l:=by
 rcases E3.1 h with h|h
 ·exact a4M h
 ·exact a7n h
theorem b6R{w:List b9}(h:Written w):H6 (a0h w):=a5y.2 fun x hx=>by
 have:=c8J w x;have:=h.len;rw[c0b _ hx];omega
def c6o(m:c8):Prop:=b4e m∧I3 m.From∧I3 m.To
theorem d1V{d:e9}(hv:M7 d)(r:b9)(he:(noteS d r).2.2=0):M7 (noteS d r).1∧(noteS d r).1.Me=d.Me:=by
 unfold noteS at he⊢;rw[k9 hv]at he⊢;by_cases h0:a3R d.Written (a4J d r)=0
 ·rw[k9 h0];exact⟨⟨hv.1,b2y hv.2.1 h0,hv.2.2⟩,rfl⟩
 ·rw[j6 h0]at he;exact absurd he h0
theorem d1O{d:e9}(hv:M7 d)(hm:I3 d.Me){to:Int}(ht:I3 to)(he:(tellS d to).2.2=0):M7 (tellS d to).1∧(tellS d to).1.Me=d.Me∧c6o (tellS d to).2.1:=by
 unfold tellS at he⊢;rw[k9 hv]at he⊢;by_cases h0:y8 to∧to≠d.Me
 ·rw[k9 h0];exact⟨⟨hv.1,⟨hv.2.1.1,by rw[a8R];exact hv.2.1.2⟩,hv.2.2⟩,rfl,⟨hv.1,h0.1,h0.2.symm,b6R hv.2.1.1,by simp,fun r hr=>by cases hr⟩,hm,ht⟩
 ·rw[j6 h0]at he;cases he
theorem c4v(m:c8)(hm:H6 m.Have)(K:I36)(hK:∀k,y8 k→H6 (b3d K k)):∀j,j≤6→∀k,y8 k→H6 (b3d (knK m K j) k)
 |0,_=>hK
 |j+1,hj=>by
  intro k hk;have ih:=c4v m hm K hK j (by omega);have hj':y8 (j:Int):=by unfold y8;omega
  rw[c7h];unfold kn1;rw[c8j _ _ _ hk];by_cases e:k=m.From
  ·subst e;rw[k9 rfl];refine a5y.2 fun x hx=>?_
   rw[c8H _ _ _ hx];by_cases e2:x=(j:Int)
   ·rw[k9 e2];split
    ·exact a5y.1 hm _ hj'
    ·exact a5y.1 (ih m.From hk) _ hj'
   ·rw[j6 e2];exact a5y.1 (ih m.From hk) x hx
  ·rw[j6 e];exact ih k hk
theorem d1b{d:e9}(hv:M7 d){m:c8}(hm:c6o m)(he:(recvS d m).2.2=0):M7 (recvS d m).1∧(recvS d m).1.Me=d.Me∧(∀x∈(recvS d m).2.1,c6o x)∧(recvS d m).2.1.length≤1:=by
 unfold recvS at he⊢;rw[k9 hv]at he⊢;by_cases h0:b4e m∧m.To=d.Me
 ·rw[k9 h0]at he⊢;cases hr:V5 a3i m.Records (d.Box,d.Written)with
  |inr e=>
   rw[hr]at he;dsimp only at he⊢
   have key:∀(l:List b9) (s:n9×List b9),V5 a3i l s≠ .inr 0:=by
    intro l
    induction l with
    |nil=>intro s h;unfold V5 at h;cases h
    |cons x l ih=>
     intro s h;unfold V5 at h;cases hx:a3i s x with
     |inl s'=>rw[hx]at h;exact ih s' h
     |inr e'=>
      rw[hx]at h;cases h;unfold a3i at hx;split at hx
      ·cases hx
      ·split at hx
       ·cases hx
       ·rename_i h1;exact h1 (Sum.inr.inj hx)
   subst he;exact absurd hr (key _ _)
  |inl s=>
   obtain⟨g1,_⟩:=b4Q m m.Records (d.Box,d.Written) ⟨hv.2.1,y6 _⟩ hr;dsimp only;refine⟨⟨hv.1,⟨g1.1,by rw[a8R];exact g1.2⟩,b3B.2 (c4v m h0.1.2.2.2.1 d.Known (b3B.1 hv.2.2) 6 (y6 _))⟩,rfl,fun x hx=>?_,by split<;>simp⟩;split at hx
   ·cases hx
   ·rw[a1V.1 hx];exact⟨⟨hv.1,h0.1.1,fun e=>h0.1.2.2.1 (by rw[h0.2];exact e.symm),b6R g1.1,List.length_take_le _ _,fun r hr=>g1.1.rec (c4e.1 (a4M hr)).1⟩,by dsimp only;rw[←h0.2];exact hm.2.2,hm.2.1⟩
 ·rw[j6 h0]at he;cases he
theorem d1r{d:e9}(hv:M7 d)(picks:List Int):M7 (restS d picks).1∧(restS d picks).1.Me=d.Me∧(restS d picks).2=0:=by
 unfold restS;rw[k9 hv];refine⟨⟨hv.1,⟨a6K _,by rw[a8R]⟩,?_⟩,rfl,rfl⟩;dsimp only;decide
structure St(D:Int→e9)(l:List c8)(n:Nat):Prop where
 v:∀i,I3 i→M7 (D i)∧(D i).Me=i
 ms:∀m∈l,c6o m
 len:l.length≤n
theorem St.up{D:Int→e9}{l l':List c8}{n n':Nat}(h:St D l n){i:Int}{d:e9}(hd:M7 d)(hi:d.Me=i)(hl:∀m∈l',c6o m)(hn:l'.length≤n'):St (uq D i d) l' n':=by
 refine⟨fun k hk=>?_,hl,hn⟩;unfold uq;by_cases e:k=i
 ·rw[k9 e,e];exact⟨hd,hi⟩
 ·rw[j6 e];exact h.v k hk
theorem St.more{D:Int→e9}{l:List c8}{n:Nat}(h:St D l n):St D l (n+1):=⟨h.v,h.ms,Nat.le_succ_of_le h.len⟩
theorem c9y(n:N5)(h:d5s n):∃r,a6h n=some r∧r.Text.size≤9223372036854775807:=by
 obtain⟨t,h1,h2⟩:=c8G n.2.2.2.2 h.2.2.2.2;have h3:=h2.1;unfold a6h;rw[a2o n.2.1 9 h.2.1 (by omega),j7,a2o n.2.2.1 50 h.2.2.1 (by omega),j7,a2o n.2.2.2.1 50 h.2.2.2.1 (by omega),j7,h1,j7];exact⟨_,rfl,by dsimp only;omega⟩
theorem c2l(y:a1M)(k:Nat)(x1:k<14)(hy:a1M.G y){D:Int→e9}{ms:List c8}(h:St D ms k):
 ∃D' ms',a6d (D 0,D 1,D 2) ms y=some ((D' 0,D' 1,D' 2),ms')∧St D' ms' (k+1):=by
 obtain⟨hkd,hde,hto,hrec,hpk⟩:=hy;have hrb:reachBytes≤9223372036854775800:=by decide
 have pk1:b0c y.Picks:=fun x hx=>hpk.2.2 x hx
 have pk2:y.Picks.length≤9223372036854775800:=by omega
 have hme:=d2X y.Depot;have hme':=hme;unfold I3 at hme';have hlen:=h.len;have hmo:=h.more;unfold a6d;dsimp only;rw[a2o _ 3 hde (by omega),j7,a2o _ 8 hkd (by omega),j7];generalize y.Depot % 3=me at hme hme';obtain⟨v1,v2⟩:=h.v me hme;have hkk:(y.Kind % 8=3∨y.Kind % 8=4)∨(y.Kind % 8=5∨y.Kind % 8=6)∨y.Kind % 8=7∨(y.Kind % 8=0∨y.Kind % 8=1∨y.Kind % 8=2):=by omega
 generalize y.Kind % 8=kk at hkk;rcases hkk with h1|h1|h1|h1
 ·rcases h1 with h1|h1
  rw[k9 (by simp[h1])]
  rotate_left
  rw[j6 (by simp[h1]),k9 (by simp[h1])]
  all_goals
   have t1:=c9s hme (d5g y.To);have tw:=d1O v1 (by rw[v2];exact hme) t1;rw[q9 (by omega),b1n D hme,j7,a2o _ 2 hto (by omega),j7,c1M _ _ v1.sz,j7];generalize tellS (D me) _=z at tw⊢;obtain⟨d,m,e⟩:=z;dsimp only at tw⊢;by_cases he:e=0
   ·obtain⟨w1,w2,w3⟩:=tw he;rw[k9 (by simpa using he),q9 (by omega)]
    simp only[j7,b9h];rw[q9 (by simp only[N0];omega),q9 (by simp only[Y0,N0];omega),b6H];refine⟨_,_,rfl,h.up w1 (w2.trans v2) (fun x hx=>?_) (by simp only[O6,Y0,N0];omega)⟩;rcases E3.1 hx with hx|hx
    ·exact h.ms x hx
    ·rw[a1V.1 hx];exact w3
   ·rw[j6 (by simpa using he)]
    exact⟨_,_,rfl,hmo⟩
 ·rw[j6 (by simp only[L9];omega),j6 (by simp only[L9];omega)];rcases h1 with h1|h1
  rw[k9 (by simp[h1])]
  rotate_left
  rw[j6 (by simp[h1]),k9 (by simp[h1])]
  all_goals
   by_cases h0:ms.length=0
   ·rw[k9 (by simpa using h0)]
    exact⟨_,_,rfl,hmo⟩
   ·obtain⟨q1,q2⟩:=c8W (x:=y.To) (m:=ms.length) (by omega);rw[j6 (by simp only[L9];omega),a2o _ (ms.length:Int) hto (by omega),j7];obtain⟨q,hq⟩:∃q:Nat,y.To % (ms.length:Int)=(q:Int):=⟨(y.To % (ms.length:Int)).toNat,by omega⟩;rw[hq]at q1 q2⊢;have hql:q<ms.length:=by omega
    rw[L5 hql,j7];have hm:=h.ms ms[q] (Y8 hql);have hi:=hm.2.2;have hi':=hi;unfold I3 at hi';obtain⟨u1,u2⟩:=h.v _ hi;have rw_:=d1b u1 hm;rw[q9 (by omega),b1n D hi,j7,b3n _ _ u1.sz hm.1.sz,j7];generalize recvS (D ms[q].To) ms[q]=z at rw_⊢;obtain⟨d,a2w,e⟩:=z;dsimp only at rw_⊢;rw[q9 (by simp only[N0];omega)];simp only[b9h];have c1:sub ms 0 ((q:Int)).toNat=ms.take q:=by unfold sub;rw[a2C,List.drop_zero,a6l]
    have c2:sub ms (((q+1:Nat):Int)).toNat ms.length=ms.drop (q+1):=by unfold sub;rw[a2C,a5m (by simp)]
    by_cases he:e=0
    ·obtain⟨w1,w2,w3,w4⟩:=rw_ he
     have hall:∀l:List c8,(∀x∈l,x∈ms)→∀x∈l++a2w,c6o x:=fun l hl x hx=>by
      rcases E3.1 hx with hx|hx
      ·exact h.ms x (hl x hx)
      ·exact w3 x hx
     by_cases hpar:y.Depot.tmod 2=0
     ·rw[k9 (by simpa using hpar),q9 (by omega),W_s (k:=q) (by omega),j7,q9 (by omega),j7,c1,c2,q9 (by simp only[N0,Z5];omega),q9 (by simp only[Z5,a7V];omega),k9 (by simpa using he),q9 (by omega)]
      simp only[j7];rw[q9 (by simp only[O6,Z5,a7V];omega),b6H];exact⟨_,_,rfl,h.up w1 (w2.trans u2) (hall _ fun x hx=>c9S hx) (by simp only[O6,Z5,a7V];omega)⟩
     ·rw[j6 (by simpa using hpar),k9 (by simpa using he),q9 (by omega)]
      simp only[j7];rw[q9 (by omega),b6H];exact⟨_,_,rfl,h.up w1 (w2.trans u2) (hall _ fun x hx=>hx) (by simp only[O6];omega)⟩
    ·by_cases hpar:y.Depot.tmod 2=0
     ·rw[k9 (by simpa using hpar),q9 (by omega),W_s (k:=q) (by omega),j7,q9 (by omega),j7,c1,c2,q9 (by simp only[N0,Z5];omega),q9 (by simp only[Z5,a7V];omega),j6 (by simpa using he)]
      exact⟨_,_,rfl,hmo⟩
     ·rw[j6 (by simpa using hpar),j6 (by simpa using he)]
      exact⟨_,_,rfl,hmo⟩
 ·rw[j6 (by simp[h1]),j6 (by simp[h1]),j6 (by simp[h1]),j6 (by simp[h1]),k9 (by simp[h1])];obtain⟨w1,w2,w3⟩:=d1r v1 y.Picks;rw[q9 (by omega),b1n D hme,j7,b3Z _ _ v1.sz pk1 pk2,j7];generalize restS (D me) y.Picks=z at w1 w2 w3⊢;obtain⟨d,e⟩:=z;dsimp only at w1 w2 w3⊢;rw[k9 (by simpa using w3),q9 (by omega)]
  simp only[j7];rw[b6H];exact⟨_,_,rfl,h.up w1 (w2.trans v2) h.ms (by omega)⟩
 ·rw[j6 (by simp only[L9];omega),j6 (by simp only[L9];omega),j6 (by simp only[L9];omega),j6 (by simp only[L9];omega),j6 (by simp only[L9];omega)];obtain⟨r,r1,r2⟩:=c9y y.Record hrec;have nw:=d1V v1 r;rw[q9 (by omega),b1n D hme,j7,r1,j7,c0s _ _ v1.sz r2,j7];generalize noteS (D me) r=z at nw⊢;obtain⟨d,x,e⟩:=z;dsimp only at nw⊢;by_cases he:e=0
  ·obtain⟨w1,w2⟩:=nw he;rw[k9 (by simpa using he),q9 (by omega)]
   simp only[j7];rw[b6H];exact⟨_,_,rfl,h.up w1 (w2.trans v2) h.ms (by omega)⟩
  ·rw[j6 (by simpa using he)]
   exact⟨_,_,rfl,hmo⟩
def a8y(i:Int):e9:=⟨i,⟨[],[]⟩,[],zT⟩
theorem c9A:St a8y [] 0:=by
 refine⟨fun i hi=>⟨⟨hi.dep,⟨Written.nil,by simp[a8y,ofF,ofK]⟩,?_⟩,rfl⟩,(fun m hm=>nomatch hm),by simp⟩;show∀l∈a5W zT,H6 l;decide
theorem c6D:o8 a0H (0,(zD,zD,zD))=some (3,(a8y 0,a8y 1,a8y 2)):=by
 have key:=W5 (body:=a0H) (fun k=>match k with|0=>(0,(zD,zD,zD))|1=>(1,(a8y 0,zD,zD))|2=>(2,(a8y 0,a8y 1,zD))|_=>(3,(a8y 0,a8y 1,a8y 2))) 3 (by omega) (3,(a8y 0,a8y 1,a8y 2)) (fun k hk=>by
  have:k=0∨k=1∨k=2:=by omega
  rcases this with rfl|rfl|rfl<;>rfl) rfl
 exact key
theorem c2H(l:List a1M)(hl:l.length≤9223372036854775800)(hy:∀y∈l,a1M.G y):∃D ms,a4Q l=some ((D 0,D 1,D 2),ms)∧St D ms 14:=by
 obtain⟨e,h1,D,ms,i,he,h2⟩:=a0J (body:=a2l l) (fun st=>∃(D:Int→e9) (ms:List c8) (k:Nat),st=(ms,(k:Int),(D 0,D 1,D 2))∧St D ms k∧k≤14∧k≤l.length) (fun st=>15-st.2.1.toNat)
  (fun e=>∃(D:Int→e9) (ms:List c8) (i:Int),e=(ms,i,(D 0,D 1,D 2))∧St D ms 14) (by
  rintro st ⟨D,ms,k,rfl,h,z1,hkl⟩;have hd:St D ms 14:=⟨h.v,h.ms,z6 h.len z1⟩;unfold a2l;dsimp only;rcases a4C k l.length with hlt|hge
  ·rcases a4C k 14 with x1|x1
   ·right;obtain⟨D',ms',e1,e2⟩:=c2l l[k] k x1 (hy _ (Y8 hlt)) h;rw[ifd (by omega),ifd (by omega),L5 hlt,j7,e1,j7,W_s (by omega)];exact⟨_,rfl,⟨D',ms',k+1,rfl,e2,by omega,by omega⟩,by dsimp only;omega⟩
   ·left;rw[ifd (by omega),ifn (by omega)];exact⟨_,rfl,D,ms,(k:Int),rfl,hd⟩
  ·left;rw[ifn (by omega)];exact⟨_,rfl,D,ms,(k:Int),rfl,hd⟩) ([],0,(a8y 0,a8y 1,a8y 2)) ⟨a8y,[],0,rfl,c9A,by omega,by omega⟩ (by unfold a0X;simp only[Int.toNat_zero];omega)
 subst he;refine⟨D,ms,?_,h2⟩;unfold a4Q;have h0:o8 a0H (0,((⟨0,(⟨[],[]⟩:n9),[],zT⟩:e9),(⟨0,(⟨[],[]⟩:n9),[],zT⟩:e9),(⟨0,(⟨[],[]⟩:n9),[],zT⟩:e9)))=_:=c6D;rw[h0,j7];dsimp only;rw[h1,j7]
end Go.Proofs.YtggdlgclohnbaaaGreatDoor
namespace Go.Proofs.YtggdlgclohnbaaaGreatDoor
open Go Go.Sx Go.Proofs.Tryz
def RS:b9:=⟨⟨2,0⟩,5,10,12,⟨0,0⟩,⟨#[97,32,108,97,109,112,32,111,110,32,116,104,101,32,113,117,97,121]⟩⟩
def TS:ByteArray:=⟨#[50,32,48,32,53,32,49,48,32,49,50,32,48,32,48,32,97,32,108,97,109,112,32,111,110,32,116,104,101,32,113,117,97,121]⟩
def T0:ByteArray:=⟨#[50,32,48,32,53,32,49,48,32,49,50,32,48,32,48,32,97,32,108,97,109,112,32,111]⟩
def T1:ByteArray:=⟨#[110,32,116,104,101,32,113,117,97,121]⟩
def C0(no:Int):d8:=⟨no,0,2,24,T0⟩
def C1(no:Int):d8:=⟨no,1,2,10,T1⟩
theorem b0n:z8 RS:=by decide+kernel
theorem c3R(u:Nat)(h:u<10):Lib.itoa (u:Int)=[UInt8.ofNat (48+u)]:=by
 rw[Lib.itoa_nonneg,Lib.decDigits,dif_pos h]
theorem c7F(u:Nat)(h:10≤u∧u<100):Lib.itoa (u:Int)=[UInt8.ofNat (48+u / 10),UInt8.ofNat (48+u % 10)]:=by
 rw[Lib.itoa_nonneg,Lib.decDigits,dif_neg (by omega),Lib.decDigits,dif_pos (by omega)];rfl
theorem c3e:R0 RS=TS:=by
 have h0:=c3R 0 (by omega);have h2:=c3R 2 (by omega);have h5:=c3R 5 (by omega);have x1:=c7F 10 (by omega);have z1:=c7F 12 (by omega);apply a7U;apply N8;rw[a9S];unfold O4 F4 RS;simp only[U0,List.flatMap_nil];rw[show(2:Int)=((2:Nat):Int) from rfl,show(0:Int)=((0:Nat):Int) from rfl,show(5:Int)=((5:Nat):Int) from rfl,show(10:Int)=((10:Nat):Int) from rfl,show(12:Int)=((12:Nat):Int) from rfl,h0,h2,h5,x1,z1];decide+kernel
theorem b4S(no:Int):a2m (R0 RS) no=[C0 no,C1 no]:=by
 rw[c3e];have e0:a9a TS 0=T0:=by decide+kernel
 have e1:a9a TS 1=T1:=by decide+kernel
 have hz:TS.size=34:=by decide+kernel
 have s0:T0.size=24:=by decide+kernel
 have s1:T1.size=10:=by decide+kernel
 have hr:List.range (N4 34)=[0,1]:=by decide+kernel
 unfold a2m;rw[hz,hr];simp only[H7,a6v,b1S,e0,e1,hz,s0,s1,C0,C1];rfl
theorem d1j:a3g RS=some (TS,0):=by
 unfold a3g;rw[V4 RS (by have:=P5 b0n;omega),j7,j6 (by simp[b0n]),a9U b0n,c3e];rfl
theorem c7l:a3Z RS 3=some ([C0 3,C1 3],0):=by
 unfold a3Z;rw[V4 RS (by have:=P5 b0n;omega),j7,j6 (by simp[b0n]),a5c,j7,j6 (by decide),a9B b0n,b4S];rfl
theorem c6M:A0 []=[]:=a5Q (a2L [])
theorem c9P:a0n ⟨[],[]⟩ []=some true:=by
 unfold a0n;rw[areWritten_eq [] (by simp) (by simp),j7,k9 (by simp[Written.nil]),b1P _ (by simp),j7,c8L [] (by simp) (by simp),j7];dsimp only;rw[c0z _ _ (by simp)];simp[ofF,ofK]
theorem d1a:∃b,a1e ⟨[]⟩ RS=some (b,0):=by
 have hb:a0f ⟨[]⟩=some true:=by
  have:o8 (E7 ⟨[]⟩) (0,(-1),0)=some (.inl (0,-1,0)):=W5 (body:=E7 ⟨[]⟩) (fun _=>((0:Int),(-1:Int),(0:Int))) 0 (by omega) _ (fun k hk=>by omega) (by unfold E7;dsimp only;rw[j6 (by simp)]);unfold a0f;rw[this];rfl
 have hf:a1H ⟨[]⟩ RS.At=some (0,false):=by decide+kernel
 unfold a1e;rw[hb,j7,j6 (by decide),V4 RS (by have:=P5 b0n;omega),j7,j6 (by simp[b0n]),hf,j7];dsimp only;rw[j6 (by decide),a7W [] (by simp) (by simp),j7];have e:idx [(a0h []).1,(a0h []).2.1,(a0h []).2.2.1,(a0h []).2.2.2.1,(a0h []).2.2.2.2.1,(a0h []).2.2.2.2.2] RS.At.Depot=some 0:=by decide+kernel
 rw[e,j7,j6 (by decide),j6 (by decide)];unfold l3;rw[q9 (by simp),j7,q9 (by simp)];unfold D8;rw[q9 (by simp)];exact⟨_,rfl⟩
theorem c9h:a3W ⟨[],[]⟩ [] RS=some (⟨[],[C0 0,C1 0]⟩,[RS],0):=by
 obtain⟨b,hb⟩:=d1a;have hc:y0 [] RS=some false:=by decide+kernel
 unfold a3W Q2;rw[c9P,j7,j6 (by decide),hc,j7,j6 (by decide)];unfold D8;rw[q9 (by simp),j7,c6M,hb,j7];dsimp only;rw[j6 (by decide)];unfold F3 m8 l3;rw[q9 (by simp),j7,q9 (by simp),j7,j7];dsimp only;rw[show((([]:List b9).length:Nat):Int)=0 from rfl,a9B b0n,b4S,j7,q9 (by simp),j7,q9 (by simp)];rfl
theorem c4N:c1g ⟨[],[C0 0,C1 0]⟩:=⟨by simp,by simp,fun c hc=>by
 simp only[u9,a8m,or_false]at hc;rcases hc with rfl|rfl
 ·show T0.size≤_;decide+kernel
 ·show T1.size≤_;decide+kernel⟩
theorem c1w{l:List Int}(h:(l.all fun x=>decide (0≤x∧x≤100))=true):b0c l:=fun x hx=>by
 have:=of_decide_eq_true (V6.1 h x hx);omega
theorem d2D:E6 ⟨[],[C0 0,C1 0]⟩ [2,0]=some ⟨[],[C0 0,C1 0]⟩:=by
 rw[a6V _ _ c4N (c1w (by decide)) (by simp)];decide+kernel
theorem d2F:E6 ⟨[],[C0 0,C1 0]⟩ [3,0]=some ⟨[],[C1 0,C0 0]⟩:=by
 rw[a6V _ _ c4N (c1w (by decide)) (by simp)];decide+kernel
theorem d2T:E6 ⟨[],[C0 0,C1 0]⟩ [2,0,0,0]=some ⟨[],[C0 0]⟩:=by
 rw[a6V _ _ c4N (c1w (by decide)) (by simp)];decide+kernel
theorem d3z:E6 ⟨[],[C0 0,C1 0]⟩ [2,0,1,9]=some ⟨[],[C0 0,⟨0,1,2,10,⟨#[110,32,116,104,101,32,113,117,97]⟩⟩]⟩:=by
 rw[a6V _ _ c4N (c1w (by decide)) (by simp)];decide+kernel
theorem d3Q:E6 ⟨[C0 0,C1 0],[]⟩ [0,0]=some ⟨[C0 0,C1 0],[]⟩:=by
 rw[a6V _ _ ⟨by simp,by simp,by simp⟩ (c1w (by decide)) (by simp)];decide+kernel
theorem b5X{l:List d8}(h0:b0v l 0=some TS)(h1:b0v l 1=none):a7x l=[RS]:=by
 have hd:decF TS=some RS:=by rw[←c3e];exact c1Z b0n
 have hn:P9 [] RS:=by decide+kernel
 unfold a7x;rw[show(61:Nat)=59+1+1 from rfl,a6b];rw[show((([]:List b9).length:Nat):Int)=0 from rfl,h0];dsimp only;rw[hd];dsimp only;rw[k9 hn,a6b];rw[show((([]++ [RS]:List b9).length:Nat):Int)=1 from rfl,h1];rfl
theorem b8U{l:List d8}(h0:b0v l 0=none):a7x l=[]:=by
 unfold a7x;rw[show(61:Nat)=60+1 from rfl,a6b];rw[show((([]:List b9).length:Nat):Int)=0 from rfl,h0]
theorem c3h:ofF [RS]=[C0 0,C1 0]:=by
 unfold ofF ofK ofK;rw[b4S];rfl
theorem d2i:E9 ⟨[],[C0 0,C1 0]⟩=some (⟨[C0 0,C1 0],[]⟩,[RS]):=by
 rw[a7p _ (by simp),b5X (by decide+kernel) (by decide+kernel),c3h]
theorem d2E:E9 ⟨[],[C1 0,C0 0]⟩=some (⟨[C0 0,C1 0],[]⟩,[RS]):=by
 rw[a7p _ (by simp),b5X (by decide+kernel) (by decide+kernel),c3h]
theorem d2g:E9 ⟨[],[C0 0]⟩=some (⟨[],[]⟩,[]):=by
 rw[a7p _ (by simp),b8U (by decide+kernel)];rfl
theorem d3t:E9 ⟨[],[C0 0,⟨0,1,2,10,⟨#[110,32,116,104,101,32,113,117,97]⟩⟩]⟩=some (⟨[],[]⟩,[]):=by
 rw[a7p _ (by simp),b8U (by decide+kernel)];rfl
theorem d2v:E9 ⟨[C0 0,C1 0],[]⟩=some (⟨[C0 0,C1 0],[]⟩,[RS]):=by
 rw[a7p _ (by simp),b5X (by decide+kernel) (by decide+kernel),c3h]
theorem c9K:X5 ⟨[],[C0 0,C1 0]⟩=some ⟨[C0 0,C1 0],[]⟩:=by
 unfold X5;rw[b1P _ (by simp)];rfl
theorem d0k:a8d=some true:=by
 unfold a8d;rw[show(⟨(⟨2,0⟩:o4),5,10,12,(⟨0,0⟩:o4),(⟨#[97,32,108,97,109,112,32,111,110,32,116,104,101,32,113,117,97,121]⟩:ByteArray)⟩:b9)=RS from rfl];rw[d1j,j7];dsimp only;rw[c7l,j7];dsimp only;rw[c9h,j7];dsimp only;rw[d2D,j7,d2i,j7];dsimp only;rw[d2F,j7,d2E,j7];dsimp only;rw[d2T,j7,d2g,j7];dsimp only;rw[d3z,j7,d3t,j7];dsimp only;rw[c9K,j7,d3Q,j7,d2v,j7];dsimp only;rw[k9 (by decide),k9 (by decide),k9 (by decide),k9 (by decide),k9 (by decide),k9 (by decide),k9 (by decide)];rw[show idx [C0 3,C1 3] 0=some (C0 3) from rfl,j7,show idx [C0 3,C1 3] 1=some (C1 3) from rfl];rw[k9 (by rw[a5B];decide+kernel),j7,k9 (by rw[a5B];decide+kernel),k9 (by rw[a5B];decide+kernel)];rw[k9 (by decide),k9 (by decide),k9 (by decide),k9 (by decide),k9 (by decide),k9 (by decide)];rfl
end Go.Proofs.YtggdlgclohnbaaaGreatDoor
namespace Go.Proofs.YtggdlgclohnbaaaGreatDoor
open Go Go.RowKit Go.Sx Go.Proofs.Tryz
def Sm(d:e9):Prop:=d.Box.Thread.length+d.Box.Loose.length≤100000∧d.Written.length≤100000
theorem HB.sm{b:n9}{w:List b9}(h:HB b w)(me:Int)(k:I36):Sm ⟨me,b,w,k⟩:=⟨by have:=h.len;dsimp only;omega,by have:=h.1.len;dsimp only;omega⟩
theorem b2q:Sm zD:=⟨by simp,by simp⟩
theorem a3s{d:e9}(h:Sm d):L4 d d=some true:=by
 obtain⟨h1,h2⟩:=h;unfold L4 a6E;rw[a8Y _ _ (by omega),j7,a7z _ _ (by omega),j7,a7z _ _ (by omega),j7];simp
theorem a8S{m:c8}(h:m.Records.length≤100000):W6 m m=some true:=by
 unfold W6;rw[a8Y _ _ (by omega),j7];simp
theorem b4q{l:List c8}(hl:l.length≤1)(h:∀m∈l,m.Records.length≤100000):a0w l l=some true:=by
 have key:=W5 (body:=H5 l l) (fun k=>(true,(k:Int))) l.length (by omega) (true,(l.length:Int)) (fun k hk=>by
  unfold H5;dsimp only;rw[ifd (by omega),k9 rfl,L5 hk,j7,j7,a8S (h _ (Y8 hk)),j7,W_s (by omega)]) (by unfold H5;dsimp only;rw[j6 (by simp)])
 have key:o8 (H5 l l) (true,0)=_:=key;unfold a0w;rw[show((l.length:Int)==(l.length:Int))=true by simp,key,j7]
theorem d0u(d:e9)(r:b9):Sm (noteS d r).1:=by
 unfold noteS;split
 ·rename_i hv;split
  ·rename_i he;exact(b2y hv.2.1 he).sm _ _
  ·exact b2q
 ·exact b2q
theorem d0d(d:e9)(to:Int):Sm (tellS d to).1∧(tellS d to).2.1.Records.length≤100000:=by
 unfold tellS;split
 ·rename_i hv;split
  ·exact⟨(show HB ⟨d.Box.Thread++d.Box.Loose,[]⟩ d.Written from⟨hv.2.1.1,by rw[a8R];exact hv.2.1.2⟩).sm _ _,by simp⟩
  ·exact⟨b2q,by simp⟩
 ·exact⟨b2q,by simp⟩
theorem c9J(d:e9)(m:c8):Sm (recvS d m).1∧(recvS d m).2.1.length≤1∧∀x∈(recvS d m).2.1,x.Records.length≤100000:=by
 unfold recvS;split
 ·rename_i hv;split
  ·split
   ·exact⟨b2q,by simp,by simp⟩
   ·rename_i s hs;obtain⟨g1,_⟩:=b4Q m m.Records (d.Box,d.Written) ⟨hv.2.1,y6 _⟩ hs;refine⟨(show HB ⟨s.1.Thread++s.1.Loose,[]⟩ s.2 from⟨g1.1,by rw[a8R];exact g1.2⟩).sm _ _,?_,?_⟩
    ·dsimp only;split<;>simp
    ·dsimp only;intro x hx;split at hx
     ·cases hx
     ·rw[a1V.1 hx];have:=List.length_take_le 6 (K8 s.2 (a0z m.Have));dsimp only;omega
  ·exact⟨b2q,by simp,by simp⟩
 ·exact⟨b2q,by simp,by simp⟩
theorem c9N(d:e9)(picks:List Int):Sm (restS d picks).1:=by
 unfold restS;split
 ·exact(show HB ⟨ofF (a7x ((a9c d.Box picks).Thread++(a9c d.Box picks).Loose)),[]⟩ _ from⟨a6K _,by rw[a8R]⟩).sm _ _
 ·exact b2q
theorem d1J(me:Int):Sm (if y8 me then((⟨me,⟨[],[]⟩,[],zT⟩:e9),(0:Int))else(zD,1)).1:=by
 split
 ·exact⟨by simp,by simp⟩
 ·exact b2q
theorem b5o(x0:(List a1M))(x1:a1c)(h0:(x0.length*88≤reachBytes∧x0.length≤maxLen∧∀y:a1M,y∈x0→a1M.G y))(h1:a1c.G x1):a3u x0 x1=some true:=by
 have hrb:reachBytes≤9223372036854775800:=by decide
 have hl:x0.length≤9223372036854775800:=by omega
 obtain⟨hdep,hto,hrec,hmsg,hpk,hwh,hby⟩:=h1;obtain⟨D,ms,e1,hst⟩:=c2H x0 hl h0.2.2;have ha:=d2X x1.Depot;have ha':=ha;unfold I3 at ha';have p1:b0c x1.Picks:=fun x hx=>hpk.2.2 x hx
 have p2:x1.Picks.length≤9223372036854775800:=by omega
 have hrt:x1.Record.Text.size≤9223372036854775807:=by have:=hrec.2.2.2.2.2;omega
 have hmt:SzM x1.Message:=fun r hr=>by have:=(hmsg.2.2.2.2.2 r hr).2.2.2.2.2;omega
 unfold a3u;rw[d0k,j7,e1,j7];dsimp only;rw[a2o x1.Depot 3 hdep (by omega),j7,q9 (by omega),b1n D ha,j7,a2o x1.Which 10 hwh (by omega),j7];generalize x1.Depot % 3=a at*;generalize hwz:x1.Which % 10=wz;have hd:=(hst.v _ ha).1.sz;have hbx:=(hst.v _ ha).1.2.1
 --whatever is changed:a depot and a message
 have key:∀(q:Option (a1c×e9)),(∃x d,q=some (x,d)∧SzD d∧SzM x.Message∧x.Record=x1.Record∧x.Picks=x1.Picks)→∀K:a1c×e9→Option Bool,
  (∀x d,SzD d→SzM x.Message→x.Record=x1.Record→x.Picks=x1.Picks→K (x,d)=some true)→Option.bind q K=some true:=by
  rintro q ⟨x,d,rfl,g1,g2,g3,g4⟩ K hK;rw[j7];exact hK x d g1 g2 g3 g4
 refine key _ ?_ _ ?_
 ·by_cases w0:wz=0
  ·rw[k9 (by simpa using w0)]
   exact⟨_,_,rfl,⟨hd.b,hd.w,hd.t⟩,hmt,rfl,rfl⟩
  ·rw[j6 (by simpa using w0)]
   by_cases w1:wz=1
   ·have m1:y8 (x1.By % 6):=by unfold y8;omega
    have m2:y8 (x1.To % 6):=by unfold y8;omega
    have m1':=m1;have m2':=m2;unfold y8 at m1' m2';have i1:idx [(D a).Known.1,(D a).Known.2.1,(D a).Known.2.2.1,(D a).Known.2.2.2.1,(D a).Known.2.2.2.2.1,(D a).Known.2.2.2.2.2] (x1.By % 6)=_:=c8X (D a).Known m1;have i2:=c2W (b3d (D a).Known (x1.By % 6)) m2;unfold a4v at i2;rw[k9 (by simpa using w1),a2o x1.By 6 hby (by omega),j7,q9 (by omega),a2o x1.To 6 hto (by omega),j7,q9 (by omega),i1,j7,i2]
    simp only[j7];exact⟨_,_,rfl,⟨hd.b,hd.w,hd.t⟩,hmt,rfl,rfl⟩
   ·rw[j6 (by simpa using w1)]
    by_cases w2:wz=2
    ·have hf:a3S (D a).Box [x1.By]=some (a9c (D a).Box [x1.By]):=c1p _ _ hbx.sz (fun x hx=>by rw[a1V.1 hx];exact hby) (by simp);rw[k9 (by simpa using w2),hf]
     simp only[j7];refine⟨_,_,rfl,⟨?_,hd.w,hd.t⟩,hmt,rfl,rfl⟩;have hfl:=a6W [x1.By] (D a).Box.Loose 0 [];have:=hbx.len;simp only[N0]at hfl;show(D a).Box.Thread.length+(a4k [x1.By] 0 [] (D a).Box.Loose).length≤_;omega
    ·rw[j6 (by simpa using w2)]
     by_cases w3:wz=3
     ·rw[k9 (by simpa using w3)]
      by_cases hms:ms.length=0
      ·rw[ifn (by omega)];exact⟨_,_,rfl,hd,hmt,rfl,rfl⟩
      ·have hml:=hst.len;obtain⟨q1,q2⟩:=c8W (x:=x1.By) (m:=ms.length) (by omega);obtain⟨q,hq⟩:∃q:Nat,x1.By % (ms.length:Int)=(q:Int):=⟨(x1.By % (ms.length:Int)).toNat,by omega⟩;rw[hq]at q1 q2;have hql:q<ms.length:=by omega
       rw[ifd (by omega),a2o _ (ms.length:Int) hby (by omega),j7,hq,L5 hql];simp only[j7];exact⟨_,_,rfl,hd,(hst.ms _ (Y8 hql)).1.sz,rfl,rfl⟩
     ·rw[j6 (by simpa using w3)]
      exact⟨_,_,rfl,hd,hmt,rfl,rfl⟩
 ·intro x d hsd hsm hxr hxp;dsimp only;have hrt':x.Record.Text.size≤9223372036854775807:=by rw[hxr];exact hrt
  have p1':b0c x.Picks:=by rw[hxp];exact p1
  have p2':x.Picks.length≤9223372036854775800:=by rw[hxp];exact p2
  have s1:=d1J x.To;have s2:=d0u d x.Record;have s3:=d0d d x.To;have s4:=c9J d x.Message;have s5:=c9N d x.Picks;rw[c1O,b9W,c7V d _ hsd hrt',c0s d _ hsd hrt',c9g d _ hsd,c1M d _ hsd,c2i d _ hsd hsm,b3n d _ hsd hsm,c1I d _ hsd p1' p2',b3Z d _ hsd p1' p2'];simp only[j7];rw[a3s s1,a3s s2,a3s s3.1,a3s s4.1,a3s s5,a8S s3.2,b4q s4.2.1 s4.2.2];simp
end Go.Proofs.YtggdlgclohnbaaaGreatDoor
