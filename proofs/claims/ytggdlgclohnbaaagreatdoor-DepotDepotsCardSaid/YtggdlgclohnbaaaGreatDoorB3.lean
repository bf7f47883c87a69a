/- Laws of the walk over pure data. -/
import Derived.Test.YtggdlgclohnbaaaGreatDoorB2
import Derived.Lib.AppendZerosOnto
import Derived.Laws.Externs
import Derived.StillTail
import Derived.Shelf.Strconv.Itoa3
import Derived.Shelf.Strconv.AtoiAll
import Derived.Shelf.Strconv.Clone
import Derived.Shelf.Strings.Search2
import Derived.Shelf.Strings.Builder1
import Derived.Lib.AppendIntMem
import Derived.ProofKit
import Derived.SizedLaws
set_option linter.unusedVariables false
set_option linter.unusedSimpArgs false
namespace Go
theorem Y8:type_of% @List.getElem_mem:=@List.getElem_mem
theorem a2C:type_of% @Int.toNat_natCast:=@Int.toNat_natCast
theorem a0a:type_of% @decide_true:=@decide_true
theorem a0U:type_of% @decide_false:=@decide_false
theorem a8R:type_of% @List.append_nil:=@List.append_nil
theorem b2v:type_of% @List.filter_append:=@List.filter_append
end Go
namespace Go.Sx
open Go Go.RowKit
section
variable {X : Cy}{xs : List (List D)}{ok0 : Nat → Prop}{W0 : World}{l n : Nat}{J : List (List D) → (Nat → Prop) → World → Prop}{Jx : List (List D) → World → Prop}
theorem c5W{ops:List Oper}{o:Oper}{opsA:Array Oper}(hops:opsA.toList=ops){sy:Sy}{p:Pre}{a:Act}{w:World}{yes no:Sy→Prop}(h:a3M ops o.guard sy yes no)(hs:Seg X xs ok0 W0 J Jx p sy a w):
 ∃sy',Seg X xs ok0 W0 J Jx p sy' a w∧((Region.wanted o (yielded opsA a.tmps)=true∧yes sy')∨(Region.wanted o (yielded opsA a.tmps)=false∧no sy')):=by
 obtain⟨ok,w0,st,h1,h3,h4,h5⟩:=hs;subst hops;have hg:=b2Y (yes:=fun st'=>∃sy',Sim (fun b=>w0.heap.size≤b∨ok b) st' sy'∧yes sy') (no:=fun st'=>∃sy',Sim (fun b=>w0.heap.size≤b∨ok b) st' sy'∧no sy') h h3 (fun st' sy' h1 h2=>⟨sy',h1,h2⟩) (fun st' sy' h1 h2=>⟨sy',h1,h2⟩);obtain⟨st1,hsm,_,hr1,hg⟩:=b6J (X:=cx X w0 []) hg h4;rcases hg with⟨hw,sy1,hs1,hy⟩|⟨hw,sy1,hs1,hn⟩
 ·exact⟨sy1,⟨ok,w0,st1,h1,hs1,hr1,h5⟩,.inl ⟨hw,hy⟩⟩
 ·exact⟨sy1,⟨ok,w0,st1,h1,hs1,hr1,h5⟩,.inr ⟨hw,hn⟩⟩
theorem d0v{sy:Sy}{p:Pre}{a:Act}{w:World}{dst:Option Nat}{K:Sy→Prop}(h:O5 X sy dst .und K)(hs:Seg X xs ok0 W0 J Jx p sy a w):∃sy',K sy'∧Seg X xs ok0 W0 J Jx p sy' (a.put dst undef) w:=by
 obtain⟨ok,w0,st,h1,h3,h4,h5⟩:=hs;obtain⟨st2,⟨sy2,hK2,hs2⟩,hr2,hH2⟩:=a1g h4 (D3 (w0:=w0) (bor:=[]) (s:=.v undef) h h3 (by simp only[j5])) (v:=undef) (.inr rfl);exact⟨sy2,hK2,ok,w0,st2,h1,hs2,hr2,h5⟩
theorem b1x(hP:POK X.P X.tt)(hJ:∀pre O A B,J pre O A→A.grownBy B none→J pre O B)(hY:b4G X xs ok0 W0 l n J Jx){ops:Array Oper}{Q:Exit→Act→World→Prop}:∀(rest:List Oper) (sy:Sy) (p:Pre) (a:Act) (w:World) (K:Sy→Pre→Prop),
 c1U X l xs ops.toList rest sy p K→Seg X xs ok0 W0 J Jx p sy a w→(∀sy' p' a' w',K sy' p'→Seg X xs ok0 W0 J Jx p' sy' a' w'→Q .normal a' w')→wpListIn Fence.wide (n+1) X.P ops Q rest a w
 |[],sy,p,a,w,K,h,hs,hQ=>hQ sy p a w h hs
 |o::rest,sy,p,a,w,K,h,hs,hQ=>by
  simp only[c1U]at h;split at h
  ·rename_i args hy;obtain⟨c,f,hopc,hcf,hca⟩:=b0J hy;obtain⟨sy1,hs1,hg⟩:=c5W (opsA:=ops) rfl h hs;rcases hg with⟨hw,hyes⟩|⟨hw,hno⟩
   ·simp only[wpListIn,hw,D2];exact c9n hP hJ hY (.inr ⟨c,f,hopc,hcf,hca⟩) hyes hs1 fun sy' p' a' w' hk hs'=>b1x hP hJ hY rest sy' p' a' w' K hk hs' hQ
   ·simp only[wpListIn,hw];obtain⟨sy2,hk,hs2⟩:=d0v hno hs1;exact⟨fun _ _=>trivial,b1x hP hJ hY rest sy2 p _ w K hk hs2 hQ⟩
  ·rw[d0x]at h;obtain⟨ok,w0,st,h1,h3,h4,h5⟩:=hs
   have hno:¬LetsOut fun e a w=>e=Exit.normal∧wpListIn Fence.wide (n+1) X.P ops Q rest a w:=by
    rintro⟨a,w,h,_⟩;cases h
   have h:=b2j (ops:=ops) (Q:=fun e a w=>e=Exit.normal∧wpListIn Fence.wide (n+1) X.P ops Q rest a w) (b7R h5.1) hP [o] st sy a w _ h h3 h4 fun st' sy' a' w' hk hs' hl=>
    ⟨rfl,b1x hP hJ hY rest sy' p a' w' K hk ⟨ok,w0,st',h1,hs',hl.rel,h5⟩ hQ⟩
   simp only[wpList]at h;simp only[wpListIn];split at h
   ·rename_i hw;rw[k9 hw];rcases h with h|⟨_,h⟩
    ·exact c4P (a4B (fun _ _ h=>h.2) h) hno (by rintro c a w ⟨h,_⟩;cases h)
    ·exact absurd h hno
   ·rename_i hw;rw[j6 hw];exact⟨fun _ _=>trivial,h.2⟩
theorem c7t(hP:POK X.P X.tt)(hJ:∀pre O A B,J pre O A→A.grownBy B none→J pre O B)(hY:b4G X xs ok0 W0 l n J Jx){yl:List (Nat×Nat)}(c:Code):∀(sy:Sy) (p:Pre) (a:Act) (w:World) (K:Exit→Sy→Pre→Prop) (Q:Exit→Act→World→Prop),
 a7u X l xs yl c sy p K→Seg X xs ok0 W0 J Jx p sy a w→(∀e sy' p' a' w',plain e→K e sy' p'→Seg X xs ok0 W0 J Jx p' sy' a' w'→Q e a' w')→c.wp X.P Q a w:=by
 induction c with
 |skip=>exact fun sy p a w K Q h hs hQ=>wp_skip (hQ .normal sy p a w trivial h hs)
 |label l=>exact fun sy p a w K Q h hs hQ=>wp_label (hQ .normal sy p a w trivial h hs)
 |exit id=>exact fun sy p a w K Q h hs hQ=>wp_exit (hQ (.exit id) sy p a w trivial h hs)
 |ret=>exact fun sy p a w K Q h hs hQ=>wp_ret (hQ .ret sy p a w trivial h hs)
 |region id ops draw=>
  intro sy p a w K Q h hs hQ;cases draw with
  |false=>exact(wpIn_wide (n:=n+1)).1 (wpIn_region_list (b1x hP hJ hY ops.toList sy p a w _ h hs fun sy' p' a' w' hk hs'=>hQ .normal sy' p' a' w' trivial hk hs'))
  |true=>
   simp only[a7u]at h;split at h
   ·split at h
    ·rename_i pl _ j _;obtain⟨hch,hpl,h⟩:=h;obtain⟨ok,w0,st,h1,hsim,hrel,h5⟩:=hs;obtain⟨T,H,nk⟩:=sy;obtain⟨T',H',nk',ws,lo,iv⟩:=st;have hex:ops.extract 0 j=(ops.toList.take j).toArray:=by apply N8;simp
     have htk:(ops.extract 0 j).toList=ops.toList.take j:=by simp
     rw[←hex]at hpl;simp only[←htk]at h;have hx:=a2G (w0:=w0) (bor:=[]) (b7R (ok:=ok) (w0:=w0) h5.1) hP _ h (b5W (ops:=(ops.extract 0 j).toList) hsim)
     have hjs:j≤ops.size:=by
      simp only[a9z,D7]at hch;exact a5j (a4p.mp hch.2.2.2.2)
     have hany:=a4F (X:=cx X w0 []) (Q:=fun e a w=>e=Exit.normal∧wpListIn Fence.wide (n+1) X.P ops Q (ops.toList.drop j) a w) hP hrel hpl hx fun st' a' w' ⟨sy',hk,hs'⟩ hl=>
      ⟨rfl,b1x hP hJ hY _ sy' p a' w' _ hk ⟨ok,w0,st',h1,hs',hl.rel,h5⟩ fun sy' p' a' w' hk hs'=>hQ .normal sy' p' a' w' trivial hk hs'⟩
     have hany:=b2i (n:=n+1) _ _ _ _ hany
     --the whole region at exits that are no panics
     have hcut:=d0A (n:=n+1) (Q:=Q) hch (fun a w h=>h) (ops.extract 0 j).size ops.size (Array.replicate (ops.extract 0 j).size false) (Array.replicate ops.size false) a { w with drawn:=w.drawn+1} (by simp;omega) (by simp) (fun i hi=>by
      rw[a4t (by simp;omega),a4t (by simp;omega)];simp) (fun i hi hi2=>by
      rw[a4t (by simp;omega)];simp) (fun m i hm=>by
      by_cases h:m<ops.size
      ·rw[a4t (by simpa using h)]at hm;simp at hm
      ·rw[b3T (by simpa using h)]at hm;cases hm) (by simp;omega) hany
     exact(wpIn_wide (n:=n+1)).1 (wpIn_region_any hP.mix hcut)
    ·exact c8i hP h hs fun e sy' a' w' hp hk hs'=>hQ e sy' p a' w' hp hk hs'
   ·exact h.elim
 |seq x y ihx ihy=>
  intro sy p a w K Q h hs hQ;refine wp_seq (ihx sy p a w _ _ h hs fun e sy1 p1 a1 w1 hp hk hs1=>?_);cases e with
  |normal=>exact ihy sy1 p1 a1 w1 K Q hk hs1 hQ
  |exit id=>exact hQ _ _ _ _ _ hp hk hs1
  |ret=>exact hQ _ _ _ _ _ hp hk hs1
  |goto l=>exact hp.elim
  |panic c=>exact hp.elim
  |outgrown=>exact hp.elim
 |cond c x y ihx ihy=>
  intro sy p a w K Q h hs hQ;simp only[a7u]at h;split at h
  ·rename_i b hcd;obtain⟨ok,w0,st,h1,hsim,hrel,h5⟩:=hs;obtain⟨s,g1,g2,_⟩:=o0 hsim hcd;have:=g2.sc;subst this;have hb:a.eval c=.bool b:=by simpa[den]using (hrel.ev c _ g1).2
   cases b with
   |true=>exact wp_cond_true hb (ihx sy p a w K Q h ⟨ok,w0,st,h1,hsim,hrel,h5⟩ hQ)
   |false=>exact wp_cond_false hb (ihy sy p a w K Q h ⟨ok,w0,st,h1,hsim,hrel,h5⟩ hQ)
  ·exact h.elim
 |block id c ih=>
  intro sy p a w K Q h hs hQ;refine wp_block (ih sy p a w _ _ h hs fun e sy1 p1 a1 w1 hp hk hs1=>?_);cases e with
  |normal=>exact hQ _ _ _ _ _ hp hk hs1
  |exit j=>
   simp only[Exit.inBlock];simp only at hk;split at hk
   ·rename_i hb;rw[k9 (z7 hb)];exact hQ .normal _ _ _ _ trivial hk hs1
   ·rename_i hb;rw[j6 (a3y hb)];exact hQ _ _ _ _ _ hp hk hs1
  |ret=>exact hQ _ _ _ _ _ hp hk hs1
  |goto l=>exact hp.elim
  |panic c=>exact hp.elim
  |outgrown=>exact hp.elim
 |scope c ih=>
  intro sy p a w K Q h hs hQ;refine wp_scope_straight (ih sy p a w K _ h hs fun e sy1 p1 a1 w1 hp hk hs1=>?_);cases e with
  |normal=>exact hQ _ _ _ _ _ hp hk hs1
  |exit j=>exact hQ _ _ _ _ _ hp hk hs1
  |ret=>exact hQ _ _ _ _ _ hp hk hs1
  |goto l=>exact hp.elim
  |panic c=>exact hp.elim
  |outgrown=>exact hp.elim
 |loop c ih=>
  intro sy p a w K Q h hs hQ;have h:b3N (a7u X l xs yl c) sy p K:=h;obtain⟨α,f,pf,inv,μ,⟨x0,hsub,rfl,hinv⟩,hround⟩:=h.ex
  have sub:∀ {sy sy':Sy}{p:Pre}{a:Act}{w:World},I1 sy sy'→Seg X xs ok0 W0 J Jx p sy a w→Seg X xs ok0 W0 J Jx p sy' a w:=by
   intro sy sy' p a w hsub ⟨ok,w0,st,h1,hsim,hrel,h5⟩;obtain⟨st0,hs0,hr0,_⟩:=hsub.rel (b7R (ok:=ok) (w0:=w0) h5.1) hsim hrel;exact⟨ok,w0,st0,h1,hs0,hr0,h5⟩
  refine(wpIn_wide (n:=n+1)).1 (wpIn_loop_ghost (fun m a1 w1=>∃x,μ x=m∧inv x∧Seg X xs ok0 W0 J Jx (some (pf x)) (f x) a1 w1) (μ x0) ⟨x0,rfl,hinv,sub hsub hs⟩ ?_);rintro m a1 w1 ⟨x,rfl,hinv1,hs1⟩;refine(wpIn_wide (n:=n+1)).2 (ih (f x) _ a1 w1 _ _ (hround x hinv1) hs1 fun e sy2 p2 a2 w2 hp hk hs2=>?_);cases e with
  |normal=>
   obtain⟨y,hsb,rfl,hi,hlt⟩:=hk;exact⟨μ y,hlt,y,rfl,hi,sub hsb hs2⟩
  |exit j=>exact hQ _ _ _ _ _ hp hk hs2
  |ret=>exact hQ _ _ _ _ _ hp hk hs2
  |goto l=>exact hp.elim
  |panic c=>exact hp.elim
  |outgrown=>exact hp.elim
 |_=>exact fun sy p a w K Q h hs hQ=>(h:False).elim
end
def d2L(xs:List (List D))(e:Exit)(_:Sy)(p:Pre):Prop:=match e with
 |.normal=>p=none∨p=some xs
 |.ret=>p=none∨p=some xs
 |_=>False
theorem d0a{X:Cy}(hP:POK X.P X.tt){f:FuncId}{fn:Func}{c:Code}(caps:List D)(xs:List (List D))(yl:List (Nat×Nat))(hf:X.P.funcs[f]?=some fn)(hb:fn.body=some c)(hn:X.nt=fn.ntmps)(hl:caps.length+1≤fn.ntmps)(hres:fn.results= #[])
 (h:∀l,a7u X l xs yl c ⟨a1Y 0 (.v (.func (.yield l) #[] #[])::caps),[],0⟩ (some []) (d2L xs)) (h0:X.dfs=[]:=by rfl) (hg:fn.ntmps≤L3:=by exact J6 rfl):a8W X.P f caps xs:=by
 intro ok O0 W vl n l J Jx hrep hok hO hgi hJ hJx hY hJ0;refine callsIn_wide.2 (calls_of_wp hf hb (c7t (ok0:=ok) (W0:=W) (l:=l) (n:=n) (J:=J) (Jx:=Jx) hP hJ hY c _ _ _ _ _ _ (h l) ?_ fun e sy' p' a' w' hp hk hs'=>?_))
 ·have hlen:=hrep.length
  obtain⟨g1,g2⟩:=b3e (X:=X) (ok:=ok) (w:=W) (a:= { tmps:=(#[.func (.yield l) #[] #[]]++vl.toArray)++Array.replicate (fn.ntmps-(#[Value.func (.yield l) #[] #[]]++vl.toArray).size) undef,defers:=[]}) (T:=a1Y 0 (.v (.func (.yield l) #[] #[])::caps)) (nk:=0)
   ⟨by simp[hn,←hlen];omega,hn▸hg⟩ h0.symm (fun b hb=>(hok b hb).1) (fun d x hx=>by
    right;have hr2:l5 ok W (.v (.func (.yield l) #[] #[])::caps) (.func (.yield l) #[] #[]::vl):=by simp only[l5,Rep];exact⟨⟨trivial,rfl⟩,hrep⟩
    obtain⟨_,h2⟩:=a2D hx;obtain⟨y,h3,h4⟩:=hr2.get h2;refine⟨y,?_,h4⟩;have hlt:=(P3.1 h3).1;rw[a6S (by simp at hlt⊢;omega)];have:(#[Value.func (.yield l) #[] #[]]++vl.toArray)=(Value.func (.yield l) #[] #[]::vl).toArray:=by apply N8;simp
    rw[this];simpa using h3)
  exact⟨ok,W,_,fun b hb=>⟨(hok b hb).1,.inl hb⟩,g1,g2,hgi,y6 _,O0,fun b hb=>⟨hO b hb,fun h=>(hok b h).2 hb⟩,hJ0⟩
 ·obtain⟨ok1,w0,st,h1,hsim,hrel,_,h5⟩:=hs';have hrun:=a2s (X:=cx X w0 []) hP.tt hrel (fn:=fn) (l:=[]) (by rw[hres];rfl);have hfx:=b3D (show Fx [] w0 w' from hrel.cls.fx0)
  have fin:(p'=none∨p'=some xs)→a'.defers=[]∧∃v,(results fn a'.tmps).run X.P w'=.ok v w'∧(∃v1,Ending.returned v=.returned v1)∧((∃O,J xs O w')∨∃pre,pre<+:xs∧Jx pre w'):=by
   intro hp';refine⟨hrel.dfs.trans h0,_,hrun,⟨_,rfl⟩,?_⟩;rcases hp' with rfl|rfl
   ·obtain⟨pre,h6,h7⟩:=h5;exact .inr ⟨pre,h6,hJx _ _ _ h7 hfx⟩
   ·obtain⟨_,O,_,h7⟩:=h5;exact .inl ⟨O,hJ _ _ _ _ h7 hfx⟩
  cases e with
  |normal=>exact fin hk
  |ret=>exact fin hk
  |exit id=>exact hk.elim
  |goto l=>exact hp.elim
  |panic c=>exact hp.elim
  |outgrown=>exact hp.elim
def U4{S E α:Type}(m:S→α→Option (Sum S E)):List α→S→Option (Sum S E)
 |[],s=>some (.inl s)
 |x::xs,s=>match m s x with
  |none=>none
  |some (.inl s')=>U4 m xs s'
  |some (.inr e)=>some (.inr e)
def emit{α R:Type}(x:α)(m:Option (List α×R)):Option (List α×R):=match m with|none=>none|some (l,r)=>some (x::l,r)
def b8f{α E R:Type}(m:Option (List α×E))(f:E→Option (List α×R)):Option (List α×R):=match m with
 |none=>none
 |some (l,e)=>match f e with
  |none=>none
  |some (l',r)=>some (l++l',r)
def a6w{S E α:Type}(body:S→Option (List α×Sum S E)):Nat→S→Option (List α×E)
 |0,_=>none
 |n+1,s=>match body s with
  |none=>none
  |some (l,.inl s')=>match a6w body n s' with
   |none=>none
   |some (l',e)=>some (l++l',e)
  |some (l,.inr e)=>some (l,e)
def b5D{S E α:Type}(body:S→Option (List α×Sum S E))(s:S):Option (List α×E):=a6w body a0X s
theorem b8R{α R:Type}{x:α}{m:Option (List α×R)}{r:List α×R}(h:emit x m=some r):∃r',m=some r'∧r.1=x::r'.1∧r.2=r'.2:=by
 unfold emit at h;split at h
 ·cases h
 ·cases h;exact⟨_,rfl,rfl,rfl⟩
theorem b5F{α E R:Type}{m:Option (List α×E)}{f:E→Option (List α×R)}{r:List α×R}(h:b8f m f=some r):∃e r',m=some e∧f e.2=some r'∧r.1=e.1++r'.1∧r.2=r'.2:=by
 unfold b8f at h;split at h
 ·cases h
 ·split at h
  ·cases h
  ·rename_i l' r' hf;cases h;exact⟨_,_,rfl,hf,rfl,rfl⟩
theorem b6g{S E α:Type}{body:S→Option (List α×Sum S E)}{n:Nat}{s:S}{e:List α×E}(h:a6w body n s=some e):∃m b t,n=m+1∧body s=some b∧e.1=b.1++t∧(match b.2 with
 |.inl s'=>∃e',a6w body m s'=some e'∧t=e'.1∧e.2=e'.2
 |.inr x=>t=[]∧e.2=x):=by
 cases n with
 |zero=>cases h
 |succ n=>
  simp only[a6w]at h;split at h
  ·cases h
  ·rename_i l s' hb;split at h
   ·cases h
   ·rename_i l' e' he;cases h;exact⟨n,_,_,rfl,hb,rfl,_,he,rfl,rfl⟩
  ·rename_i l x hb;cases h;exact⟨n,_,[],rfl,hb,by simp,rfl,rfl⟩
structure Hp3{α:Type}(enc:α→List D)(q:List (List D))(l:List α)(post xs:List (List D)):Prop where
 eq:q++l.map enc++post=xs
section
variable {α : Type}{enc : α → List D}{q post xs : List (List D)}{l l' : List α}{x : α}
theorem Hp3.emit(h:Hp3 enc q l post xs)(hl:l=x::l'):Hp3 enc (q++ [enc x]) l' post xs:=⟨by rw[←h.eq,hl];simp⟩
theorem Hp3.pre(h:Hp3 enc q l post xs)(hl:l=x::l'):q++ [enc x]<+:xs:=⟨l'.map enc++post,by rw[←h.eq,hl];simp⟩
theorem Hp3.in1{l1 l2:List α}(h:Hp3 enc q l post xs)(hl:l=l1++l2):Hp3 enc q l1 (l2.map enc++post) xs:=⟨by rw[←h.eq,hl];simp⟩
theorem Hp3.out(h:Hp3 enc q l (l'.map enc++post) xs)(hl:l=[]):Hp3 enc q l' post xs:=⟨by rw[←h.eq,hl];simp⟩
theorem Hp3.done(h:Hp3 enc q l [] xs)(hl:l=[]):q=xs:=by rw[←h.eq,hl];simp
end
theorem b3N.of{body:Sy→Pre→(Exit→Sy→Pre→Prop)→Prop}{st:Sy}{q:List (List D)}{K:Exit→Sy→Pre→Prop}{α:Type}(f:α→Sy)(inv:α→List (List D)→Prop)(μ:α→Nat)(x0:α)(hi:inv x0 q)(h0:I1 st (f x0))
 (h:∀x q,inv x q→body (f x) (some q) fun e st2 p2=>match e with
  |.normal=>∃y q',I1 st2 (f y)∧p2=some q'∧inv y q'∧μ y<μ x
  |e=>K e st2 p2):b3N body st (some q) K:=by
 refine⟨⟨α×List (List D),fun x=>f x.1,fun x=>x.2,fun x=>inv x.1 x.2,fun x=>μ x.1,⟨(x0,q),h0,rfl,hi⟩,fun x hx=>?_⟩⟩;have:=h x.1 x.2 hx
 have mono:(fun(e:Exit) (st2:Sy) (p2:Pre)=>match e with
  |.normal=>∃y q',I1 st2 (f y)∧p2=some q'∧inv y q'∧μ y<μ x.1
  |e=>K e st2 p2)=fun e st2 p2=>match e with
  |.normal=>∃y:α×List (List D),I1 st2 (f y.1)∧p2=some y.2∧inv y.1 y.2∧μ y.1<μ x.1
  |e=>K e st2 p2:=by
  funext e st2 p2;cases e<;>simp
 exact(mono▸this:_)
theorem b2w.of{X:Cy}{l:Nat}{xs:List (List D)}{st:Sy}{o:Oper}{args:List Operand}{q:List (List D)}{K:Sy→Pre→Prop}{x x':List D}(h1:b4I st o=some (.v (.func (.yield l) #[] #[])))(h2:b0S st args=some x)(h3:a2Q st (.tup x) fun y=>y=.tup x')(h4:q++ [x']<+:xs)
 (h5:O5 X ⟨b7d st.T,[],st.nk⟩ o.dst (.v (.bool true)) fun st=>K st (some (q++ [x']))) (h6:O5 X ⟨c2R st.T,[],st.nk⟩ o.dst (.v (.bool false)) fun st=>K st none):b2w X l xs st o args (some q) K:=⟨⟨q,x,x',h1,rfl,h2,h3,h4,h5,h6⟩⟩
theorem a6M.of{X:Cy}{l:Nat}{xs:List (List D)}{st:Sy}{o:Oper}{args:List Operand}{q:List (List D)}{K:Sy→Pre→Prop}{x x':List D}(h1:b4I st o=some (.v (.func (.yield l) #[] #[])))(h2:b0S st args=some x)(h3:a2Q st (.tup x) fun y=>y=.tup x')(h4:q++ [x']<+:xs)
 (h5:O5 X ⟨b7d st.T,[],st.nk⟩ o.dst (.v (.bool true)) fun st=>K st (some (q++ [x']))) (h6:O5 X ⟨c2R st.T,[],st.nk⟩ o.dst (.v (.bool false)) fun st=>K st none):a6M X l xs st o args (some q) K:=⟨[],st,rfl,b2w.of h1 h2 h3 h4 h5 h6⟩
theorem a6M.fz{X:Cy}{l:Nat}{xs:List (List D)}{st st0:Sy}{o:Oper}{args:List Operand}{p:Pre}{K:Sy→Pre→Prop}(ks:List Nat)(h:a5f ks st []=some (st0,[]))(hz:b2w X l xs st0 o args p K):a6M X l xs st o args p K:=⟨ks,st0,h,hz⟩
theorem c1s{P:Program}{tt:List (Nat×TI)}(hP:POK P tt){g:Nat}{fn:Func}{c:Code}(hfn:P.funcs[g]?=some fn)(hb:fn.body=some c):∀args w,(callFunc g args).run P w=.ok (.enter g args) w:=by
 intro args w;have hng:=hP.ng g fn hfn;simp only[callFunc,y9,run_program,hfn,I9];simp[hng,hb]
def c3K(fz:List Nat):List (Nat×D)→Bool
 |[]=>true
 |(d,_)::T=>match O2 d fz with|true=>c3K fz T|false=>false
theorem b1v{fz:List Nat}{d:Nat}{x:D}:∀ {T:List (Nat×D)},c3K fz T=true→u0 T d=some x→d∈fz
 |[],_,h=>by cases h
 |(e,y)::T,h,hx=>by
  simp only[c3K]at h;simp only[u0]at hx;split at h
  ·rename_i hm;split at hx
   ·rename_i hb;obtain rfl:=z7 hb;exact E1.1 hm
   ·exact b1v h hx
  ·cases h
theorem c1J{S E α:Type}{m:S→α→Option (Sum S E)}:∀(l:List α) (x:α) (r:List α) (s:S) {s1:S}{ev:Sum S E},U4 m l s=some (.inl s1)→U4 m (l++x::r) s=some ev→∃b,m s1 x=some b∧U4 m (l++ [x]) s=some b:=by
 intro l x r s s1 ev h1 h2
 induction l generalizing s with
 |nil=>
  simp only[U4]at h1;cases h1;simp only[a2B,U4]at h2⊢;cases hm:m s1 x with
  |none=>rw[hm]at h2;cases h2
  |some b=>refine⟨b,rfl,?_⟩;cases b<;>rfl
 |cons y l ih=>
  simp only[U4,a1l]at h1 h2⊢;cases hm:m s y with
  |none=>rw[hm]at h1;cases h1
  |some b=>
   rw[hm]at h1 h2;cases b with
   |inl s'=>exact ih s' h1 h2
   |inr e=>cases h1
theorem a6A.of{X:Cy}{g:Operand}{ps:Array Tmp}{assign body:Code}{st:Sy}{K:Exit→Sy→Prop}{α S E:Type}{gf:FuncId}{caps:List D}(enc:α→List D)(xs:List α)(m:S→α→Option (Sum S E))(f:S→Sy)(fe:E→Sy)(ex:E→Exit)(s0:S)(ev:Sum S E)
 (fz:List Nat) (hit:a8W X.P gf caps (xs.map enc)) (hm:U4 m xs s0=some ev) (heg:∀args w,(callFunc gf args).run X.P w=.ok (.enter gf args) w)
 (hg:evY st g=some (.fn gf [] caps)) (hcl:U3 caps=true) (hps:∀x,(enc x).length=ps.size) (hasg:P8 fz assign=true) (hr:P8 fz body=true) (hf:b0z fz ps.toList=true) (hdom:∀s,c3K fz (f s).T=true) (hdome:∀e,c3K fz (fe e).T=true)
 (hsub:I1 st (f s0)) (hdone:∀s,ev=.inl s→K .normal (f s)) (hstop:∀s,ev=.inr s→K (ex s) (fe s)) (hex:∀e,ex e=.ret∨∃id,ex e=.exit id)
 (hround:∀s x b,m s x=some b→b8o { X with dfs:=[]} ps.toList (enc x) (f s) fun st1=>S0 { X with dfs:=[]} assign st1<|b4E { X with dfs:=[]} body fun e sy=>match e with
  |.normal=>∃s',b=.inl s'∧I1 sy (f s')
  |.ret=>∃s',b=.inr s'∧ex s'=.ret∧I1 sy (fe s')
  |.exit id=>∃s',b=.inr s'∧ex s'=.exit id∧I1 sy (fe s')
  |_=>False):a6A X g ps assign body st K:=by
 have key:∀(pre:List (List D)) (x:List D),pre++ [x]<+:xs.map enc→∃y r,x=enc y∧xs=xs.take pre.length++y::r∧xs.take (pre.length+1)=xs.take pre.length++ [y]:=by
  rintro pre x ⟨t,ht⟩
  have hlt:pre.length<xs.length:=by
   have:=Y7 List.length ht;simp at this;omega
  refine⟨xs[pre.length],xs.drop (pre.length+1),?_,?_,?_⟩
  ·have h1:(xs.map enc)[pre.length]?=some x:=by rw[←ht];simp
   rw[List.getElem?_map,J7 hlt]at h1;exact(E0 h1).symm
  ·rw[←b6l hlt,b0m]
  ·rw[List.take_add_one,J7 hlt];rfl
 --a round that stops:its way out is the whole's
 have stop:∀(l:List α) (y:α) (r:List α) (e:E) (s:S),U4 m (l++ [y]) s=some (.inr e)→U4 m (l++y::r) s=some (.inr e):=by
  intro l y r e s
  induction l generalizing s with
  |nil=>
   intro h;simp only[a2B,U4]at h⊢;cases hb:m s y with
   |none=>rw[hb]at h;cases h
   |some b=>
    rw[hb]at h;cases b with
    |inl s'=>cases h
    |inr e'=>exact h
  |cons z l ih=>
   intro h;simp only[a1l,U4]at h⊢;cases hb:m s z with
   |none=>rw[hb]at h;cases h
   |some b=>
    rw[hb]at h;cases b with
    |inl s'=>exact ih s' h
    |inr e'=>exact h
 refine⟨⟨gf,caps,xs.map enc,fz,Sum S E,fun s=>match s with|.inl s=>f s|.inr e=>fe e,fun _ s=>match s with|.inl s=>f s|.inr e=>fe e,
  fun pre s=>∃s',s=.inl s'∧U4 m (xs.take pre.length) s0=some (.inl s'),fun e _ s=>∃s',s=.inr s'∧ex s'=e∧ev=.inr s',.inl s0,hg,hcl,hit,heg,?_,hasg,hr,hf,hsub,⟨s0,rfl,rfl⟩,?_,?_,?_,?_,?_⟩⟩
 ·intro x hx;obtain⟨y,_,rfl⟩:=L6.1 hx;exact hps y
 ·intro s d x hx;cases s with
  |inl s=>exact b1v (hdom s) hx
  |inr s=>exact b1v (hdome s) hx
 ·intro e s d x hx;cases s with
  |inl s=>exact b1v (hdom s) hx
  |inr s=>exact b1v (hdome s) hx
 ·rintro pre s x hpre ⟨s',rfl,hl⟩;obtain⟨y,r,rfl,e2,e3⟩:=key _ _ hpre;obtain⟨b,hb,hb2⟩:=c1J _ y r s0 hl (e2▸hm);have hlen:(pre++ [enc y]).length=pre.length+1:=by simp
  refine⟨_,fun e sy h=>?_,hround s' y b hb⟩
  ·
   have hout:∀s',b=.inr s'→ev=.inr s':=by
    intro s' hbs;subst hbs;have:=stop _ y r s' s0 hb2;rw[←e2,hm]at this;exact E0 this
   cases e with
   |normal=>
    obtain⟨s2,rfl,h2⟩:=h;exact⟨.inl s2,⟨s2,rfl,by rw[hlen,e3];exact hb2⟩,h2⟩
   |ret=>
    obtain⟨s2,h1,h2,h3⟩:=h;exact⟨.inr s2,⟨s2,rfl,h2,hout s2 h1⟩,h3⟩
   |exit id=>
    obtain⟨s2,h1,h2,h3⟩:=h;exact⟨.inr s2,⟨s2,rfl,h2,hout s2 h1⟩,h3⟩
   |_=>exact h.elim
 ·rintro s ⟨s',rfl,hr⟩;rw[b0O,a8u]at hr;rw[hm]at hr;exact hdone s' (E0 hr)
 ·rintro e pre s hpre ⟨s',rfl,rfl,h2⟩ he;exact hstop s' h2
def c5X(X:Cy)(ops:List Oper)(l:List Oper):Sy→(Sy→Prop)→Prop:=by
 induction l with
 |nil=>exact fun st K=>K st
 |cons o rest ih=>exact fun st K=>a3M ops o.guard st (fun st=>b3y X st o fun st=>ih st K) (fun st=>O5 X st o.dst .und fun st=>ih st K)
theorem d0b(X:Cy)(ops l:List Oper):c5X X ops l=fun st K=>c0a X ops l st K:=by
 induction l with
 |nil=>rfl
 |cons o rest ih=>
  funext st K;show a3M ops o.guard st (fun st=>b3y X st o fun st=>c5X X ops rest st K) (fun st=>O5 X st o.dst .und fun st=>c5X X ops rest st K)=_;rw[ih];rfl
def b0u(X:Cy)(ops:List Oper)(p:PT):Sy→List (Nat×Option Nat)→(Sy→Prop)→Prop:=by
 induction p with
 |nil=>exact fun st _ K=>K st
 |op i S fl rest ih=>exact fun st pr K=>match b4b ops i with
  |some o=>a3M ops o.guard st
   (fun st=>b8D X ops rest i S fl pr o st fun st pr=>ih st pr K)
   (fun st=>O5 X st o.dst .und fun st=>ih st pr K)
  |none=>False
 |fork a b iha ihb=>exact fun st pr K=>iha st pr K∧ihb st pr K
theorem c1W(X:Cy)(ops:List Oper)(p:PT):b0u X ops p=fun st pr K=>a8r X ops p st pr K:=by
 induction p with
 |nil=>rfl
 |op i S fl rest ih=>
  funext st pr K
  show(match b4b ops i with
   |some o=>a3M ops o.guard st (fun st=>b8D X ops rest i S fl pr o st fun st pr=>b0u X ops rest st pr K) (fun st=>O5 X st o.dst .und fun st=>b0u X ops rest st pr K)
   |none=>False)=_
  rw[ih];rfl
 |fork a b iha ihb=>
  funext st pr K;show(b0u X ops a st pr K∧b0u X ops b st pr K)=_;rw[iha,ihb];rfl
def O1(X:Cy)(c:Code):Sy→(Exit→Sy→Prop)→Prop:=by
 induction c with
 |skip=>exact fun st K=>K .normal st
 |region id ops draw=>exact fun st K=>match draw with
  |false=>c5X X ops.toList ops.toList st (K .normal)
  |true=>match c0K X.pl id with
   |some p=>a7C X.tt X.nt ops p=true∧(match st with|⟨T,H,nk⟩=>a7P ops.toList T fun T=>b0u X ops.toList p ⟨T,H,nk⟩ [] (K .normal))
   |none=>False
 |seq a b iha ihb=>exact fun st K=>iha st fun e st'=>match e with
  |.normal=>ihb st' K
  |e=>K e st'
 |cond c t e iht ihe=>exact fun st K=>match evY st c with
  |some (.v (.bool b))=>VIf b (iht st K) (ihe st K)
  |_=>False
 |block id c ih=>exact fun st K=>ih st fun e st'=>match e with
  |.exit j=>match Nat.beq j id with
   |true=>K .normal st'
   |false=>K (.exit j) st'
  |e=>K e st'
 |loop c ih=>exact fun st K=>B1 ih st K
 |exit id=>exact fun st K=>K (.exit id) st
 |ret=>exact fun st K=>K .ret st
 |scope c ih=>exact fun st K=>ih st K
 |label _=>exact fun st K=>K .normal st
 |_=>exact fun _ _=>False
theorem a0Y(X:Cy)(c:Code):O1 X c=fun st K=>S0 X c st K:=by
 induction c with
 |region id ops draw=>
  funext st K;show(match draw with
  |false=>c5X X ops.toList ops.toList st (K .normal)
  |true=>match c0K X.pl id with
   |some p=>a7C X.tt X.nt ops p=true∧(match st with|⟨T,H,nk⟩=>a7P ops.toList T fun T=>b0u X ops.toList p ⟨T,H,nk⟩ [] (K .normal))
   |none=>False)=_
  simp only[d0b,c1W,b2R];rfl
 |seq a b iha ihb=>
  funext st K;show(O1 X a st fun e st'=>match e with|.normal=>O1 X b st' K|e=>K e st')=_
  rw[iha,ihb];rfl
 |cond c t e iht ihe=>
  funext st K;show(match evY st c with|some (.v (.bool b))=>VIf b (O1 X t st K) (O1 X e st K)|_=>False)=_
  rw[iht,ihe];rfl
 |block id c ih=>
  funext st K;show(O1 X c st fun e st'=>match e with|.exit j=>(match Nat.beq j id with|true=>K .normal st'|false=>K (.exit j) st')|e=>K e st')=_
  rw[ih];rfl
 |loop c ih=>
  funext st K;show B1 (O1 X c) st K=_;rw[ih];rfl
 |scope c ih=>
  funext st K;show O1 X c st K=_;rw[ih];rfl
 |_=>rfl
theorem b1Q{X:Cy}{c:Code}{st:Sy}{K:Exit→Sy→Prop}(h:O1 X c st K):S0 X c st K:=by rw[a0Y]at h;exact h
def c4Q(X:Cy)(body:Code)(K:Exit→Sy→Prop):Exit→Sy→Prop
 |.normal,st=>O1 X body st K
 |_,_=>False
theorem c3J(X:Cy)(body:Code)(K:Exit→Sy→Prop):c4Q X body K=b4E X body K:=by
 funext e st;cases e<;>first|rfl|(show O1 X body st K=_;rw[a0Y];rfl)
def a9d(X:Cy)(c:Code):Sy→(Exit→Sy→Prop)→Prop:=by
 induction c with
 |seq a b iha ihb=>exact fun st K=>iha st fun e st'=>match e with
  |.normal=>ihb st' K
  |e=>K e st'
 |block id c ih=>exact fun st K=>ih st fun e st'=>match e with
  |.exit j=>(match Nat.beq j id with|true=>K .normal st'|false=>K (.exit j) st')
  |e=>K e st'
 |cond c t e iht ihe=>exact fun st K=>match evY st c with
  |some (.v (.bool b))=>VIf b (iht st K) (ihe st K)
  |_=>False
 |scope c ih=>exact fun st K=>ih st K
 |rangeFunc g ps assign body=>exact fun st K=>a6A X g ps assign body st K
 |skip=>exact fun st K=>∀ds,O1 { X with dfs:=ds} .skip st K
 |region id ops draw=>exact fun st K=>∀ds,O1 { X with dfs:=ds} (.region id ops draw) st K
 |loop c=>exact fun st K=>∀ds,O1 { X with dfs:=ds} (.loop c) st K
 |exit id=>exact fun st K=>∀ds,O1 { X with dfs:=ds} (.exit id) st K
 |ret=>exact fun st K=>∀ds,O1 { X with dfs:=ds} .ret st K
 |label l=>exact fun st K=>∀ds,O1 { X with dfs:=ds} (.label l) st K
 |_=>exact fun st K=>List Deferred→False
theorem c5t(X:Cy)(c:Code):a9d X c=fun st K=>a9x X c st K:=by
 induction c with
 |seq a b iha ihb=>
  funext st K;show(a9d X a st fun e st'=>match e with|.normal=>a9d X b st' K|e=>K e st')=_
  rw[iha,ihb];rfl
 |cond c t e iht ihe=>
  funext st K;show(match evY st c with|some (.v (.bool b))=>VIf b (a9d X t st K) (a9d X e st K)|_=>False)=_
  rw[iht,ihe];rfl
 |block id c ih=>
  funext st K;show(a9d X c st fun e st'=>match e with|.exit j=>(match Nat.beq j id with|true=>K .normal st'|false=>K (.exit j) st')|e=>K e st')=_
  rw[ih];rfl
 |scope c ih=>
  funext st K;show a9d X c st K=_;rw[ih];rfl
 |rangeFunc=>rfl
 |skip=>funext st K;show(∀ds,O1 { X with dfs:=ds} .skip st K)=_;simp only[a0Y];rfl
 |region id ops draw=>funext st K;show(∀ds,O1 { X with dfs:=ds} (.region id ops draw) st K)=_;simp only[a0Y];rfl
 |loop c=>funext st K;show(∀ds,O1 { X with dfs:=ds} (.loop c) st K)=_;simp only[a0Y];rfl
 |exit id=>funext st K;show(∀ds,O1 { X with dfs:=ds} (.exit id) st K)=_;simp only[a0Y];rfl
 |ret=>funext st K;show(∀ds,O1 { X with dfs:=ds} .ret st K)=_;simp only[a0Y];rfl
 |label l=>funext st K;show(∀ds,O1 { X with dfs:=ds} (.label l) st K)=_;simp only[a0Y];rfl
 |_=>rfl
def b3v(X:Cy)(l:Nat)(xs:List (List D))(ops:List Oper)(r:List Oper):Sy→Pre→(Sy→Pre→Prop)→Prop:=by
 induction r with
 |nil=>exact fun st p K=>K st p
 |cons o rest ih=>exact fun st p K=>match a7A st o with
  |some args=>a3M ops o.guard st (fun st=>a6M X l xs st o args p fun st p=>ih st p K) (fun st=>O5 X st o.dst .und fun st=>ih st p K)
  |none=>c9D X ops o st fun st=>ih st p K
theorem c6R(X:Cy)(l:Nat)(xs:List (List D))(ops:List Oper)(r:List Oper):b3v X l xs ops r=fun st p K=>c1U X l xs ops r st p K:=by
 induction r with
 |nil=>rfl
 |cons o rest ih=>
  funext st p K
  show(match a7A st o with
   |some args=>a3M ops o.guard st (fun st=>a6M X l xs st o args p fun st p=>b3v X l xs ops rest st p K) (fun st=>O5 X st o.dst .und fun st=>b3v X l xs ops rest st p K)
   |none=>c9D X ops o st fun st=>b3v X l xs ops rest st p K)=_
  rw[ih];rfl
def a7M(X:Cy)(l:Nat)(xs:List (List D))(yl:List (Nat×Nat))(c:Code):Sy→Pre→(Exit→Sy→Pre→Prop)→Prop:=by
 induction c with
 |skip=>exact fun st p K=>K .normal st p
 |region id ops draw=>exact fun st p K=>match draw with
  |false=>b3v X l xs ops.toList ops.toList st p (K .normal)
  |true=>match c0K X.pl id with
   |some pl=>match c9q yl id with
    |some j=>a9z ops j=true∧a7C X.tt X.nt (ops.toList.take j).toArray pl=true∧(match st with|⟨T,H,nk⟩=>a7P (ops.toList.take j) T fun T=>b0u X (ops.toList.take j) pl ⟨T,H,nk⟩ [] fun st=>b3v X l xs ops.toList (ops.toList.drop j) st p (K .normal))
    |none=>O1 X (.region id ops true) st fun e st=>K e st p
   |none=>False
 |seq a b iha ihb=>exact fun st p K=>iha st p fun e st' p'=>match e with
  |.normal=>ihb st' p' K
  |e=>K e st' p'
 |cond c t e iht ihe=>exact fun st p K=>match evY st c with
  |some (.v (.bool b))=>VIf b (iht st p K) (ihe st p K)
  |_=>False
 |block id c ih=>exact fun st p K=>ih st p fun e st' p'=>match e with
  |.exit j=>match Nat.beq j id with
   |true=>K .normal st' p'
   |false=>K (.exit j) st' p'
  |e=>K e st' p'
 |loop c ih=>exact fun st p K=>b3N ih st p K
 |exit id=>exact fun st p K=>K (.exit id) st p
 |ret=>exact fun st p K=>K .ret st p
 |scope c ih=>exact fun st p K=>ih st p K
 |label _=>exact fun st p K=>K .normal st p
 |_=>exact fun _ _ _=>False
theorem c5E(X:Cy)(l:Nat)(xs:List (List D))(yl:List (Nat×Nat))(c:Code):a7M X l xs yl c=fun st p K=>a7u X l xs yl c st p K:=by
 induction c with
 |region id ops draw=>
  funext st p K;show(match draw with
  |false=>b3v X l xs ops.toList ops.toList st p (K .normal)
  |true=>match c0K X.pl id with
   |some pl=>match c9q yl id with
    |some j=>a9z ops j=true∧a7C X.tt X.nt (ops.toList.take j).toArray pl=true∧(match st with|⟨T,H,nk⟩=>a7P (ops.toList.take j) T fun T=>b0u X (ops.toList.take j) pl ⟨T,H,nk⟩ [] fun st=>b3v X l xs ops.toList (ops.toList.drop j) st p (K .normal))
    |none=>O1 X (.region id ops true) st fun e st=>K e st p
   |none=>False)=_
  simp only[c6R,c1W,a0Y,b2R];rfl
 |seq a b iha ihb=>
  funext st p K;show(a7M X l xs yl a st p fun e st' p'=>match e with|.normal=>a7M X l xs yl b st' p' K|e=>K e st' p')=_
  rw[iha,ihb];rfl
 |cond c t e iht ihe=>
  funext st p K;show(match evY st c with|some (.v (.bool b))=>VIf b (a7M X l xs yl t st p K) (a7M X l xs yl e st p K)|_=>False)=_
  rw[iht,ihe];rfl
 |block id c ih=>
  funext st p K;show(a7M X l xs yl c st p fun e st' p'=>match e with|.exit j=>(match Nat.beq j id with|true=>K .normal st' p'|false=>K (.exit j) st' p')|e=>K e st' p')=_
  rw[ih];rfl
 |loop c ih=>
  funext st p K;show b3N (a7M X l xs yl c) st p K=_;rw[ih];rfl
 |scope c ih=>
  funext st p K;show a7M X l xs yl c st p K=_;rw[ih];rfl
 |_=>rfl
def b9E(X:Cy)(n:Nat):Code→Sy→(Exit→Sy→Prop)→(Sy→Prop)→Prop:=by
 induction n with
 |zero=>exact fun _ st _ KT=>KT st
 |succ n ih=>exact fun c st K KT=>match c with
  |.seq a b=>O1 X a st fun e st'=>match e with
   |.normal=>ih b st' K KT
   |e=>K e st'
  |_=>False
theorem b8u(X:Cy)(n:Nat):b9E X n=fun c st K KT=>c0x X n c st K KT:=by
 induction n with
 |zero=>rfl
 |succ n ih=>
  funext c st K KT;cases c with
  |seq a b=>
   show(O1 X a st fun e st'=>match e with|.normal=>b9E X n b st' K KT|e=>K e st')=_
   rw[ih,a0Y];rfl
  |_=>rfl
theorem c9C{X:Cy}(hP:POK X.P X.tt){f:FuncId}{fn:Func}{c:Code}(args:List D){Qr:D→Prop}(hf:X.P.funcs[f]?=some fn)(hb:fn.body=some c)(hn:X.nt=fn.ntmps)(hl:args.length≤fn.ntmps)
 (h:O1 X c ⟨a1Y 0 args,[],0⟩ (c3z X fn.results.toList Qr)) (h0:X.dfs=[]:=by rfl) (hg:fn.ntmps≤L3:=by exact J6 rfl):p0 X.P f args Qr:=
 d1F hP args hf hb hn hl (b1Q h) h0 hg
theorem c5i{X:Cy}(hP:POK X.P X.tt){f:FuncId}{fn:Func}{c:Code}(args:List D){Qr:D→Prop}(hf:X.P.funcs[f]?=some fn)(hb:fn.body=some c)(hn:X.nt=fn.ntmps)(hl:args.length≤fn.ntmps)
 (h:a9d X c ⟨a1Y 0 args,[],0⟩ (c3z X fn.results.toList Qr)) (hg:fn.ntmps≤L3:=by exact J6 rfl):p0 X.P f args Qr:=
 d1I hP args hf hb hn hl (by rw[c5t]at h;exact h) hg
theorem c5b{X:Cy}(hP:POK X.P X.tt){f:FuncId}{fn:Func}{c:Code}(args:List D){rows:List (Nat×Nat×List D×TypeId)}{cells:List D}(hf:X.P.funcs[f]?=some fn)(hb:fn.body=some c)(hn:X.nt=fn.ntmps)(hl:args.length≤fn.ntmps)(hfl:B4 cells=true)
 (h:O1 X c ⟨a1Y 0 args,[],0⟩ (c8R X fn.results.toList rows cells)) (h0:X.dfs=[]:=by rfl) (hg:fn.ntmps≤L3:=by exact J6 rfl):b8m X.P f args rows cells:=
 d1X hP args hf hb hn hl hfl (b1Q h) h0 hg
theorem c5h{X:Cy}(hP:POK X.P X.tt){f:FuncId}{fn:Func}{c:Code}(args:List D){z n:Nat}{l:List D}{ty:TypeId}(hf:X.P.funcs[f]?=some fn)(hb:fn.body=some c)(hn:X.nt=fn.ntmps)(hl:args.length≤fn.ntmps)
 (h:O1 X c ⟨a1Y 0 args,[],0⟩ (b6o X fn.results.toList z n l ty)) (h0:X.dfs=[]:=by rfl) (hg:fn.ntmps≤L3:=by exact J6 rfl):b8M X.P f args z n l ty:=
 d1l hP args hf hb hn hl (b1Q h) h0 hg
theorem a3r.ofZ{X:Cy}{f:FuncId}{args:List D}{dst:Option Nat}{st:Sy}{K:Sy→Prop}(hP:POK X.P X.tt)(st0 st1:Sy)(pl:List (Nat×PT))(ln un inl:List Nat){fn:Func}{c:Code}(hf:X.P.funcs[f]?=some fn)(hb:fn.body=some c)
 (hg:Nat.ble fn.ntmps 1000000=true) (hl:Nat.ble args.length fn.ntmps=true) (hs:I1 ⟨a1Y 0 args++a0p X.nt st.T,st.H,st.nk⟩ st0)
 (hbody:∀sv,O1 ⟨X.P,X.tt,fn.ntmps,pl,ln,un,[],inl,sv⟩ c st0 (c8A X ⟨X.P,X.tt,fn.ntmps,pl,ln,un,[],inl,[]⟩ fn.results.toList dst fun sy=>I1 sy st1)) (hk:K st1):a3r X f args dst st K:=
 a3r.ofP hP st0 st1 pl ln un inl hf hb hg hl hs (fun sv=>b1Q (hbody sv)) hk
theorem a6A.ofZ{X:Cy}{g:Operand}{ps:Array Tmp}{assign body:Code}{st:Sy}{K:Exit→Sy→Prop}{α S E:Type}{gf:FuncId}{caps:List D}(enc:α→List D)(xs:List α)(m:S→α→Option (Sum S E))(f:S→Sy)(fe:E→Sy)(ex:E→Exit)(s0:S)(ev:Sum S E)
 (fz:List Nat) (hit:a8W X.P gf caps (xs.map enc)) (hm:U4 m xs s0=some ev) (heg:∀args w,(callFunc gf args).run X.P w=.ok (.enter gf args) w)
 (hg:evY st g=some (.fn gf [] caps)) (hcl:U3 caps=true) (hps:∀x,(enc x).length=ps.size) (hasg:P8 fz assign=true) (hr:P8 fz body=true) (hf:b0z fz ps.toList=true) (hdom:∀s,c3K fz (f s).T=true) (hdome:∀e,c3K fz (fe e).T=true)
 (hsub:I1 st (f s0)) (hdone:∀s,ev=.inl s→K .normal (f s)) (hstop:∀s,ev=.inr s→K (ex s) (fe s)) (hex:∀e,ex e=.ret∨∃id,ex e=.exit id)
 (hround:∀s x b,m s x=some b→b8o { X with dfs:=[]} ps.toList (enc x) (f s) fun st1=>O1 { X with dfs:=[]} assign st1<|c4Q { X with dfs:=[]} body fun e sy=>match e with
  |.normal=>∃s',b=.inl s'∧I1 sy (f s')
  |.ret=>∃s',b=.inr s'∧ex s'=.ret∧I1 sy (fe s')
  |.exit id=>∃s',b=.inr s'∧ex s'=.exit id∧I1 sy (fe s')
  |_=>False):a6A X g ps assign body st K:=
 a6A.of enc xs m f fe ex s0 ev fz hit hm heg hg hcl hps hasg hr hf hdom hdome hsub hdone hstop hex fun s x b hb=>by
  have h:=hround s x b hb;simp only[a0Y,c3J]at h;exact h
theorem c2t{X:Cy}(hP:POK X.P X.tt){f:FuncId}{fn:Func}{c:Code}(caps:List D)(xs:List (List D))(yl:List (Nat×Nat))(hf:X.P.funcs[f]?=some fn)(hb:fn.body=some c)(hn:X.nt=fn.ntmps)(hl:caps.length+1≤fn.ntmps)(hres:fn.results= #[])
 (h:∀l,a7M X l xs yl c ⟨a1Y 0 (.v (.func (.yield l) #[] #[])::caps),[],0⟩ (some []) (d2L xs)) (h0:X.dfs=[]:=by rfl) (hg:fn.ntmps≤L3:=by exact J6 rfl):a8W X.P f caps xs:=
 d0a hP caps xs yl hf hb hn hl hres (fun l=>by have h:=h l;rw[c5E]at h;exact h) h0 hg
theorem c5J{X:Cy}(hP:POK X.P X.tt){f:FuncId}{fn:Func}{c:Code}{z n n':Nat}{l l':List D}{ty t:TypeId}{args:List D}{i ie:TI}{bytes:Nat}
 (hf:X.P.funcs[f]?=some fn) (hb:fn.body=some c) (hn:X.nt=fn.ntmps) (hl:args.length+1≤fn.ntmps) (htl:b2C t (b3u 4 c)) (hi:D4 X.tt t=some i) (hd:i.d=.slice ty z bytes) (hie:D4 X.tt ty=some ie) (hiz:ie.n=z) (h42:fn.ntmps=42) (hres:fn.results= #[.tmp 4])
 (h:b9E X 4 c ⟨a1Y 0 (.row 0 z::args),[(0,.row z n l ty)],1⟩ (b6o X fn.results.toList z n' l' ty) (d0Z z l' n' ty)) (h0:X.dfs=[]:=by rfl) (hg:fn.ntmps≤L3:=by exact J6 rfl):b5E X.P f z n l ty args z n' l':=
 c9l hP hf hb hn hl htl hi hd hie hiz h42 hres (by rw[b8u]at h;exact h) h0 hg
def JK(p:Prop)(K:Exit→Sy→Prop)(sh:Sy):Exit→Sy→Prop:=fun e st=>match e with
 |.normal=>p∧I1 st sh
 |e=>K e st
inductive b7H(t:(Exit→Sy→Prop)→Prop)(K:Exit→Sy→Prop):Prop
 |two (h:t K)
 |join (sh:Sy) (p:Prop) (h:t (JK p K sh)) (hk:p→K .normal sh)
def d1D(id:Nat)(K:Exit→Sy→Prop):Exit→Sy→Prop:=fun e st'=>match e with
 |.exit j=>match Nat.beq j id with
  |true=>K .normal st'
  |false=>K (.exit j) st'
 |e=>K e st'
noncomputable def d2N(l:List Oper):Bool:=by
 induction l with
 |nil=>exact false
 |cons o _ ih=>exact match o.guard with
  |some _=>true
  |none=>ih
def c6O(X:Cy)(id:Nat)(ops:Array Oper)(draw:Bool)(st:Sy)(K:Exit→Sy→Prop):Prop:=match draw with
 |false=>c5X X ops.toList ops.toList st (K .normal)
 |true=>match c0K X.pl id with
  |some p=>a7C X.tt X.nt ops p=true∧(match st with|⟨T,H,nk⟩=>a7P ops.toList T fun T=>b0u X ops.toList p ⟨T,H,nk⟩ [] (K .normal))
  |none=>False
def b3o(X:Cy)(c:Code):Sy→(Exit→Sy→Prop)→Prop:=by
 induction c with
 |skip=>exact fun st K=>K .normal st
 |region id ops draw=>exact fun st K=>match d2N ops.toList with
  |false=>c6O X id ops draw st K
  |true=>b7H (c6O X id ops draw st) K
 |seq a b iha ihb=>exact fun st K=>iha st fun e st'=>match e with
  |.normal=>ihb st' K
  |e=>K e st'
 |cond c t e iht ihe=>exact fun st K=>match evY st c with
  |some (.v (.bool b))=>b7H (fun K=>VIf b (iht st K) (ihe st K)) K
  |_=>False
 |block id c ih=>exact fun st K=>b7H (fun K=>ih st (d1D id K)) K
 |loop c ih=>exact fun st K=>B1 ih st K
 |exit id=>exact fun st K=>K (.exit id) st
 |ret=>exact fun st K=>K .ret st
 |scope c ih=>exact fun st K=>ih st K
 |label _=>exact fun st K=>K .normal st
 |_=>exact fun _ _=>False
section
variable {A : Nat → Prop}{X : Cy}{w0 : World}{bor : List Nat}
def OkJ(A:Nat→Prop)(X:Cy)(w0:World)(bor:List Nat)(c:Code)(t:Sy→(Exit→Sy→Prop)→Prop):Prop:=∀(st:St) (sy:Sy) (a:Act) (w:World) (K:Exit→Sy→Prop) (Q:Exit→Act→World→Prop),t sy K→Sim A st sy→Rel (cx X w0 bor) st a w→
 (∀e st' sy' a' w',plain e→K e sy'→Sim A st' sy'→Lv (cx X w0 bor) st.H w st' a' w'→Q e a' w')→c.wp X.P Q a w
theorem c4R(hA:AG A X.P w0 bor){c:Code}{t:Sy→(Exit→Sy→Prop)→Prop}(ih:OkJ A X w0 bor c t):OkJ A X w0 bor c fun sy K=>b7H (t sy) K:=by
 intro st sy a w K Q h hs hr hQ;cases h with
 |two h=>exact ih st sy a w K Q h hs hr hQ
 |join sh p h hk=>
  refine ih st sy a w _ Q h hs hr fun e st1 sy1 a1 w1 hp hk1 hs1 hl=>?_
  cases e with
  |normal=>
   have hsb:p∧I1 sy1 sh:=hk1;obtain⟨st3,hs3,hr3,hb3⟩:=hsb.2.rel hA hs1 hl.rel;exact hQ .normal st3 sh a1 w1 trivial (hk hsb.1) hs3 ⟨hr3,hl.fx,fun b hb=>hl.bs b (hb3 b hb)⟩
  |exit j=>exact hQ _ _ _ _ _ hp hk1 hs1 hl
  |ret=>exact hQ _ _ _ _ _ hp hk1 hs1 hl
  |goto l=>exact hp.elim
  |panic c=>exact hp.elim
  |outgrown=>exact hp.elim
theorem c7M(hA:AG A X.P w0 bor)(hP:POK X.P X.tt)(c:Code):OkJ A X w0 bor c (b3o X c):=by
 induction c with
 |skip=>exact fun st sy a w K Q h hs hr hQ=>wp_skip (hQ .normal st sy a w trivial h hs (Lv.refl hr))
 |label l=>exact fun st sy a w K Q h hs hr hQ=>wp_label (hQ .normal st sy a w trivial h hs (Lv.refl hr))
 |exit id=>exact fun st sy a w K Q h hs hr hQ=>wp_exit (hQ (.exit id) st sy a w trivial h hs (Lv.refl hr))
 |ret=>exact fun st sy a w K Q h hs hr hQ=>wp_ret (hQ .ret st sy a w trivial h hs (Lv.refl hr))
 |region id ops draw=>
  have reg:OkJ A X w0 bor (.region id ops draw) fun sy K=>c6O X id ops draw sy K:=fun st sy a w K Q h hs hr hQ=>by
   have h:O1 X (.region id ops draw) sy K:=h;exact a4m hA hP _ st sy a w K Q (b1Q h) hs hr hQ
  intro st sy a w K Q h hs hr hQ;have h:(match d2N ops.toList with|false=>c6O X id ops draw sy K|true=>b7H (c6O X id ops draw sy) K):=h
  split at h
  ·exact reg st sy a w K Q h hs hr hQ
  ·exact c4R hA reg st sy a w K Q h hs hr hQ
 |seq x y ihx ihy=>
  intro st sy a w K Q h hs hr hQ;refine wp_seq (ihx st sy a w _ _ h hs hr fun e st1 sy1 a1 w1 hp hk hs1 hl=>?_);cases e with
  |normal=>exact ihy st1 sy1 a1 w1 K Q hk hs1 hl.rel fun e st2 sy2 a2 w2 hp hk2 hs2 hl2=>hQ e st2 sy2 a2 w2 hp hk2 hs2 (Lv.trans hl hl2)
  |exit id=>exact hQ _ _ _ _ _ hp hk hs1 hl
  |ret=>exact hQ _ _ _ _ _ hp hk hs1 hl
  |goto l=>exact hp.elim
  |panic c=>exact hp.elim
  |outgrown=>exact hp.elim
 |cond c x y ihx ihy=>
  intro st sy a w K Q h hs hr hQ;have h:(match evY sy c with|some (.v (.bool b))=>b7H (fun K=>VIf b (b3o X x sy K) (b3o X y sy K)) K|_=>False):=h
  split at h
  ·rename_i b hc;obtain⟨s,h1,h2,_⟩:=o0 hs hc;have:=h2.sc;subst this;have hb:a.eval c=.bool b:=by simpa[den]using (hr.ev c _ h1).2
   have main:∀K':Exit→Sy→Prop,VIf b (b3o X x sy K') (b3o X y sy K')→(∀e st' sy' a' w',plain e→K' e sy'→Sim A st' sy'→Lv (cx X w0 bor) st.H w st' a' w'→Q e a' w')→(Code.cond c x y).wp X.P Q a w:=fun K' h hQ=>by
    cases b with
    |true=>exact wp_cond_true hb (ihx st sy a w K' Q h hs hr hQ)
    |false=>exact wp_cond_false hb (ihy st sy a w K' Q h hs hr hQ)
   cases h with
   |two h=>exact main K h hQ
   |join sh p h hk=>
    refine main _ h fun e st1 sy1 a1 w1 hp hk1 hs1 hl=>?_
    cases e with
    |normal=>
     have hsb:p∧I1 sy1 sh:=hk1;obtain⟨st3,hs3,hr3,hb3⟩:=hsb.2.rel hA hs1 hl.rel;exact hQ .normal st3 sh a1 w1 trivial (hk hsb.1) hs3 ⟨hr3,hl.fx,fun b hb=>hl.bs b (hb3 b hb)⟩
    |exit j=>exact hQ _ _ _ _ _ hp hk1 hs1 hl
    |ret=>exact hQ _ _ _ _ _ hp hk1 hs1 hl
    |goto l=>exact hp.elim
    |panic c=>exact hp.elim
    |outgrown=>exact hp.elim
  ·exact h.elim
 |block id c ih=>
  refine c4R hA (t:=fun sy K=>b3o X c sy (d1D id K)) ?_;intro st sy a w K Q h hs hr hQ;refine wp_block (ih st sy a w _ _ h hs hr fun e st1 sy1 a1 w1 hp hk hs1 hl=>?_);unfold d1D at hk;cases e with
  |normal=>exact hQ _ _ _ _ _ hp hk hs1 hl
  |exit j=>
   simp only[Exit.inBlock];simp only at hk;split at hk
   ·rename_i hb;rw[k9 (z7 hb)];exact hQ .normal _ _ _ _ trivial hk hs1 hl
   ·rename_i hb;rw[j6 (a3y hb)];exact hQ _ _ _ _ _ hp hk hs1 hl
  |ret=>exact hQ _ _ _ _ _ hp hk hs1 hl
  |goto l=>exact hp.elim
  |panic c=>exact hp.elim
  |outgrown=>exact hp.elim
 |scope c ih=>
  intro st sy a w K Q h hs hr hQ;refine wp_scope_straight (ih st sy a w K _ h hs hr fun e st1 sy1 a1 w1 hp hk hs1 hl=>?_);cases e with
  |normal=>exact hQ _ _ _ _ _ hp hk hs1 hl
  |exit j=>exact hQ _ _ _ _ _ hp hk hs1 hl
  |ret=>exact hQ _ _ _ _ _ hp hk hs1 hl
  |goto l=>exact hp.elim
  |panic c=>exact hp.elim
  |outgrown=>exact hp.elim
 |loop c ih=>
  intro st sy a w K Q h hs hr hQ;have h:B1 (b3o X c) sy K:=h;obtain⟨α,f,inv,μ,⟨x0,hsub,hinv⟩,hround⟩:=h.ex;obtain⟨st0,hs0,hr0,hb0⟩:=hsub.rel hA hs hr;refine wp_loop_ghost (fun n a1 w1=>∃x,μ x=n∧inv x∧∃st1,Sim A st1 (f x)∧Lv (cx X w0 bor) st.H w st1 a1 w1) (μ x0) ⟨x0,rfl,hinv,st0,hs0,hr0,Fx.refl _ _,fun b hb=>.inl (hb0 b hb)⟩ ?_;rintro n a1 w1 ⟨x,rfl,hinv1,st1,hs1,hlv⟩;refine ih st1 (f x) a1 w1 _ _ (hround x hinv1) hs1 hlv.rel fun e st2 sy2 a2 w2 hp hk hs2 hl=>?_
  have hl2:=Lv.trans hlv hl;cases e with
  |normal=>
   obtain⟨y,hsb,hi,hlt⟩:=hk;obtain⟨st3,hs3,hr3,hb3⟩:=hsb.rel hA hs2 hl2.rel;exact⟨μ y,hlt,y,rfl,hi,st3,hs3,hr3,hl2.fx,fun b hb=>hl2.bs b (hb3 b hb)⟩
  |exit j=>exact hQ _ _ _ _ _ hp hk hs2 hl2
  |ret=>exact hQ _ _ _ _ _ hp hk hs2 hl2
  |goto l=>exact hp.elim
  |panic c=>exact hp.elim
  |outgrown=>exact hp.elim
 |_=>intro st sy a w K Q h hs hr hQ;exact h.elim
end
theorem d0F{X:Cy}(hP:POK X.P X.tt){f:FuncId}{fn:Func}{c:Code}(args:List D){Qr:D→Prop}(hf:X.P.funcs[f]?=some fn)(hb:fn.body=some c)(hn:X.nt=fn.ntmps)(hl:args.length≤fn.ntmps)
 (h:b3o X c ⟨a1Y 0 args,[],0⟩ (c3z X fn.results.toList Qr)) (h0:X.dfs=[]:=by rfl) (hg:fn.ntmps≤L3:=by exact J6 rfl):p0 X.P f args Qr:=by
 intro ok w vl hrep hok hgi;have hA:=AG.nil ok hgi;refine calls_of_wp hf hb ((c7M (A:=fun b=>b<w.heap.size→ok b) (w0:=w) (bor:=[]) hA hP c) ⟨a4O 0 (vs vl),[],0,w,w.heap.size,[]⟩ ⟨a1Y 0 args,[],0⟩ _ _ _ _ h ?_ ?_ fun e st' sy' a' w' hp hk hs' hlv=>?_)
 ·refine⟨fun d x hx=>?_,fun k e he=>by simp[m7]at he,rfl,fun j _=>a3Q,fun _ _=>rfl⟩;obtain⟨_,h2⟩:=a2D hx;obtain⟨y,h3,h4⟩:=hrep.get h2;right;refine⟨.v y,a5H (L0 _) ?_,Rep.rel _ _ (Rep.mono (fun b hb=>⟨⟨⟨.inl (hok b hb),fun _=>hb⟩,hok b hb,fun c hc=>by simp[bs]at hc⟩,rfl⟩) _ _ h4)⟩
  have:∀(l:List Value) (j:Nat),(vs l)[j]?=(l[j]?).map .v:=by
   intro l
   induction l with
   |nil=>simp[vs]
   |cons x l ih=>intro j;cases j<;>simp[vs,ih]
  rw[this,h3];rfl
 ·refine⟨by simp[cx,hn,←hrep.length];omega,fun d s hs=>?_,h0.symm,Cls.nil (cx X w []) 0,y6 _,by simp⟩;obtain⟨_,h2⟩:=a2N (n:=0) hs
  have:∀(l:List Value) (j:Nat),(vs l)[j]?=(l[j]?).map .v:=by
   intro l
   induction l with
   |nil=>simp[vs]
   |cons x l ih=>intro j;cases j<;>simp[vs,ih]
  simp only[a6l]at h2;rw[this]at h2;cases hv:vl[d]? with
  |none=>rw[hv]at h2;cases h2
  |some y=>
   rw[hv]at h2;cases h2;right;have hlt:=(P3.1 hv).1;rw[N1,k9 (by have:=hrep.length;omega),a6S (by simpa using hlt)]
   simpa[den]using hv
 ·have main:∀ {r:D}{s:SV},a2Q sy' r Qr→j5 (okS (fun b=>b<w.heap.size→ok b) st') st'.w (B0 st') r s→(results fn a'.tmps).run X.P w'=.ok (den st'.H s) w'→a'.defers=[]∧∃v,(results fn a'.tmps).run X.P w'=.ok v w'∧∃v1 r,Ending.returned v=.returned v1∧Qr r∧Rep (fun b=>ok b∨(w.heap.size≤b∧b<w'.heap.size)) w' r v1∧Below w.heap.size w w':=by
   intro r s hret hrel hrun;obtain⟨r',hq,hrp⟩:=b1V hA hret hs' hlv.rel hrel;refine⟨hlv.rel.dfs.trans h0,_,hrun,_,r',rfl,hq,Rep.mono (fun b hb=>⟨?_,rfl⟩) _ _ hrp,hlv.fx.below⟩;by_cases hlt:b<w.heap.size
   ·exact .inl (hb.1 hlt)
   ·exact .inr ⟨by omega,hb.2⟩
  have fin:(match a1G X sy' fn.results.toList with
   |some [s]=>a2Q sy' s Qr
   |some l=>a2Q sy' (.tup l) Qr
   |none=>False)→a'.defers=[]∧∃v,(results fn a'.tmps).run X.P w'=.ok v w'∧∃v1 r,Ending.returned v=.returned v1∧Qr r∧Rep (fun b=>ok b∨(w.heap.size≤b∧b<w'.heap.size)) w' r v1∧Below w.heap.size w w':=by
   intro hk;cases hres:a1G X sy' fn.results.toList with
   |none=>rw[hres]at hk;exact hk.elim
   |some l=>
    rw[hres]at hk;obtain⟨l',h1,h2⟩:=a4q (w0:=w) (bor:=[]) hs' hres;have hrun:=a2s (X:=cx X w []) hP.tt hlv.rel h1
    match l,l',h2,hk,hrun with
    |[s],[s'],h2,hk,hrun=>exact main hk h2.1 hrun
    |[],[],h2,hk,hrun=>exact main (s:=.tup []) hk (by simp only[j5];exact .inl ⟨[],rfl,trivial⟩) (by simpa[den,a9Z,cx]using hrun)
    |x::y::l,x'::y'::l',h2,hk,hrun=>exact main (s:=.tup (x'::y'::l')) hk (by simp only[j5];exact .inl ⟨_,rfl,h2⟩) (by simpa[den,a9Z,cx]using hrun)
    |[],_::_,h2,_,_=>simp[j9]at h2
    |[_],[],h2,_,_=>simp[j9]at h2
    |[_],_::_::_,h2,_,_=>simp[j9]at h2
    |_::_::_,[],h2,_,_=>simp[j9]at h2
    |_::_::_,[_],h2,_,_=>simp[j9]at h2
  cases e with
  |normal=>exact fin hk
  |ret=>exact fin hk
  |exit id=>exact hk.elim
  |goto l=>exact hp.elim
  |panic c=>exact hp.elim
  |outgrown=>exact hp.elim
theorem vb{α:Type}{b:Bool}{p q:Prop}{x y r:Option α}(h:(if b=true then x else y)=r)(h1:b=true→x=r→p)(h2:b=false→y=r→q):VIf b p q:=VIf.b h1 h2 h
theorem cy{α β:Type}{P:Program}{f:FuncId}{args:List D}{st:Sy}{K:Sy→D→Prop}{o:Option α}{k:α→Option β}{r:β}{c:α→D}(h:Option.bind o k=some r)(hd:∀x,o=some x→p0 P f args fun y=>y=c x)(hk:∀x,k x=some r→K st (c x)):b0t P f args st K:=by
 obtain⟨x,hx,hm⟩:=d9 h;exact b0t.det (hd x hx) (hk x hm)
theorem co{α β:Type}{P:Program}{seq:Bool}{f:FuncId}{fa:List D}{st st':Sy}{K:Sy→D→Prop}{o:Option α}{k:α→Option β}{r:β}{c:α→D}(h:Option.bind o k=some r)(hd:∀x,o=some x→p0 P f fa fun y=>y=c x) (hk:∀x,k x=some r→match a6H (c x),seq with
 |true,_=>K st (c x)
 |false,true=>K st' (c x)
 |false,false=>False):b1O P seq f fa st st' K:=by
 obtain⟨x,hx,hm⟩:=d9 h;exact b1O.det (hd x hx) (hk x hm)
theorem _root_.Eq.rl{α:Type}{a r:α}{f:α→D}{x:D}(hm:some a=some r)(h:leD x (f a)):n8 x fun y=>y=f r:=by
 cases hm;exact d5v h
theorem _root_.Eq.rr{α:Type}{a r:α}{f:α→D}{x:D}(hm:some a=some r)(h:x=f a:=by rfl):n8 x fun y=>y=f r:=hm.rl (h▸d5t _)
def lkL(T:List (Nat×D)):List (Nat×D)→Option (List D)
 |[]=>some []
 |(d,_)::r=>match u0 T d,lkL T r with
  |some x,some l=>some (x::l)
  |_,_=>none
def bkL(n:Nat):List (Nat×D)→List D
 |[]=>[]
 |(_,s)::r=>a2w n s::bkL n r
theorem tA{n:Nat}{T:List (Nat×D)}:∀ {r:List (Nat×D)},lkL T r=some (bkL n r)→b1r n T r
 |[],_=>trivial
 |(d,s)::r,h=>by
  simp only[lkL,bkL]at h;split at h
  ·rename_i x l h1 h2;simp only[Y9,a8w]at h;obtain⟨rfl,rfl⟩:=h;exact⟨tR h1,tA h2⟩
  ·cases h
def lkH(n:Nat)(H:Hy):Hy→Option Hy
 |[]=>some []
 |(k,.row z m l ty)::r=>match Nat.blt k n,lkH n H r with
  |true,some q=>match m7 H k with|some e=>some ((k,e)::q)|none=>none
  |false,some q=>some ((k,.row z 0 [] ty)::q)
  |_,none=>none
 |(k,.blk _ _)::r=>match m7 H k,lkH n H r with
  |some e,some q=>some ((k,e)::q)
  |_,_=>none
 |(k,.mp _ _)::r=>match m7 H k,lkH n H r with
  |some e,some q=>some ((k,e)::q)
  |_,_=>none
def bkH(n:Nat):Hy→Hy
 |[]=>[]
 |(k,.blk cs ty)::r=>(k,.blk (a3o n cs) ty)::bkH n r
 |(k,e)::r=>(k,e)::bkH n r
theorem hA{n:Nat}{H:Hy}:∀ {r:Hy},lkH n H r=some (bkH n r)→b0q n H r
 |[],_=>trivial
 |(k,.row z m l ty)::r,h=>by
  simp only[lkH,bkH]at h;cases hq:lkH n H r with
  |none=>rw[hq]at h;split at h<;>simp_all
  |some q=>
   rw[hq]at h;cases hb:Nat.blt k n with
   |true=>
    rw[hb]at h;cases hf:m7 H k with
    |none=>rw[hf]at h;cases h
    |some e=>
     rw[hf]at h;simp only[Y9,a8w,a5l,U2]at h;obtain⟨rfl,rfl⟩:=h;exact⟨by simp only[b8j,hb];exact⟨m,l,hf,rfl,rfl⟩,hA hq⟩
   |false=>
    rw[hb]at h;simp only[Y9,a8w,a5l,U2,E.row.injEq,and_true]at h;obtain⟨⟨rfl,rfl⟩,rfl⟩:=h;exact⟨by unfold b8j;rw[hb];exact⟨rfl,rfl⟩,hA hq⟩
 |(k,.blk cs ty)::r,h=>by
  simp only[lkH,bkH]at h;split at h
  ·rename_i e q h1 h2;simp only[Y9,a8w,a5l,U2]at h;obtain⟨rfl,rfl⟩:=h;exact⟨⟨_,h1,b1y.refl _⟩,hA h2⟩
  ·cases h
 |(k,.mp es ty)::r,h=>by
  simp only[lkH,bkH]at h;split at h
  ·rename_i e q h1 h2;simp only[Y9,a8w,a5l,U2]at h;obtain⟨rfl,rfl⟩:=h;exact⟨⟨_,h1,rfl⟩,hA h2⟩
  ·cases h
theorem sb{st st':Sy}(n:Nat)(h1:a7E n st'=true:=by exact rfl)(h2:lkL st.T st'.T=some (bkL n st'.T):=by exact rfl)(h3:b0q n st.H st'.H:=by first|exact hA rfl|repeat' (first|exact hR rfl|exact hW rfl|exact⟨rfl,rfl⟩|exact trivial|refine⟨?_,?_⟩)):I1 st st':=.of n h1 (tA h2) h3
theorem er{α β:Type}{c:α→List D}{z:Nat}{l:List α}{i:Int}{k:α→Option β}{r:β}{P:List D→Prop}(h:Option.bind (idx l i) k=some r)(hk:∀x,k x=some r→P (c x))(hc:∀x,(c x).length=z:=by exact fun _=>rfl):∃cs,(el (l.flatMap c) z i.toNat=cs∧i.toNat<l.length)∧P cs:=by
 obtain⟨x,hx,hm⟩:=d9 h;exact⟨_,c3T hc hx,hk x hm⟩
theorem ei{α β:Type}{c:α→List D}{z:Nat}{l:List α}{i:Int}{k:α→Option β}{r:β}{P:List D→Prop}(h:Option.bind (idx l i) k=some r)(hk:∀x,k x=some r→P (c x))(hc:∀x,(c x).length=z:=by exact fun _=>rfl):∃cs,(el (l.flatMap c) z i.toNat=cs∧0≤i∧i<l.length)∧P cs:=by
 obtain⟨x,hx,hm⟩:=d9 h;exact⟨_,d1W hc hx,hk x hm⟩
theorem eb{α β:Type}{l:List α}{i:Int}{k:α→Option β}{r:β}{P:Prop}(h:Option.bind (idx l i) k=some r)(hk:∀x,k x=some r→P):(0≤i∧i<l.length)∧P:=by
 obtain⟨x,hx,hm⟩:=d9 h;exact⟨a2x hx,hk x hm⟩
theorem b8q{S:List D}:∀ {n:Nat}{m r:List D},takeD n m=some r→takeD n (m++S)=some r
 |0,_,_,h=>h
 |n+1,[],_,h=>by simp[takeD]at h
 |n+1,x::m,r,h=>by
  cases x<;>simp only[takeD,a1l]at h⊢<;>first|exact h|(cases ht:takeD n m with
   |none=>rw[ht]at h;cases h
   |some q=>rw[ht]at h;rw[b8q ht];exact h)
theorem b7B{S:List D}{n:Nat}{r:List D}:∀ {off:Nat}{m:List D},takeD n (dropD off m)=some r→takeD n (dropD off (m++S))=some r
 |0,_,h=>b8q h
 |off+1,[],h=>by
  cases n with
  |zero=>exact h
  |succ n=>simp[dropD,takeD]at h
 |off+1,_::m,h=>b7B (off:=off) (m:=m) h
theorem b7G{off:Nat}{m:List D}:∀(P:List D),dropD (P.length+off) (P++m)=dropD off m
 |[]=>by rw[show([]:List D).length+off=off by simp];rfl
 |x::P=>by rw[show(x::P).length+off=(P.length+off)+1 by simp;omega];exact b7G P
theorem b6A{S:List D}:∀ {off:Nat}{l m r:List D},over off l m=some r→over off l (m++S)=some (r++S)
 |0,[],_,_,h=>by simp only[over,Y9]at h⊢;rw[h]
 |0,x::l,[],_,h=>by simp[over]at h
 |0,x::l,y::m,r,h=>by
  simp only[over,a1l]at h⊢;cases ht:over 0 l m with
  |none=>rw[ht]at h;cases h
  |some q=>rw[ht]at h;cases h;rw[b6A ht];rfl
 |off+1,l,[],_,h=>by simp[over]at h
 |off+1,l,y::m,r,h=>by
  simp only[over,a1l]at h⊢;cases ht:over off l m with
  |none=>rw[ht]at h;cases h
  |some q=>rw[ht]at h;cases h;rw[b6A ht];rfl
theorem c1K{off:Nat}{l m r:List D}(h:over off l m=some r):∀(P:List D),over (P.length+off) l (P++m)=some (P++r)
 |[]=>by rw[show([]:List D).length+off=off by simp];exact h
 |x::P=>by
  rw[show(x::P).length+off=(P.length+off)+1 by simp;omega];simp only[over,a1l,c1K h P]
theorem a5I{α:Type}{c:α→List D}{z:Nat}(hc:∀x,(c x).length=z):∀(l:List α),(l.flatMap c).length=l.length*z
 |[]=>by simp
 |x::l=>by simp only[U0,O6,Y0,hc,a5I hc l,R7];omega
theorem b7L{α:Type}{xs:List α}{i:Int}{e:α}(h:idx xs i=some e):∃A B,xs=A++e::B∧A.length=i.toNat∧∀y,xs.set i.toNat y=A++y::B:=by
 obtain⟨h1,h2⟩:=a1i h;obtain⟨h3,h4⟩:=P3.1 h2;refine⟨xs.take i.toNat,xs.drop (i.toNat+1),?_,by simp;omega,fun y=>?_⟩
 ·rw[←h4];simp
 ·rw[List.set_eq_take_append_cons_drop,k9 h3]
theorem ldx{α:Type}{c:α→List D}{z n:Nat}{xs:List α}{i:Int}{e:α}{pre post cs r:List D}{b off o:Nat}(hz:∀x,(c x).length=z)(hx:idx xs i=some e)(hb:pre.length=b)(hcs:cs=pre++(xs.flatMap c++post))(ho:o=b+i.toNat*z+off)(hr:takeD n (dropD off (c e))=some r):takeD n (dropD o cs)=some r:=by
 obtain⟨A,B,rfl,hA,_⟩:=b7L hx;have hl:(pre++A.flatMap c).length=b+i.toNat*z:=by rw[O6,a5I hz,hA,hb]
 rw[hcs,ho,←hl,show pre++((A++e::B).flatMap c++post)=(pre++A.flatMap c)++(c e++(B.flatMap c++post)) by simp,b7G];exact b7B hr
theorem a3K{α:Type}{c:α→List D}{z n:Nat}{xs:List α}{i:Int}{e:α}{cs r:List D}{o:Nat}(hz:∀x,(c x).length=z)(hx:idx xs i=some e)(hcs:cs=[]++(xs.flatMap c++ []))(ho:o=0+i.toNat*z+0)(hr:takeD n (dropD 0 (c e))=some r):takeD n (dropD o cs)=some r:=ldx hz hx rfl hcs ho hr
theorem d1G{n o:Nat}{l r:List D}{P:List D→Prop}(h:takeD n (dropD o l)=some r)(hp:P r):(match takeD n (dropD o l)with|some l=>P l|none=>False):=by rw[h];exact hp
theorem stx{α:Type}{c:α→List D}{z:Nat}{xs ys:List α}{i:Int}{e y:α}{pre post cs cs' l:List D}{b off o:Nat}(hz:∀x,(c x).length=z)(hx:idx xs i=some e)(hb:pre.length=b)(hcs:cs=pre++(xs.flatMap c++post))(ho:o=b+i.toNat*z+off)(hl:over off l (c e)=some (c y))(hcs':cs'=pre++(ys.flatMap c++post))(hy:xs.set i.toNat y=ys):over o l cs=some cs':=by
 obtain⟨A,B,rfl,hA,hs⟩:=b7L hx;have hn:(pre++A.flatMap c).length=b+i.toNat*z:=by rw[O6,a5I hz,hA,hb]
 rw[hs]at hy;subst hy;rw[hcs,hcs',ho,←hn,show pre++((A++e::B).flatMap c++post)=(pre++A.flatMap c)++(c e++(B.flatMap c++post)) by simp,show pre++((A++y::B).flatMap c++post)=(pre++A.flatMap c)++(c y++(B.flatMap c++post)) by simp];exact c1K (b6A hl) _
theorem b0L{α:Type}{c:α→List D}{z:Nat}{xs ys:List α}{i:Int}{e y:α}{cs cs' l:List D}{o:Nat}(hz:∀x,(c x).length=z)(hx:idx xs i=some e)(hcs:cs=[]++(xs.flatMap c++ []))(ho:o=0+i.toNat*z+0)(hl:over 0 l (c e)=some (c y))(hcs':cs'=[]++(ys.flatMap c++ []))(hy:xs.set i.toNat y=ys):over o l cs=some cs':=stx hz hx rfl hcs ho hl hcs' hy
def c8y{α:Type}(i:Int)(y:α):Nat→List α→List α
 |_,[]=>[]
 |k,x::l=>(if(i==(k:Int))=true then y else x)::c8y i y (k+1) l
theorem c5k{α:Type}{i:Int}{y:α}:∀(l:List α) (k:Nat),0≤i→c8y i y k l=if i<k then l else l.set (i.toNat-k) y
 |[],k,_=>by simp[c8y]
 |x::l,k,h=>by
  simp only[c8y];rw[c5k l (k+1) h];by_cases h1:i<(k:Int)
  ·rw[j6 (by rw[L9];omega),k9 (by omega),k9 h1]
  ·by_cases h2:i=(k:Int)
   ·rw[k9 (by rw[L9];exact h2),k9 (by omega),j6 h1,show i.toNat-k=0 by omega];rfl
   ·rw[j6 (by rw[L9];exact h2),j6 (by omega),j6 h1,show i.toNat-k=(i.toNat-(k+1))+1 by omega];rfl
theorem L7{α:Type}{xs:List α}{i:Int}{e y:α}(hx:idx xs i=some e):xs.set i.toNat y=c8y i y 0 xs:=by
 have h:=(a2x hx).1;rw[c5k xs 0 h,j6 (by omega)];rfl
theorem b3U{P:Program}{e esz:Nat}(w:World)(dT sT ty:TypeId)(g o dLen dCap:Nat)(a:Addr)(sLen sCap:Nat)(cur:Array Value)(t:TypeId)(cs:List Value)
 (hu:P.underlying dT=some (.slice e)) (hs:∀w:World,(sizeOf e).run P w=.ok esz w)
 (hg:w.heap[g]?=some (.cells cur t (0,0))) (hn:cs.length=Nat.min sLen dLen*esz)
 (hsrc:∀j v,cs[j]?=some v→w.cell? (a.add j)=some v) (hfit:o+cs.length≤cur.size) (h1:∀v∈cs,v.oneCell'=true):
 (Builtin.copy_ #[dT,sT] ty #[.slice (some ⟨g,o,none⟩) dLen dCap,.slice (some a) sLen sCap]).run P w=
  .ok (goInt (Nat.min sLen dLen)) (w.setRow g (cur.toList.take o++cs++cur.toList.drop (o+cs.length)).toArray):=by
 have hl:=run_loadCells_list (P:=P) w a cs hsrc;have hst:=run_storeCells_at (P:=P) g o t cs 0 cur w hg (by simpa using hfit) h1
 rw[hn]at hl;simp[Builtin.copy_,a9t hu,Builtin.lenOf,Builtin.firstCells,hs,hl,hst]
theorem b3i{P:Program}(w:World)(tS tR e:TypeId)(ht:P.underlying tS=some (.slice e))(size:Nat)(hz:∀w,(Go.sizeOf e).run P w=.ok size w)
 (a b:Addr) (la ca lb cb:Nat) (hne:a.block≠b.block) {cA cB:Array Value}{tA tB:TypeId}{fA:Nat×Nat}
 (hsa:w.heap[a.block]?=some (.cells cA tA fA)) (hsb:w.heap[b.block]?=some (.cells cB tB (0,0))) (hkA:cA.size≠0) (hkB:cB.size≠0):
 (Extern.SlicesOverlaps.overlaps #[tS,tS] #[tR] #[.slice (some a) la ca,.slice (some b) lb cb]).run P w=.ok (.bool false) w:=by
 have hnb:(a.block !=b.block)=true:=by simpa using hne
 have hnb':(a.block==b.block)=false:=by simpa using hne
 have sa:w.shape? a.block=some (tA,cA.size):=by simp[World.shape?,hsa]
 have sb:w.shape? b.block=some (tB,cB.size):=by simp[World.shape?,hsb]
 have fb:w.frozen? b=false:=by simp[World.frozen?,hsb]
 have fe:w.frozen? { block:=b.block,off:=cB.size}=false:=by simp[World.frozen?,hsb]
 change Sem.run P (α:=Value) (do
  let some t:=(#[tS,tS]:Array TypeId)[0]?|stuck "slices.overlaps: no parameter types"
  let .slice elem←underlying t|stuck "slices.overlaps: slice type expected"
  let size←sizeOf elem
  match(some a:Option Addr),(some b:Option Addr)with
  |some a,some b=>
   if la=0∨lb=0∨size=0 then pure (Value.bool false)
   else if a.block !=b.block&&(←frozen a)&&(←frozen b)then unsupported .addressObserved
   else do
    if a.block !=b.block then do
     noView a;noView b
     if←mayBeOne a b then return Value.bool ((←choose (.extern "sameAddr.stringBytes" 2))==1)
    pure (Value.bool (a.block==b.block&&a.off<b.off+lb*size&&b.off<a.off+la*size))
  |_,_=>pure (Value.bool false)) w=_
 by_cases h0:la=0∨lb=0∨size=0
 ·simp[a9t ht,hz,h0]
 ·obtain⟨k,hk⟩:∃k,cB.size=k+1:=⟨cB.size-1,by omega⟩;obtain⟨k',hk'⟩:∃k,cA.size=k+1:=⟨cA.size-1,by omega⟩;rw[hk]at sb fe;rw[hk']at sa
  cases hfa:w.frozen? a<;>cases hfe:w.frozen? { block:=a.block,off:=k'+1}<;>
   simp[a9t ht,hz,h0,hnb,hnb',frozen,noView,viewAt,mayBeOne,stringish,shape,Sem.run,sa,sb,fb,fe,hfa,hfe]
def puts(a:Act):List (Nat×Value)→Act
 |[]=>a
 |(d,v)::L=>(puts a L).put (some d) v
def lk:List (Nat×Value)→Nat→Option Value
 |[],_=>none
 |(d,v)::L,e=>if Nat.beq d e then some v else lk L e
def lkA(a:Act)(L:List (Nat×Value))(e:Nat):Option Value:=match lk L e with
 |some v=>some v
 |none=>a.tmps[e]?
def inB(n:Nat):List (Nat×Value)→Bool
 |[]=>true
 |(d,_)::L=>Nat.blt d n&&inB n L
theorem a5d{a:Act}:∀(L:List (Nat×Value)),(puts a L).tmps.size=a.tmps.size
 |[]=>rfl
 |(d,v)::L=>by rw[puts,a3p,a5d L]
theorem a6U{a:Act}:∀(L:List (Nat×Value)),(puts a L).defers=a.defers
 |[]=>rfl
 |(d,v)::L=>by rw[puts,a6c,a6U L]
theorem X9{a:Act}:∀(L:List (Nat×Value)) (e:Nat),inB a.tmps.size L=true→(puts a L).tmps[e]?=lkA a L e
 |[],e,_=>rfl
 |(d,v)::L,e,h=>by
  simp only[inB,D7]at h;have hd:d<a.tmps.size:=by simpa[a4p]using h.1
  rw[puts];unfold lkA lk;cases hb:Nat.beq d e with
  |true=>
   have:=Nat.eq_of_beq_eq_true hb;subst this;simp only[D2];exact a5T (by rw[a5d];exact hd)
  |false=>
   have:d≠e:=Nat.ne_of_beq_eq_false hb;rw[S6 this,X9 L e h.2];simp[lkA]
theorem F0{a:Act}{L:List (Nat×Value)}{e N:Nat}{v:Value}(hs:a.tmps.size=N)(hb:inB N L=true)(h:lkA a L e=some v):(puts a L).eval (.tmp e)=v:=a1b (by rw[X9 L e (hs▸hb),h])
theorem E4{P:Program}{ops:Array Oper}{Q:Exit→Act→World→Prop}{o:Oper}{rest:List Oper}{a:Act}{L:List (Nat×Value)}{w w':World}{v:Value}{d:Nat}(hg:o.guard=none)(hd:o.dst=some d)(h:(execOp (puts a L).eval o).run P w=.ok (.value v) w')
 (hn:wpList P ops Q rest (puts a ((d,v)::L)) w'):wpList P ops Q (o::rest) (puts a L) w:=by
 refine a0s hg h ?_;rw[hd];exact hn
theorem a4K{P:Program}{ops:Array Oper}{Q:Act→Prop}{o:Oper}{rest:List Oper}{a:Act}{L:List (Nat×Value)}{w:World}{v:Value}{d:Nat}(hg:o.guard=none)(hd:o.dst=some d)(h:(execOp (puts a L).eval o).run P w=.ok (.value v) w)
 (hn:wpStill P ops w Q rest (puts a ((d,v)::L))):wpStill P ops w Q (o::rest) (puts a L):=by
 have hw:Region.wanted o (yielded ops (puts a L).tmps)=true:=by simp[Region.wanted,hg]
 simp only[wpStill,hw,D2,Oper.still,h,Oper.stillUpon_value,hd];exact hn
section
variable {P : Program}{a : Act}{L : List (Nat × Value)}{o : Oper}{w : World}{x y N : Nat}{u v : Value}
theorem a1f(hs:a.tmps.size=N)(hb:inB N L=true)(ho:o.op=.move (.tmp x))(hx:lkA a L x=some v):(execOp (puts a L).eval o).run P w=.ok (.value v) w:=by
 simp[execOp,ho,F0 hs hb hx]
theorem d0s(hs:a.tmps.size=N)(hb:inB N L=true)(ho:o.op=.assign (.tmp x))(hx:lkA a L x=some v):(execOp (puts a L).eval o).run P w=.ok (.value v) w:=by
 simp[execOp,ho,F0 hs hb hx]
theorem b8b{t t':TypeId}{p q:Nat}(hs:a.tmps.size=N)(hb:inB N L=true)(ho:o.op=.binOp .add t (.tmp x) (.tmp y) t')(hx:lkA a L x=some (.int .i64 (p:Int)))(hy:lkA a L y=some (.int .i64 (q:Int)))(h:p+q≤9223372036854775807):
 (execOp (puts a L).eval o).run P w=.ok (.value (.int .i64 ((p+q:Nat):Int))) w:=by
 have e:IntKind.i64.wrap ((p:Int)+(q:Int))=((p+q:Nat):Int):=by rw[IntKind.wrap_i64];omega
 simp[execOp,ho,F0 hs hb hx,F0 hs hb hy,eqGuard,binOp,Op.intArith,e]
theorem d2V{t t':TypeId}{p q:Nat}(hs:a.tmps.size=N)(hb:inB N L=true)(ho:o.op=.binOp .sub t (.tmp x) (.tmp y) t')(hx:lkA a L x=some (.int .i64 (p:Int)))(hy:lkA a L y=some (.int .i64 (q:Int)))(hq:q≤p)(h:p≤9223372036854775807):
 (execOp (puts a L).eval o).run P w=.ok (.value (.int .i64 ((p-q:Nat):Int))) w:=by
 have e:IntKind.i64.wrap ((p:Int)-(q:Int))=((p-q:Nat):Int):=by rw[IntKind.wrap_i64];omega
 simp[execOp,ho,F0 hs hb hx,F0 hs hb hy,eqGuard,binOp,Op.intArith,e]
theorem d2h{t t':TypeId}{p q:Nat}(hs:a.tmps.size=N)(hb:inB N L=true)(ho:o.op=.binOp .gtr t (.tmp x) (.tmp y) t')(hx:lkA a L x=some (.int .i64 (p:Int)))(hy:lkA a L y=some (.int .i64 (q:Int))):
 (execOp (puts a L).eval o).run P w=.ok (.value (.bool (decide (q<p)))) w:=by
 simp[execOp,ho,F0 hs hb hx,F0 hs hb hy,eqGuard,binOp,Op.intCmp]
theorem d3G{t:TypeId}{c:Bool}(hs:a.tmps.size=N)(hb:inB N L=true)(ho:o.op=.unOp .not t (.tmp x))(hx:lkA a L x=some (.bool c)):
 (execOp (puts a L).eval o).run P w=.ok (.value (.bool (!c))) w:=by
 simp[execOp,ho,F0 hs hb hx,Op.unary]
section
variable {t e esz bytes : Nat}{i : TI}{g n cap m : Nat}
theorem c2C(hi:P6 P t i)(hd:i.d=.slice e esz bytes)(hs:a.tmps.size=N)(hb:inB N L=true)(ho:o.op=.slice t (.tmp x) (some (.tmp y)) none none)(hx:lkA a L x=some (.slice (some ⟨g,0,none⟩) n cap))(hy:lkA a L y=some (.int .i64 (m:Int)))(hm:m<n)(hnc:n≤cap):
 (execOp (puts a L).eval o).run P w=.ok (.value (.slice (some ⟨g,m*esz,none⟩) (n-m) (cap-m))) w:=by
 obtain⟨off,h1,h2⟩:=c3w (X:=⟨P,[],0,[],[],[],[],[],[]⟩) (g:=g) hi hd (show m≤n by omega) hnc w;obtain rfl:off=m*esz:=by omega
 simp only[execOp,ho,F0 hs hb hx,F0 hs hb hy,Option.map,y9,h1]
 try rfl
theorem d3n(hi:P6 P t i)(hd:i.d=.slice e esz bytes)(hs:a.tmps.size=N)(hb:inB N L=true)(ho:o.op=.slice t (.tmp x) none (some (.tmp y)) none)(hx:lkA a L x=some (.slice (some ⟨g,0,none⟩) n cap))(hy:lkA a L y=some (.int .i64 (m:Int)))(hm:m≤cap):
 (execOp (puts a L).eval o).run P w=.ok (.value (.slice (some ⟨g,0,none⟩) m cap)) w:=by
 have h1:=c7i (X:=⟨P,[],0,[],[],[],[],[],[]⟩) (g:=g) (n:=n) hi hd hm w;simp only[execOp,ho,F0 hs hb hx,F0 hs hb hy,Option.map,y9,h1];rfl
theorem b8t{b:Builtin}{tys:Array TypeId}{xs:List Nat}{vals:List Value}{v:Value}{w':World}(ho:o.op=.call { callee:=.builtin b,args:=(xs.map Operand.tmp).toArray,argTypes:=tys})(hs:a.tmps.size=N)(hb:inB N L=true)
 (hx:xs.map (fun x=>lkA a L x)=vals.map some) (h:∀cs,(builtin b tys o.type cs vals.toArray).run P w=.ok (.value v) w'):(execOp (puts a L).eval o).run P w=.ok (.value v) w':=by
 have he:(xs.map Operand.tmp).toArray.map (puts a L).eval=vals.toArray:=by
  apply N8;simp only[List.map_toArray,List.map_map];clear ho h
  induction xs generalizing vals with
  |nil=>cases vals with
   |nil=>rfl
   |cons=>simp at hx
  |cons x xs ih=>cases vals with
   |nil=>simp at hx
   |cons u us=>
    simp only[H7,a8w]at hx;simp only[H7,Function.comp,F0 hs hb hx.1];rw[←ih hx.2]
 obtain⟨cs,hr⟩:=Q3 (X:=cx (⟨P,[],0,[],[],[],[],[],[]⟩:Cy) w []) (a:=puts a L) ho he w;have hr':(execOp (puts a L).eval o).run P w=_:=hr;rw[hr'];exact h cs
theorem d5k{f:FuncId}{tys:Array TypeId}{x1 x2:Nat}{v1 v2 v:Value}{w':World}(ho:o.op=.call { callee:=.value (.func f),args:= #[.tmp x1,.tmp x2],argTypes:=tys})(hs:a.tmps.size=N)(hb:inB N L=true)
 (h1:lkA a L x1=some v1) (h2:lkA a L x2=some v2) (h:(callFunc f #[v1,v2]).run P w=.ok (.value v) w'):(execOp (puts a L).eval o).run P w=.ok (.value v) w':=by
 simp only[execOp,ho,resolve,invoke,y9,O7,I9,List.map_toArray,H7,a6v,F0 hs hb h1,F0 hs hb h2]
 first|exact h|(simp[Act.eval,Operand.func,h];done)|simp[Act.eval,callValue,h]
end
end
theorem c5r{α:Type}(c ls C1:List α)(I M N:Nat)(hI:I≤N)(hl:ls.length=M)(hc:N+M≤c.length)(h1:C1=c.take (I+M)++(c.take N).drop I++c.drop (I+M+(N-I))):
 (C1.take I++ls++C1.drop (I+M)).take (N+M)=c.take I++ls++(c.take N).drop I:=by
 have a1:C1.take I=c.take I:=by
  rw[h1,a3z,b1F (by simp;omega),a9w,a1Q (by omega)]
 have a2:C1.drop (I+M)=(c.take N).drop I++c.drop (I+M+(N-I)):=by
  rw[h1,a3z,List.drop_left' (by simp;omega)]
 rw[a1,a2,←a3z];exact List.take_left' (by simp[hl];omega)
theorem c8P{α:Type}(c ls C1 C2:List α)(I M N:Nat)(hI:I≤N)(hl:ls.length=M)(hc:N≤c.length)(h0:C1.take I=c.take I)(hn:N+M≤C1.length)(h2:C2=C1.take I++ls++C1.drop (I+M)):
 (C2.take (I+M)++(c.take N).drop I++C2.drop (I+M+(N-I))).take (N+M)=c.take I++ls++(c.take N).drop I:=by
 have a1:C2.take (I+M)=c.take I++ls:=by
  rw[h2,h0];exact List.take_left' (by simp[hl];omega)
 rw[a1];exact List.take_left' (by simp[hl];omega)
theorem c5R{P:Program}{t e esz bytes tn:Nat}{i ie:TI}(hi:P6 P t i)(hd:i.d=.slice e esz bytes)(hie:P6 P e ie)(hiz:ie.n=esz)(h1:0<esz)(hn:P.underlying tn=some (.int .i64)){w:World}{g cap j k:Nat}{cur:Array Value}
 (hg:w.heap[g]?=some (.cells cur e (0,0))) (hcs:cur.size=cap*esz) (hj:j≤cap) (hk:0<k) (hroom:cap<j+k) (hb:(j+k)*bytes≤140737488355328) (hm:j+k≤maxLen):
 ∃C1 c',(∀ty,(Builtin.append_ #[t,tn] ty #[.slice (some ⟨g,0,none⟩) j cap,.int .i64 (k:Int)]).run P w=.ok (.slice (some ⟨w.heap.size,0,none⟩) (j+k) c') (w.drew.alloc (.cells C1 e)))∧C1.size=c'*esz∧j+k≤c'∧c'≤maxLen∧C1.toList.take (j*esz)=cur.toList.take (j*esz):=by
 obtain⟨hu,inf,hinf,hsz,hby⟩:=hi.slice hd;obtain⟨inf',z,hinf',hsz',hz,hzc⟩:=hie.info;obtain rfl:inf=inf':=by rw[hinf]at hinf';exact E0 hinf'
 have hzs:z.cells.size=esz:=by rw[←a7s,hzc,hie.zn,hiz]
 have hjc:j*esz≤cur.size:=by rw[hcs];exact a1d _ hj
 have hm':j+k≤9223372036854775807:=by simpa[maxLen]using hm
 have hol:(cur.toList.take (j*esz)).length=j*esz:=by simp;omega
 have hold:=run_firstCells_some (P:=P) w.drew inf.size j ⟨g,0,none⟩ j cap (cur.toList.take (j*esz)) (by rw[hol,hsz]) (fun q v hq=>by
  have hlt:q<j*esz:=by have:=(P3.1 hq).1;omega
  rw[O8];rw[List.getElem?_take_of_lt hlt]at hq;have hq':cur[q]?=some v:=by simpa using hq
  show(w.cell? ⟨g,0+q,none⟩)=some v;simp[World.cell?,hg,hq'])
 have hkb:k*inf.bytes≤281474976710656:=by
  have:k*inf.bytes≤(j+k)*inf.bytes:=a1d _ (by omega);rw[hby]at this⊢;omega
 refine⟨_,grownCap w (j+k) cap e,fun ty=>Lib.run_append_grow_zeros w t tn ty e inf z .i64 .i64 hu hn hinf hz (some ⟨g,0,none⟩) j cap _ hold k hk (by omega) hroom (by omega) hkb (by rw[hby];exact growslice_fits hroom hb),?_,grownCap_ge _ _ _ _,grownCap_le_maxLen _ _ _ _ hm,?_⟩
 ·have:=grownCap_ge w (j+k) cap e;simp only[Array.size_append,b0M,hol,Builtin.zeroCells,Array.size_map,Array.size_range,hzs];rw[←R7,←R7];congr 1;omega
 ·simp only[Array.toList_append,a3z];exact List.take_left' hol
end Go.Sx
set_option maxRecDepth 100000
set_option maxHeartbeats 1000000
namespace Go.Sx
open Go Go.RowKit
theorem cell_of_heap{w w':World}{a:Addr}(h:w'.heap[a.block]?=w.heap[a.block]?)(hs:a.spot=none):w'.cell? a=w.cell? a:=by
 simp[World.cell?,h]
structure c3I(w W:World)(g esz n m:Nat)(e:TypeId)(R:List Value)(v':Value):Prop where
 ex:∃g' c' C,v'=.slice (some ⟨g',0,none⟩) (n+m) c'∧W.heap[g']?=some (.cells C e (0,0))∧n+m≤c'∧c'≤maxLen∧C.size=c'*esz∧C.toList.take ((n+m)*esz)=R∧(g'=g∨w.heap.size≤g')
 fx:Fx [g] w W
structure c3t(X:Cy)(a:Act)(w:World)(t tI e esz bytes g n cap i m mc:Nat)(sa:Addr)(ls cur:List Value):Prop where
 sz:a.tmps.size=95
 t0:a.tmps[0]?=some (.slice (some ⟨g,0,none⟩) n cap)
 t1:a.tmps[1]?=some (.int .i64 (i:Int))
 t2:a.tmps[2]?=some (.slice (some sa) m mc)
 t7:a.tmps[7]?=some (.int .i64 (m:Int))
 t8:a.tmps[8]?=some (.int .i64 (n:Int))
 hi:i<n
 hm:0<m
 hn:n≤cap
 hcm:cap≤maxLen
 hnm:n+m≤maxLen
 hb:(n+m)*bytes≤140737488355328
 hg:w.heap[g]?=some (.cells cur.toArray e (0,0))
 hcs:cur.length=cap*esz
 hll:ls.length=m*esz
 hl1:∀v,v∈ls→v.oneCell'=true
 hc1:∀v,v∈cur.take (n*esz)→v.oneCell'=true
 hne:sa.block≠g
 hsl:∃cA tA fA,w.heap[sa.block]?=some (.cells cA tA fA)∧cA.size≠0
 hsv:∀W:World,W.heap[sa.block]?=w.heap[sa.block]?→∀j v,ls[j]?=some v→W.cell? (sa.add j)=some v
 hint:X.P.underlying tI=some (.int .i64)
 hz:0<esz
theorem b5V{a:Act}{L:List (Nat×Value)}:∀(L':List (Nat×Value)),puts (puts a L) L'=puts a (L'++L)
 |[]=>rfl
 |(d,v)::L'=>by rw[a1l,puts,puts,b5V L']
section
variable {X : Cy}{Q : Exit → Act → World → Prop}{t tI tB e esz bytes : Nat}{i ie : TI}{a : Act}{w : World}{g n cap ix m mc : Nat}{sa : Addr}{ls cur : List Value}
structure c9r(P:Program)(t:TypeId)(ov:FuncId):Prop where
 ex:∃fn tR,P.funcs[ov]?=some fn∧(fn.name== "runtime.NumGoroutine")=false∧fn.body.isNone=true∧Extern.findNext fn=none∧Extern.find fn=some (Extern.SlicesOverlaps.overlaps #[t,t] #[tR])
theorem b4t{P:Program}{e esz:Nat}(w:World)(dT sT ty:TypeId)(g o dLen dCap:Nat)(a:Addr)(sLen sCap:Nat)(cur:List Value)(t:TypeId)(cs:List Value)
 (hu:P.underlying dT=some (.slice e)) (hs:∀w:World,(sizeOf e).run P w=.ok esz w)
 (hg:w.heap[g]?=some (.cells cur.toArray t (0,0))) (hn:cs.length=Nat.min sLen dLen*esz)
 (hsrc:∀j v,cs[j]?=some v→w.cell? (a.add j)=some v) (hfit:o+cs.length≤cur.length) (h1:∀v,v∈cs→v.oneCell'=true):
 (Builtin.copy_ #[dT,sT] ty #[.slice (some ⟨g,o,none⟩) dLen dCap,.slice (some a) sLen sCap]).run P w=
  .ok (goInt (Nat.min sLen dLen)) (w.setRow g (cur.take o++cs++cur.drop (o+cs.length)).toArray):=by
 have:=b3U w dT sT ty g o dLen dCap a sLen sCap cur.toArray t cs hu hs hg hn hsrc (by simpa using hfit) h1
 simpa using this
theorem d1L{T22 T23 T24 T25 T26 T27 T28 T29 T30:TypeId}{p22 p23 p24 p25 p26 p27 p28 p29 p30:String}{r11:Nat}{v:Value}{W1:World}{g1 n1 c1 g2 n2 c2:Nat}(hP:POK X.P X.tt)(hti:P6 X.P t i)(hd:i.d=.slice e esz bytes)(hs:a.tmps.size=95)(h9:a.tmps[9]?=some (.slice (some ⟨g1,0,none⟩) (n1) (c1)))(h0:a.tmps[0]?=some (.slice (some ⟨g2,0,none⟩) (n2) (c2)))(h1:a.tmps[1]?=some (.int .i64 ((ix:Nat):Int)))(h7:a.tmps[7]?=some (.int .i64 ((m:Nat):Int)))
 (q1:ix+m<n1) (q2:n1≤c1) (q3:ix<n2) (q4:n2≤c2) (q5:ix+m≤9223372036854775807) (hcp:∀ty,(Builtin.copy_ #[t,t] ty #[.slice (some ⟨g1,(ix+m)*esz,none⟩) (n1-(ix+m)) (c1-(ix+m)),.slice (some ⟨g2,ix*esz,none⟩) (n2-ix) (c2-ix)]).run X.P { w with drawn:=w.drawn+1}=.ok v W1)
 (hQ:Q .normal (puts a [(54,v),(53,.slice (some ⟨g2,ix*esz,none⟩) (n2-ix) (c2-ix)),(52,.int .i64 ((ix:Nat):Int)),(51,.slice (some ⟨g2,0,none⟩) (n2) (c2)),(50,.slice (some ⟨g1,(ix+m)*esz,none⟩) (n1-(ix+m)) (c1-(ix+m))),(49,.int .i64 ((ix+m:Nat):Int)),(48,.int .i64 ((m:Nat):Int)),(47,.int .i64 ((ix:Nat):Int)),(46,.slice (some ⟨g1,0,none⟩) (n1) (c1))]) W1):(Code.region r11 #[{ dst:=some 46,op:=.move (.tmp 9),type:=T22,pos:=p22,after:= #[],guard:=none},
 { dst:=some 47,op:=.move (.tmp 1),type:=T23,pos:=p23,after:= #[],guard:=none},
 { dst:=some 48,op:=.move (.tmp 7),type:=T24,pos:=p24,after:= #[],guard:=none},
 { dst:=some 49,op:=.binOp .add tI (.tmp 47) (.tmp 48) tI,type:=T25,pos:=p25,after:= #[{ on:=1,ground:=.data}, { on:=2,ground:=.data}],guard:=none},
 { dst:=some 50,op:=.slice t (.tmp 46) (some (.tmp 49)) none none,type:=T26,pos:=p26,after:= #[{ on:=0,ground:=.data}, { on:=3,ground:=.data}],guard:=none},
 { dst:=some 51,op:=.move (.tmp 0),type:=T27,pos:=p27,after:= #[],guard:=none},
 { dst:=some 52,op:=.move (.tmp 1),type:=T28,pos:=p28,after:= #[],guard:=none},
 { dst:=some 53,op:=.slice t (.tmp 51) (some (.tmp 52)) none none,type:=T29,pos:=p29,after:= #[{ on:=5,ground:=.data}, { on:=6,ground:=.data}],guard:=none},
 { dst:=some 54,op:=.call { callee:=.builtin .copy,args:= #[.tmp 50,.tmp 53],argTypes:= #[t,t]},type:=T30,pos:=p30,after:= #[{ on:=4,ground:=.data}, { on:=7,ground:=.data}],guard:=none}] true:Code).wp X.P Q a w:=by
 refine wp_region_still_tail 8 hP.mix (by kernel_rfl) ?_;show wpStill _ _ _ _ [_,_,_,_,_,_,_,_] (puts a []);refine a4K (v:=.slice (some ⟨g1,0,none⟩) (n1) (c1)) rfl rfl (a1f hs (by rfl) (x:=9) rfl (by exact h9)) ?_;refine a4K (v:=.int .i64 ((ix:Nat):Int)) rfl rfl (a1f hs (by rfl) (x:=1) rfl (by exact h1)) ?_;refine a4K (v:=.int .i64 ((m:Nat):Int)) rfl rfl (a1f hs (by rfl) (x:=7) rfl (by exact h7)) ?_;refine a4K (v:=.int .i64 ((ix+m:Nat):Int)) rfl rfl (b8b (x:=47) (y:=48) hs (by rfl) rfl (by exact rfl) (by exact rfl) (by omega)) ?_;refine a4K (v:=.slice (some ⟨g1,(ix+m)*esz,none⟩) (n1-(ix+m)) (c1-(ix+m))) rfl rfl (c2C (x:=46) (y:=49) hti hd hs (by rfl) rfl (by exact rfl) (by exact rfl) (by omega) (by omega)) ?_;refine a4K (v:=.slice (some ⟨g2,0,none⟩) (n2) (c2)) rfl rfl (a1f hs (by rfl) (x:=0) rfl (by exact h0)) ?_;refine a4K (v:=.int .i64 ((ix:Nat):Int)) rfl rfl (a1f hs (by rfl) (x:=1) rfl (by exact h1)) ?_;refine a4K (v:=.slice (some ⟨g2,ix*esz,none⟩) (n2-ix) (c2-ix)) rfl rfl (c2C (x:=51) (y:=52) hti hd hs (by rfl) rfl (by exact rfl) (by exact rfl) (by omega) (by omega)) ?_;show wpList _ _ _ [_] _ _;refine E4 (v:=v) (w':=W1) rfl rfl (b8t (b:=.copy) (xs:=[50,53]) (vals:=[.slice (some ⟨g1,(ix+m)*esz,none⟩) (n1-(ix+m)) (c1-(ix+m)),.slice (some ⟨g2,ix*esz,none⟩) (n2-ix) (c2-ix)]) (by exact rfl) hs (by rfl) (by simp only[H7,a6v];congr 1) (fun cs=>by simp only[builtin,y9,hcp,I9,O7])) ?_;exact hQ
theorem d1w{T47 T48 T49 T50 T51 T52 T53 T54 T55:TypeId}{p47 p48 p49 p50 p51 p52 p53 p54 p55:String}{r15:Nat}{v:Value}{W1:World}{g1 n1 c1:Nat}(hP:POK X.P X.tt)(hti:P6 X.P t i)(hd:i.d=.slice e esz bytes)(hs:a.tmps.size=95)(h9:a.tmps[0]?=some (.slice (some ⟨g1,0,none⟩) (n1) (c1)))(h0:a.tmps[0]?=some (.slice (some ⟨g1,0,none⟩) (n1) (c1)))(h1:a.tmps[1]?=some (.int .i64 ((ix:Nat):Int)))(h7:a.tmps[7]?=some (.int .i64 ((m:Nat):Int)))
 (q1:ix+m<n1) (q2:n1≤c1) (q3:ix<n1) (q4:n1≤c1) (q5:ix+m≤9223372036854775807) (hcp:∀ty,(Builtin.copy_ #[t,t] ty #[.slice (some ⟨g1,(ix+m)*esz,none⟩) (n1-(ix+m)) (c1-(ix+m)),.slice (some ⟨g1,ix*esz,none⟩) (n1-ix) (c1-ix)]).run X.P { w with drawn:=w.drawn+1}=.ok v W1)
 (hQ:Q .normal (puts a [(77,v),(76,.slice (some ⟨g1,ix*esz,none⟩) (n1-ix) (c1-ix)),(75,.int .i64 ((ix:Nat):Int)),(74,.slice (some ⟨g1,0,none⟩) (n1) (c1)),(73,.slice (some ⟨g1,(ix+m)*esz,none⟩) (n1-(ix+m)) (c1-(ix+m))),(72,.int .i64 ((ix+m:Nat):Int)),(71,.int .i64 ((m:Nat):Int)),(70,.int .i64 ((ix:Nat):Int)),(69,.slice (some ⟨g1,0,none⟩) (n1) (c1))]) W1):(Code.region r15 #[{ dst:=some 69,op:=.move (.tmp 0),type:=T47,pos:=p47,after:= #[],guard:=none},
 { dst:=some 70,op:=.move (.tmp 1),type:=T48,pos:=p48,after:= #[],guard:=none},
 { dst:=some 71,op:=.move (.tmp 7),type:=T49,pos:=p49,after:= #[],guard:=none},
 { dst:=some 72,op:=.binOp .add tI (.tmp 70) (.tmp 71) tI,type:=T50,pos:=p50,after:= #[{ on:=1,ground:=.data}, { on:=2,ground:=.data}],guard:=none},
 { dst:=some 73,op:=.slice t (.tmp 69) (some (.tmp 72)) none none,type:=T51,pos:=p51,after:= #[{ on:=0,ground:=.data}, { on:=3,ground:=.data}],guard:=none},
 { dst:=some 74,op:=.move (.tmp 0),type:=T52,pos:=p52,after:= #[],guard:=none},
 { dst:=some 75,op:=.move (.tmp 1),type:=T53,pos:=p53,after:= #[],guard:=none},
 { dst:=some 76,op:=.slice t (.tmp 74) (some (.tmp 75)) none none,type:=T54,pos:=p54,after:= #[{ on:=5,ground:=.data}, { on:=6,ground:=.data}],guard:=none},
 { dst:=some 77,op:=.call { callee:=.builtin .copy,args:= #[.tmp 73,.tmp 76],argTypes:= #[t,t]},type:=T55,pos:=p55,after:= #[{ on:=4,ground:=.data}, { on:=7,ground:=.data}],guard:=none}] true:Code).wp X.P Q a w:=by
 refine wp_region_still_tail 8 hP.mix (by kernel_rfl) ?_;show wpStill _ _ _ _ [_,_,_,_,_,_,_,_] (puts a []);refine a4K (v:=.slice (some ⟨g1,0,none⟩) (n1) (c1)) rfl rfl (a1f hs (by rfl) (x:=0) rfl (by exact h0)) ?_;refine a4K (v:=.int .i64 ((ix:Nat):Int)) rfl rfl (a1f hs (by rfl) (x:=1) rfl (by exact h1)) ?_;refine a4K (v:=.int .i64 ((m:Nat):Int)) rfl rfl (a1f hs (by rfl) (x:=7) rfl (by exact h7)) ?_;refine a4K (v:=.int .i64 ((ix+m:Nat):Int)) rfl rfl (b8b (x:=70) (y:=71) hs (by rfl) rfl (by exact rfl) (by exact rfl) (by omega)) ?_;refine a4K (v:=.slice (some ⟨g1,(ix+m)*esz,none⟩) (n1-(ix+m)) (c1-(ix+m))) rfl rfl (c2C (x:=69) (y:=72) hti hd hs (by rfl) rfl (by exact rfl) (by exact rfl) (by omega) (by omega)) ?_;refine a4K (v:=.slice (some ⟨g1,0,none⟩) (n1) (c1)) rfl rfl (a1f hs (by rfl) (x:=0) rfl (by exact h0)) ?_;refine a4K (v:=.int .i64 ((ix:Nat):Int)) rfl rfl (a1f hs (by rfl) (x:=1) rfl (by exact h1)) ?_;refine a4K (v:=.slice (some ⟨g1,ix*esz,none⟩) (n1-ix) (c1-ix)) rfl rfl (c2C (x:=74) (y:=75) hti hd hs (by rfl) rfl (by exact rfl) (by exact rfl) (by omega) (by omega)) ?_;show wpList _ _ _ [_] _ _;refine E4 (v:=v) (w':=W1) rfl rfl (b8t (b:=.copy) (xs:=[73,76]) (vals:=[.slice (some ⟨g1,(ix+m)*esz,none⟩) (n1-(ix+m)) (c1-(ix+m)),.slice (some ⟨g1,ix*esz,none⟩) (n1-ix) (c1-ix)]) (by exact rfl) hs (by rfl) (by simp only[H7,a6v];congr 1) (fun cs=>by simp only[builtin,y9,hcp,I9,O7])) ?_;exact hQ
theorem d3N{T33 T34 T35 T36 T37 T38 T39 T40 T41 T42 T43 T44 T45 T46 T47 T48 T49 T50 T51 T52 T53 T54 T55 T56 T57 T58 T59 T60 T61 T62:TypeId}{p33 p34 p35 p36 p37 p38 p39 p40 p41 p42 p43 p44 p45 p46 p47 p48 p49 p50 p51 p52 p53 p54 p55 p56 p57 p58 p59 p60 p61 p62:String}{f33 f34 f35 f36 f37 f38 f39 f40 f41 f42 f43 f44 f45 f46 f56 f57 f58 f59 f60 f61 f62:Array Edge}{r13 r14 r15 r16 r17:Nat}{ov:FuncId}{rest:Code}(hP:POK X.P X.tt)(hti:P6 X.P t i)(hd:i.d=.slice e esz bytes)(hte:P6 X.P e ie)(hiz:ie.n=esz)(hA:c3t X a w t tI e esz bytes g n cap ix m mc sa ls cur)(hroom:n+m≤cap)(hov0:c9r X.P t ov)
 (hQ:∀a' W v',c3I w W g esz n m e (cur.take (ix*esz)++ls++(cur.take (n*esz)).drop (ix*esz)) v'→a'.defers=a.defers→a'.tmps[6]?=some v'→Q .ret a' W):
 (Code.seq (.region r13 #[{ dst:=some 56,op:=.move (.tmp 0),type:=T33,pos:=p33,after:=f33,guard:=none},
 { dst:=some 57,op:=.move (.tmp 8),type:=T34,pos:=p34,after:=f34,guard:=none},
 { dst:=some 58,op:=.move (.tmp 7),type:=T35,pos:=p35,after:=f35,guard:=none},
 { dst:=some 59,op:=.binOp .add tI (.tmp 57) (.tmp 58) tI,type:=T36,pos:=p36,after:=f36,guard:=none},
 { dst:=some 60,op:=.slice t (.tmp 56) none (some (.tmp 59)) none,type:=T37,pos:=p37,after:=f37,guard:=none},
 { dst:=some 0,op:=.assign (.tmp 60),type:=T38,pos:=p38,after:=f38,guard:=none}] false) (.seq (.seq (.region r14 #[{ dst:=some 61,op:=.move (.tmp 2),type:=T39,pos:=p39,after:=f39,guard:=none},
 { dst:=some 62,op:=.move (.tmp 0),type:=T40,pos:=p40,after:=f40,guard:=none},
 { dst:=some 63,op:=.move (.tmp 1),type:=T41,pos:=p41,after:=f41,guard:=none},
 { dst:=some 64,op:=.move (.tmp 7),type:=T42,pos:=p42,after:=f42,guard:=none},
 { dst:=some 65,op:=.binOp .add tI (.tmp 63) (.tmp 64) tI,type:=T43,pos:=p43,after:=f43,guard:=none},
 { dst:=some 66,op:=.slice t (.tmp 62) (some (.tmp 65)) none none,type:=T44,pos:=p44,after:=f44,guard:=none},
 { dst:=some 67,op:=.call { callee:=.value (.func ov),args:= #[.tmp 61,.tmp 66],argTypes:= #[t,t]},type:=T45,pos:=p45,after:=f45,guard:=none},
 { dst:=some 68,op:=.unOp .not tB (.tmp 67),type:=T46,pos:=p46,after:=f46,guard:=none}] false) (.cond (.tmp 68) (.seq (.region r15 #[{ dst:=some 69,op:=.move (.tmp 0),type:=T47,pos:=p47,after:= #[],guard:=none},
 { dst:=some 70,op:=.move (.tmp 1),type:=T48,pos:=p48,after:= #[],guard:=none},
 { dst:=some 71,op:=.move (.tmp 7),type:=T49,pos:=p49,after:= #[],guard:=none},
 { dst:=some 72,op:=.binOp .add tI (.tmp 70) (.tmp 71) tI,type:=T50,pos:=p50,after:= #[{ on:=1,ground:=.data}, { on:=2,ground:=.data}],guard:=none},
 { dst:=some 73,op:=.slice t (.tmp 69) (some (.tmp 72)) none none,type:=T51,pos:=p51,after:= #[{ on:=0,ground:=.data}, { on:=3,ground:=.data}],guard:=none},
 { dst:=some 74,op:=.move (.tmp 0),type:=T52,pos:=p52,after:= #[],guard:=none},
 { dst:=some 75,op:=.move (.tmp 1),type:=T53,pos:=p53,after:= #[],guard:=none},
 { dst:=some 76,op:=.slice t (.tmp 74) (some (.tmp 75)) none none,type:=T54,pos:=p54,after:= #[{ on:=5,ground:=.data}, { on:=6,ground:=.data}],guard:=none},
 { dst:=some 77,op:=.call { callee:=.builtin .copy,args:= #[.tmp 73,.tmp 76],argTypes:= #[t,t]},type:=T55,pos:=p55,after:= #[{ on:=4,ground:=.data}, { on:=7,ground:=.data}],guard:=none}] true) (.seq (.region r16 #[{ dst:=some 78,op:=.move (.tmp 0),type:=T56,pos:=p56,after:=f56,guard:=none},
 { dst:=some 79,op:=.move (.tmp 1),type:=T57,pos:=p57,after:=f57,guard:=none},
 { dst:=some 80,op:=.slice t (.tmp 78) (some (.tmp 79)) none none,type:=T58,pos:=p58,after:=f58,guard:=none},
 { dst:=some 81,op:=.move (.tmp 2),type:=T59,pos:=p59,after:=f59,guard:=none},
 { dst:=some 82,op:=.call { callee:=.builtin .copy,args:= #[.tmp 80,.tmp 81],argTypes:= #[t,t]},type:=T60,pos:=p60,after:=f60,guard:=none}] false) (.seq (.region r17 #[{ dst:=some 83,op:=.move (.tmp 0),type:=T61,pos:=p61,after:=f61,guard:=none},
 { dst:=some 6,op:=.assign (.tmp 83),type:=T62,pos:=p62,after:=f62,guard:=none}] false) (.ret)))) .skip)) rest):Code).wp X.P Q a w:=by
 have hs:=hA.sz;have h1:=hA.hi;have h2:=hA.hm;have h3:=hA.hn;have h4:=hA.hcm;have h5:=hA.hnm;simp only[maxLen]at h4 h5;obtain⟨_,_,_,hzz,_⟩:=hti.slice hd;have hu:=(hti.slice hd).1
 have hze:∀w:World,(sizeOf e).run X.P w=.ok esz w:=by
  obtain⟨_,inf,q1,q2,_⟩:=hti.slice hd;intro w;simp[sizeOf,typeInfo,q1,q2]
 have m1:(ix+m)*esz=ix*esz+m*esz:=R7 _ _ _;have m2:(n+m)*esz=n*esz+m*esz:=R7 _ _ _;have m3:n*esz=ix*esz+(n-ix)*esz:=by rw[←R7];congr 1;omega
 have m4:n*esz≤cur.length:=by rw[hA.hcs];exact a1d _ h3
 have hll:=hA.hll;have hcs:=hA.hcs;obtain⟨cs,hcsE⟩:∃cs,cs=(cur.take (n*esz)).drop (ix*esz):=⟨_,rfl⟩;have hcsl:cs.length=(n-ix)*esz:=by rw[hcsE];simp;omega
 have hcs1:∀v,v∈cs→v.oneCell'=true:=fun v hv=>hA.hc1 v (by rw[hcsE]at hv;exact a7n hv)
 have hcg:∀j v,cs[j]?=some v→cur[ix*esz+j]?=some v:=by
  intro j v hj;rw[hcsE,b0r,a5q]at hj;split at hj
  ·exact hj
  ·cases hj
 have m5:(n+m)*esz≤cur.length:=by rw[hA.hcs];exact a1d _ hroom
 have hzp:=hA.hz;have hne:=hA.hne
 have hov:∀lb cb,(callFunc ov #[.slice (some sa) m mc,.slice (some ⟨g,(ix+m)*esz,none⟩) lb cb]).run X.P w=.ok (.value (.bool false)) w:=by
  intro lb cb;obtain⟨fn,tR,q1,q2,q3,q4,q5⟩:=hov0.ex;obtain⟨cA,tA,fA,q6,q7⟩:=hA.hsl
  rw[run_callFunc_extern q1 q2 q3 q4 q5,b3i w t tR e hu esz hze sa ⟨g,(ix+m)*esz,none⟩ m mc lb cb hne q6 hA.hg q7 (by
   have:0<n*esz:=Nat.mul_pos (by omega) hzp;simp only[b0M];omega)]
  rfl
 obtain⟨Wd,hWd⟩:∃Wd:World,Wd= { w with drawn:=w.drawn+1}:=⟨_,rfl⟩
 have hWg:Wd.heap=w.heap:=by rw[hWd]
 obtain⟨C1,hC1⟩:∃C1,C1=cur.take ((ix+m)*esz)++cs++cur.drop ((ix+m)*esz+cs.length):=⟨_,rfl⟩;obtain⟨W1,hW1⟩:∃W1,W1=Wd.setRow g C1.toArray:=⟨_,rfl⟩
 have hcp1:∀ty,(Builtin.copy_ #[t,t] ty #[.slice (some ⟨g,(ix+m)*esz,none⟩) (n+m-(ix+m)) (cap-(ix+m)),.slice (some ⟨g,ix*esz,none⟩) (n+m-ix) (cap-ix)]).run X.P Wd=.ok (goInt (Nat.min (n+m-ix) (n+m-(ix+m)))) W1:=by
  intro ty;rw[hW1,hC1];refine b4t Wd t t ty g _ _ _ _ _ _ cur e cs hu hze (by rw[hWg];exact hA.hg) ?_ (fun j v hj=>?_) (by omega) hcs1
  ·rw[hcsl];congr 1;simp only[Nat.min_def];split<;>omega
  ·rw[O8];have:=hcg j v hj;simp[World.cell?,hWg,hA.hg,this]
 have hg0:W1.heap[g]?=some (.cells C1.toArray e (0,0)):=by rw[hW1];exact setRow_heap _ _ _ _ _ _ (by rw[hWg];exact hA.hg)
 have hC1l:C1.length=cur.length:=by rw[hC1];simp;omega
 obtain⟨C2,hC2⟩:∃C2,C2=C1.take (ix*esz)++ls++C1.drop (ix*esz+ls.length):=⟨_,rfl⟩;obtain⟨W2,hW2⟩:∃W2,W2=W1.setRow g C2.toArray:=⟨_,rfl⟩;have hsaW:W1.heap[sa.block]?=w.heap[sa.block]?:=by rw[hW1,a5O _ _ _ _ hne,hWg]
 have hcp2:∀ty,(Builtin.copy_ #[t,t] ty #[.slice (some ⟨g,ix*esz,none⟩) (n+m-ix) (cap-ix),.slice (some sa) m mc]).run X.P W1=.ok (goInt (Nat.min m (n+m-ix))) W2:=by
  intro ty;rw[hW2,hC2];refine b4t W1 t t ty g _ _ _ _ _ _ C1 e ls hu hze hg0 ?_ (fun j v hj=>hA.hsv W1 hsaW j v hj) (by omega) hA.hl1;rw[hll];congr 1;simp only[Nat.min_def];split<;>omega
 have hg2:W2.heap[g]?=some (.cells C2.toArray e (0,0)):=by rw[hW2];exact setRow_heap _ _ _ _ _ _ hg0
 have hC2l:C2.length=cur.length:=by rw[hC2];simp;omega
 have hfin:C2.take ((n+m)*esz)=cur.take (ix*esz)++ls++(cur.take (n*esz)).drop (ix*esz):=by
  rw[hC2,m2,hll];refine c5r cur ls C1 _ _ _ (by omega) hll (by omega) ?_;rw[hC1,m1,hcsE,←hcsE,hcsl];congr 2;omega
 refine wp_seq (a7e ?_);show wpList _ _ _ _ (puts a []) _;refine E4 (v:=.slice (some ⟨g,0,none⟩) (n) (cap)) (w':=w) rfl rfl (a1f hs (by rfl) (x:=0) rfl (by exact hA.t0)) ?_;refine E4 (v:=.int .i64 ((n:Nat):Int)) (w':=w) rfl rfl (a1f hs (by rfl) (x:=8) rfl (by exact hA.t8)) ?_;refine E4 (v:=.int .i64 ((m:Nat):Int)) (w':=w) rfl rfl (a1f hs (by rfl) (x:=7) rfl (by exact hA.t7)) ?_;refine E4 (v:=.int .i64 ((n+m:Nat):Int)) (w':=w) rfl rfl (b8b (x:=57) (y:=58) hs (by rfl) rfl (by exact rfl) (by exact rfl) (by omega)) ?_;refine E4 (v:=.slice (some ⟨g,0,none⟩) (n+m) (cap)) (w':=w) rfl rfl (d3n (x:=56) (y:=59) hti hd hs (by rfl) rfl (by exact rfl) (by exact rfl) (by omega)) ?_;refine E4 (v:=.slice (some ⟨g,0,none⟩) (n+m) (cap)) (w':=w) rfl rfl (d0s hs (by rfl) (x:=60) rfl (by exact rfl)) ?_;show Code.wp _ _ _ _ _;refine wp_seq (wp_seq (a7e ?_));refine E4 (v:=.slice (some sa) m mc) (w':=w) rfl rfl (a1f hs (by rfl) (x:=2) rfl (by exact hA.t2)) ?_;refine E4 (v:=.slice (some ⟨g,0,none⟩) (n+m) (cap)) (w':=w) rfl rfl (a1f hs (by rfl) (x:=0) rfl (by exact rfl)) ?_;refine E4 (v:=.int .i64 ((ix:Nat):Int)) (w':=w) rfl rfl (a1f hs (by rfl) (x:=1) rfl (by exact hA.t1)) ?_;refine E4 (v:=.int .i64 ((m:Nat):Int)) (w':=w) rfl rfl (a1f hs (by rfl) (x:=7) rfl (by exact hA.t7)) ?_;refine E4 (v:=.int .i64 ((ix+m:Nat):Int)) (w':=w) rfl rfl (b8b (x:=63) (y:=64) hs (by rfl) rfl (by exact rfl) (by exact rfl) (by omega)) ?_;refine E4 (v:=.slice (some ⟨g,(ix+m)*esz,none⟩) (n+m-(ix+m)) (cap-(ix+m))) (w':=w) rfl rfl (c2C (x:=62) (y:=65) hti hd hs (by rfl) rfl (by exact rfl) (by exact rfl) (by omega) (by omega)) ?_;refine E4 (v:=.bool false) (w':=w) rfl rfl (d5k rfl hs (by rfl) (by exact rfl) (by exact rfl) (hov _ _)) ?_;refine E4 (v:=.bool true) (w':=w) rfl rfl (d3G (x:=67) (c:=false) hs (by rfl) rfl (by exact rfl)) ?_;show Code.wp _ _ _ _ _;refine wp_cond_true (F0 hs (by rfl) (by exact rfl)) ?_;refine wp_seq (d1w (W1:=W1) hP hti hd (by rw[a5d];exact hs) (by rw[X9 _ _ (by rw[hs];rfl)];rfl) (by rw[X9 _ _ (by rw[hs];rfl)];rfl) (by rw[X9 _ _ (by rw[hs];rfl)];exact hA.t1) (by rw[X9 _ _ (by rw[hs];rfl)];exact hA.t7) (by omega) (by omega) (by omega) (by omega) (by omega) (by rw[←hWd];exact hcp1) ?_);show Code.wp _ _ _ _ _;rw[b5V];refine wp_seq (a7e ?_);show wpList _ _ _ _ (puts a (_::_::_::_::_::_::_::_::_::_)) _;refine E4 (v:=.slice (some ⟨g,0,none⟩) (n+m) (cap)) (w':=W1) rfl rfl (a1f hs (by rfl) (x:=0) rfl (by exact rfl)) ?_;refine E4 (v:=.int .i64 ((ix:Nat):Int)) (w':=W1) rfl rfl (a1f hs (by rfl) (x:=1) rfl (by exact hA.t1)) ?_;refine E4 (v:=.slice (some ⟨g,ix*esz,none⟩) (n+m-ix) (cap-ix)) (w':=W1) rfl rfl (c2C (x:=78) (y:=79) hti hd hs (by rfl) rfl (by exact rfl) (by exact rfl) (by omega) (by omega)) ?_;refine E4 (v:=.slice (some sa) m mc) (w':=W1) rfl rfl (a1f hs (by rfl) (x:=2) rfl (by exact hA.t2)) ?_;refine E4 (v:=goInt (Nat.min m (n+m-ix))) (w':=W2) rfl rfl (b8t (b:=.copy) (xs:=[80,81]) (vals:=[.slice (some ⟨g,ix*esz,none⟩) (n+m-ix) (cap-ix),.slice (some sa) m mc]) (by exact rfl) hs (by rfl) (by simp only[H7,a6v];congr 1) (fun cs=>by simp only[builtin,y9,hcp2,I9,O7])) ?_;show Code.wp _ _ _ _ _;refine wp_seq (a7e ?_);refine E4 (v:=.slice (some ⟨g,0,none⟩) (n+m) (cap)) (w':=W2) rfl rfl (a1f hs (by rfl) (x:=0) rfl (by exact rfl)) ?_;refine E4 (v:=.slice (some ⟨g,0,none⟩) (n+m) (cap)) (w':=W2) rfl rfl (d0s hs (by rfl) (x:=83) rfl (by exact rfl)) ?_;show Code.wp _ _ _ _ _;refine wp_ret (hQ _ _ _ ?_ (by rw[a6U]) (by rw[X9 _ _ (by rw[hs];rfl)];rfl));refine⟨⟨g,cap,C2.toArray,rfl,hg2,hroom,hA.hcm,by simp[hC2l,hcs],by simpa using hfin,.inl rfl⟩,?_⟩
 refine⟨by rw[hW2,hW1,hWd];rfl,by rw[hW2,hW1,hWd];rfl,by rw[hW2,hW1,hWd];rfl,by rw[hW2,setRow_size,hW1,setRow_size,hWg];exact y6 _,fun k hk hn=>?_⟩;have hkg:k≠g:=fun q=>hn g (by simp) q.symm
 rw[hW2,a5O _ _ _ _ hkg,hW1,a5O _ _ _ _ hkg,hWg]
theorem d3T{T7 T8 T9 T10 T11 T12 T13 T14 T15 T16 T17 T18 T19 T20 T21 T22 T23 T24 T25 T26 T27 T28 T29 T30 T31 T32:TypeId}{p7 p8 p9 p10 p11 p12 p13 p14 p15 p16 p17 p18 p19 p20 p21 p22 p23 p24 p25 p26 p27 p28 p29 p30 p31 p32:String}{f7 f8 f9 f10 f11 f12 f13 f14 f15 f16 f17 f18 f19 f20 f21 f31 f32:Array Edge}{r9 r10 r11 r12:Nat}(hP:POK X.P X.tt)(hti:P6 X.P t i)(hd:i.d=.slice e esz bytes)(hte:P6 X.P e ie)(hiz:ie.n=esz)(hA:c3t X a w t tI e esz bytes g n cap ix m mc sa ls cur)(hroom:cap<n+m)
 (hQ:∀a' W v',c3I w W g esz n m e (cur.take (ix*esz)++ls++(cur.take (n*esz)).drop (ix*esz)) v'→a'.defers=a.defers→a'.tmps[6]?=some v'→Q .ret a' W):
 (Code.seq (.region r9 #[{ dst:=some 32,op:=.move (.tmp 0),type:=T7,pos:=p7,after:=f7,guard:=none},
 { dst:=some 33,op:=.move (.tmp 1),type:=T8,pos:=p8,after:=f8,guard:=none},
 { dst:=some 34,op:=.slice t (.tmp 32) none (some (.tmp 33)) none,type:=T9,pos:=p9,after:=f9,guard:=none},
 { dst:=some 35,op:=.move (.tmp 8),type:=T10,pos:=p10,after:=f10,guard:=none},
 { dst:=some 36,op:=.move (.tmp 7),type:=T11,pos:=p11,after:=f11,guard:=none},
 { dst:=some 37,op:=.binOp .add tI (.tmp 35) (.tmp 36) tI,type:=T12,pos:=p12,after:=f12,guard:=none},
 { dst:=some 38,op:=.move (.tmp 1),type:=T13,pos:=p13,after:=f13,guard:=none},
 { dst:=some 39,op:=.binOp .sub tI (.tmp 37) (.tmp 38) tI,type:=T14,pos:=p14,after:=f14,guard:=none},
 { dst:=some 40,op:=.call { callee:=.builtin .append,args:= #[.tmp 34,.tmp 39],argTypes:= #[t,tI]},type:=T15,pos:=p15,after:=f15,guard:=none},
 { dst:=some 9,op:=.assign (.tmp 40),type:=T16,pos:=p16,after:=f16,guard:=none}] false) (.seq (.region r10 #[{ dst:=some 41,op:=.move (.tmp 9),type:=T17,pos:=p17,after:=f17,guard:=none},
 { dst:=some 42,op:=.move (.tmp 1),type:=T18,pos:=p18,after:=f18,guard:=none},
 { dst:=some 43,op:=.slice t (.tmp 41) (some (.tmp 42)) none none,type:=T19,pos:=p19,after:=f19,guard:=none},
 { dst:=some 44,op:=.move (.tmp 2),type:=T20,pos:=p20,after:=f20,guard:=none},
 { dst:=some 45,op:=.call { callee:=.builtin .copy,args:= #[.tmp 43,.tmp 44],argTypes:= #[t,t]},type:=T21,pos:=p21,after:=f21,guard:=none}] false) (.seq (.region r11 #[{ dst:=some 46,op:=.move (.tmp 9),type:=T22,pos:=p22,after:= #[],guard:=none},
 { dst:=some 47,op:=.move (.tmp 1),type:=T23,pos:=p23,after:= #[],guard:=none},
 { dst:=some 48,op:=.move (.tmp 7),type:=T24,pos:=p24,after:= #[],guard:=none},
 { dst:=some 49,op:=.binOp .add tI (.tmp 47) (.tmp 48) tI,type:=T25,pos:=p25,after:= #[{ on:=1,ground:=.data}, { on:=2,ground:=.data}],guard:=none},
 { dst:=some 50,op:=.slice t (.tmp 46) (some (.tmp 49)) none none,type:=T26,pos:=p26,after:= #[{ on:=0,ground:=.data}, { on:=3,ground:=.data}],guard:=none},
 { dst:=some 51,op:=.move (.tmp 0),type:=T27,pos:=p27,after:= #[],guard:=none},
 { dst:=some 52,op:=.move (.tmp 1),type:=T28,pos:=p28,after:= #[],guard:=none},
 { dst:=some 53,op:=.slice t (.tmp 51) (some (.tmp 52)) none none,type:=T29,pos:=p29,after:= #[{ on:=5,ground:=.data}, { on:=6,ground:=.data}],guard:=none},
 { dst:=some 54,op:=.call { callee:=.builtin .copy,args:= #[.tmp 50,.tmp 53],argTypes:= #[t,t]},type:=T30,pos:=p30,after:= #[{ on:=4,ground:=.data}, { on:=7,ground:=.data}],guard:=none}] true) (.seq (.region r12 #[{ dst:=some 55,op:=.move (.tmp 9),type:=T31,pos:=p31,after:=f31,guard:=none},
 { dst:=some 6,op:=.assign (.tmp 55),type:=T32,pos:=p32,after:=f32,guard:=none}] false) (.ret)))):Code).wp X.P Q a w:=by
 have hs:=hA.sz;have h1:=hA.hi;have h2:=hA.hm;have h3:=hA.hn;have h4:=hA.hcm;have h5:=hA.hnm;simp only[maxLen]at h4 h5;obtain⟨_,_,_,hzz,_⟩:=hti.slice hd;have hu:=(hti.slice hd).1
 have hze:∀w:World,(sizeOf e).run X.P w=.ok esz w:=by
  obtain⟨_,inf,q1,q2,_⟩:=hti.slice hd;intro w;simp[sizeOf,typeInfo,q1,q2]
 have m1:(ix+m)*esz=ix*esz+m*esz:=R7 _ _ _;have m2:(n+m)*esz=n*esz+m*esz:=R7 _ _ _;have m3:n*esz=ix*esz+(n-ix)*esz:=by rw[←R7];congr 1;omega
 have m4:n*esz≤cur.length:=by rw[hA.hcs];exact a1d _ h3
 have hll:=hA.hll;have hcs:=hA.hcs;obtain⟨cs,hcsE⟩:∃cs,cs=(cur.take (n*esz)).drop (ix*esz):=⟨_,rfl⟩;have hcsl:cs.length=(n-ix)*esz:=by rw[hcsE];simp;omega
 have hcs1:∀v,v∈cs→v.oneCell'=true:=fun v hv=>hA.hc1 v (by rw[hcsE]at hv;exact a7n hv)
 have hcg:∀j v,cs[j]?=some v→cur[ix*esz+j]?=some v:=by
  intro j v hj;rw[hcsE,b0r,a5q]at hj;split at hj
  ·exact hj
  ·cases hj
 have hgs:g<w.heap.size:=(Z8.1 hA.hg).1;obtain⟨cA,tA,fA,hsa0,_⟩:=hA.hsl;have hss:sa.block<w.heap.size:=(Z8.1 hsa0).1;have e1:ix+(n+m-ix)=n+m:=by omega
 obtain⟨C0,c',happ0,hC0l,hcc,hcx,hC0t⟩:=c5R (k:=n+m-ix) hti hd hte hiz hA.hz hA.hint hA.hg (by simpa using hcs) (show ix≤cap by omega) (by omega) (by omega) (by rw[e1];exact hA.hb) (by rw[e1];exact hA.hnm)
 rw[e1]at happ0 hcc;obtain⟨B,hB⟩:∃B,B=w.heap.size:=⟨_,rfl⟩;obtain⟨C1,hC1⟩:∃C1,C1=C0.toList:=⟨_,rfl⟩;have hC10:C0=C1.toArray:=by rw[hC1]
 obtain⟨W1,hW1⟩:∃W1,W1=w.drew.alloc (.cells C1.toArray e):=⟨_,rfl⟩
 have happ:∀ty,(Builtin.append_ #[t,tI] ty #[.slice (some ⟨g,0,none⟩) ix cap,.int .i64 ((n+m-ix:Nat):Int)]).run X.P w=.ok (.slice (some ⟨B,0,none⟩) (n+m) (c')) W1:=by
  intro ty;rw[happ0,hW1,hC10,hB]
 have hC1l:C1.length=c'*esz:=by rw[hC1];simpa using hC0l
 have m6:(n+m)*esz≤c'*esz:=a1d _ hcc;rw[List.toList_toArray,←hC1]at hC0t;have hg1:W1.heap[B]?=some (.cells C1.toArray e (0,0)):=by rw[hW1,hB];exact heap_alloc_new w.drew _
 have hold:∀k,k<w.heap.size→W1.heap[k]?=w.heap[k]?:=by
  intro k hk;rw[hW1];exact heap_alloc_old w.drew _ hk
 obtain⟨C2,hC2⟩:∃C2,C2=C1.take (ix*esz)++ls++C1.drop (ix*esz+ls.length):=⟨_,rfl⟩;have hC2l:C2.length=C1.length:=by rw[hC2];simp;omega
 obtain⟨W2,hW2⟩:∃W2,W2=W1.setRow B C2.toArray:=⟨_,rfl⟩
 have hcp1:∀ty,(Builtin.copy_ #[t,t] ty #[.slice (some ⟨B,ix*esz,none⟩) (n+m-ix) (c'-ix),.slice (some sa) m mc]).run X.P W1=.ok (goInt (Nat.min m (n+m-ix))) W2:=by
  intro ty;rw[hW2,hC2];refine b4t W1 t t ty B _ _ _ _ _ _ C1 e ls hu hze hg1 ?_ (fun j v hj=>hA.hsv W1 (hold _ hss) j v hj) (by omega) hA.hl1;rw[hll];congr 1;simp only[Nat.min_def];split<;>omega
 have hg2:W2.heap[B]?=some (.cells C2.toArray e (0,0)):=by rw[hW2];exact setRow_heap _ _ _ _ _ _ hg1
 have hold2:∀k,k<w.heap.size→W2.heap[k]?=w.heap[k]?:=by
  intro k hk;rw[hW2,a5O _ _ _ _ (by omega)];exact hold k hk
 obtain⟨Wd,hWd⟩:∃Wd:World,Wd= { W2 with drawn:=W2.drawn+1}:=⟨_,rfl⟩
 have hWg:Wd.heap=W2.heap:=by rw[hWd]
 obtain⟨C3,hC3⟩:∃C3,C3=C2.take ((ix+m)*esz)++cs++C2.drop ((ix+m)*esz+cs.length):=⟨_,rfl⟩;have hC3l:C3.length=C1.length:=by rw[hC3];simp;omega
 obtain⟨W3,hW3⟩:∃W3,W3=Wd.setRow B C3.toArray:=⟨_,rfl⟩
 have hcp2:∀ty,(Builtin.copy_ #[t,t] ty #[.slice (some ⟨B,(ix+m)*esz,none⟩) (n+m-(ix+m)) (c'-(ix+m)),.slice (some ⟨g,ix*esz,none⟩) (n-ix) (cap-ix)]).run X.P Wd=.ok (goInt (Nat.min (n-ix) (n+m-(ix+m)))) W3:=by
  intro ty;rw[hW3,hC3];refine b4t Wd t t ty B _ _ _ _ _ _ C2 e cs hu hze (by rw[hWg];exact hg2) ?_ (fun j v hj=>?_) (by omega) hcs1
  ·rw[hcsl];congr 1;simp only[Nat.min_def];split<;>omega
  ·rw[O8];have:=hcg j v hj;simp[World.cell?,hWg,hold2 g hgs,hA.hg,this]
 have hg3:W3.heap[B]?=some (.cells C3.toArray e (0,0)):=by rw[hW3];exact setRow_heap _ _ _ _ _ _ (by rw[hWg];exact hg2)
 have hfin:C3.take ((n+m)*esz)=cur.take (ix*esz)++ls++(cur.take (n*esz)).drop (ix*esz):=by
  have:=c8P cur ls C1 C2 (ix*esz) (m*esz) (n*esz) (by omega) hll (by omega) hC0t (by omega) (by rw[hC2,hll]);rw[hC3,m2,m1,←this,hcsE,←hcsE,hcsl];congr 3;omega
 refine wp_seq (a7e ?_);show wpList _ _ _ _ (puts a []) _;refine E4 (v:=.slice (some ⟨g,0,none⟩) (n) (cap)) (w':=w) rfl rfl (a1f hs (by rfl) (x:=0) rfl (by exact hA.t0)) ?_;refine E4 (v:=.int .i64 ((ix:Nat):Int)) (w':=w) rfl rfl (a1f hs (by rfl) (x:=1) rfl (by exact hA.t1)) ?_;refine E4 (v:=.slice (some ⟨g,0,none⟩) (ix) (cap)) (w':=w) rfl rfl (d3n (x:=32) (y:=33) hti hd hs (by rfl) rfl (by exact rfl) (by exact rfl) (by omega)) ?_;refine E4 (v:=.int .i64 ((n:Nat):Int)) (w':=w) rfl rfl (a1f hs (by rfl) (x:=8) rfl (by exact hA.t8)) ?_;refine E4 (v:=.int .i64 ((m:Nat):Int)) (w':=w) rfl rfl (a1f hs (by rfl) (x:=7) rfl (by exact hA.t7)) ?_;refine E4 (v:=.int .i64 ((n+m:Nat):Int)) (w':=w) rfl rfl (b8b (x:=35) (y:=36) hs (by rfl) rfl (by exact rfl) (by exact rfl) (by omega)) ?_;refine E4 (v:=.int .i64 ((ix:Nat):Int)) (w':=w) rfl rfl (a1f hs (by rfl) (x:=1) rfl (by exact hA.t1)) ?_;refine E4 (v:=.int .i64 ((n+m-ix:Nat):Int)) (w':=w) rfl rfl (d2V (x:=37) (y:=38) hs (by rfl) rfl (by exact rfl) (by exact rfl) (by omega) (by omega)) ?_;refine E4 (v:=.slice (some ⟨B,0,none⟩) (n+m) (c')) (w':=W1) rfl rfl (b8t (b:=.append) (xs:=[34,39]) (vals:=[.slice (some ⟨g,0,none⟩) (ix) (cap),.int .i64 ((n+m-ix:Nat):Int)]) (by exact rfl) hs (by rfl) (by simp only[H7,a6v];congr 1) (fun cs=>by simp only[builtin,y9,happ,I9,O7])) ?_;refine E4 (v:=.slice (some ⟨B,0,none⟩) (n+m) (c')) (w':=W1) rfl rfl (d0s hs (by rfl) (x:=40) rfl (by exact rfl)) ?_;show Code.wp _ _ _ _ _;refine wp_seq (a7e ?_);refine E4 (v:=.slice (some ⟨B,0,none⟩) (n+m) (c')) (w':=W1) rfl rfl (a1f hs (by rfl) (x:=9) rfl (by exact rfl)) ?_;refine E4 (v:=.int .i64 ((ix:Nat):Int)) (w':=W1) rfl rfl (a1f hs (by rfl) (x:=1) rfl (by exact hA.t1)) ?_;refine E4 (v:=.slice (some ⟨B,ix*esz,none⟩) (n+m-ix) (c'-ix)) (w':=W1) rfl rfl (c2C (x:=41) (y:=42) hti hd hs (by rfl) rfl (by exact rfl) (by exact rfl) (by omega) (by omega)) ?_;refine E4 (v:=.slice (some sa) m mc) (w':=W1) rfl rfl (a1f hs (by rfl) (x:=2) rfl (by exact hA.t2)) ?_;refine E4 (v:=goInt (Nat.min m (n+m-ix))) (w':=W2) rfl rfl (b8t (b:=.copy) (xs:=[43,44]) (vals:=[.slice (some ⟨B,ix*esz,none⟩) (n+m-ix) (c'-ix),.slice (some sa) m mc]) (by exact rfl) hs (by rfl) (by simp only[H7,a6v];congr 1) (fun cs=>by simp only[builtin,y9,hcp1,I9,O7])) ?_;show Code.wp _ _ _ _ _;refine wp_seq (d1L (W1:=W3) hP hti hd (by rw[a5d];exact hs) (by rw[X9 _ _ (by rw[hs];rfl)];rfl) (by rw[X9 _ _ (by rw[hs];rfl)];exact hA.t0) (by rw[X9 _ _ (by rw[hs];rfl)];exact hA.t1) (by rw[X9 _ _ (by rw[hs];rfl)];exact hA.t7) (by omega) (by omega) (by omega) (by omega) (by omega) (by rw[←hWd];exact hcp2) ?_);show Code.wp _ _ _ _ _;rw[b5V];refine wp_seq (a7e ?_);show wpList _ _ _ _ (puts a (_::_::_::_::_::_::_::_::_::_)) _;refine E4 (v:=.slice (some ⟨B,0,none⟩) (n+m) (c')) (w':=W3) rfl rfl (a1f hs (by rfl) (x:=9) rfl (by exact rfl)) ?_;refine E4 (v:=.slice (some ⟨B,0,none⟩) (n+m) (c')) (w':=W3) rfl rfl (d0s hs (by rfl) (x:=55) rfl (by exact rfl)) ?_;show Code.wp _ _ _ _ _;refine wp_ret (hQ _ _ _ ?_ (by rw[a6U]) (by rw[X9 _ _ (by rw[hs];rfl)];rfl));refine⟨⟨B,c',C3.toArray,rfl,hg3,hcc,hcx,by simp[hC3l,hC1l],by simpa using hfin,.inr (by omega)⟩,?_⟩
 refine⟨by rw[hW3,hWd,hW2,hW1];rfl,by rw[hW3,hWd,hW2,hW1];rfl,by rw[hW3,hWd,hW2,hW1];rfl,by rw[hW3,setRow_size,hWg,hW2,setRow_size,hW1];simp,fun k hk hn=>?_⟩;rw[hW3,a5O _ _ _ _ (by omega),hWg];exact hold2 k hk
theorem c3t.puts{L:List (Nat×Value)}(h:c3t X a w t tI e esz bytes g n cap ix m mc sa ls cur)(hb:inB 95 L=true)(k0:lk L 0=none)(k1:lk L 1=none)(k2:lk L 2=none)(k7:lk L 7=none)(k8:lk L 8=none):c3t X (puts a L) w t tI e esz bytes g n cap ix m mc sa ls cur:=by
 have q:∀d,lk L d=none→(Sx.puts a L).tmps[d]?=a.tmps[d]?:=fun d hd=>by rw[X9 L d (by rw[h.sz];exact hb)];simp[lkA,hd]
 exact⟨by rw[a5d];exact h.sz,by rw[q _ k0];exact h.t0,by rw[q _ k1];exact h.t1,by rw[q _ k2];exact h.t2,by rw[q _ k7];exact h.t7,by rw[q _ k8];exact h.t8,h.hi,h.hm,h.hn,h.hcm,h.hnm,h.hb,h.hg,h.hcs,h.hll,h.hl1,h.hc1,h.hne,h.hsl,h.hsv,h.hint,h.hz⟩
inductive a9Q(t tI tB:TypeId)(ov:FuncId):Code→Prop
 |mk {T1 T2 T3 T4 T5 T6 T7 T8 T9 T10 T11 T12 T13 T14 T15 T16 T17 T18 T19 T20 T21 T22 T23 T24 T25 T26 T27 T28 T29 T30 T31 T32 T33 T34 T35 T36 T37 T38 T39 T40 T41 T42 T43 T44 T45 T46 T47 T48 T49 T50 T51 T52 T53 T54 T55 T56 T57 T58 T59 T60 T61 T62:TypeId}{p1 p2 p3 p4 p5 p6 p7 p8 p9 p10 p11 p12 p13 p14 p15 p16 p17 p18 p19 p20 p21 p22 p23 p24 p25 p26 p27 p28 p29 p30 p31 p32 p33 p34 p35 p36 p37 p38 p39 p40 p41 p42 p43 p44 p45 p46 p47 p48 p49 p50 p51 p52 p53 p54 p55 p56 p57 p58 p59 p60 p61 p62:String}{f1 f2 f3 f4 f5 f6 f7 f8 f9 f10 f11 f12 f13 f14 f15 f16 f17 f18 f19 f20 f21 f31 f32 f33 f34 f35 f36 f37 f38 f39 f40 f41 f42 f43 f44 f45 f46 f56 f57 f58 f59 f60 f61 f62:Array Edge}{r8 r9 r10 r11 r12 r13 r14 r15 r16 r17:Nat}{rest:Code}:a9Q t tI tB ov (Code.seq (.seq (.region r8 #[{ dst:=some 26,op:=.move (.tmp 8),type:=T1,pos:=p1,after:=f1,guard:=none},
  { dst:=some 27,op:=.move (.tmp 7),type:=T2,pos:=p2,after:=f2,guard:=none},
  { dst:=some 28,op:=.binOp .add tI (.tmp 26) (.tmp 27) tI,type:=T3,pos:=p3,after:=f3,guard:=none},
  { dst:=some 29,op:=.move (.tmp 0),type:=T4,pos:=p4,after:=f4,guard:=none},
  { dst:=some 30,op:=.call { callee:=.builtin .cap,args:= #[.tmp 29],argTypes:= #[t]},type:=T5,pos:=p5,after:=f5,guard:=none},
  { dst:=some 31,op:=.binOp .gtr tI (.tmp 28) (.tmp 30) tI,type:=T6,pos:=p6,after:=f6,guard:=none}] false) (.cond (.tmp 31) (.seq (.region r9 #[{ dst:=some 32,op:=.move (.tmp 0),type:=T7,pos:=p7,after:=f7,guard:=none},
  { dst:=some 33,op:=.move (.tmp 1),type:=T8,pos:=p8,after:=f8,guard:=none},
  { dst:=some 34,op:=.slice t (.tmp 32) none (some (.tmp 33)) none,type:=T9,pos:=p9,after:=f9,guard:=none},
  { dst:=some 35,op:=.move (.tmp 8),type:=T10,pos:=p10,after:=f10,guard:=none},
  { dst:=some 36,op:=.move (.tmp 7),type:=T11,pos:=p11,after:=f11,guard:=none},
  { dst:=some 37,op:=.binOp .add tI (.tmp 35) (.tmp 36) tI,type:=T12,pos:=p12,after:=f12,guard:=none},
  { dst:=some 38,op:=.move (.tmp 1),type:=T13,pos:=p13,after:=f13,guard:=none},
  { dst:=some 39,op:=.binOp .sub tI (.tmp 37) (.tmp 38) tI,type:=T14,pos:=p14,after:=f14,guard:=none},
  { dst:=some 40,op:=.call { callee:=.builtin .append,args:= #[.tmp 34,.tmp 39],argTypes:= #[t,tI]},type:=T15,pos:=p15,after:=f15,guard:=none},
  { dst:=some 9,op:=.assign (.tmp 40),type:=T16,pos:=p16,after:=f16,guard:=none}] false) (.seq (.region r10 #[{ dst:=some 41,op:=.move (.tmp 9),type:=T17,pos:=p17,after:=f17,guard:=none},
  { dst:=some 42,op:=.move (.tmp 1),type:=T18,pos:=p18,after:=f18,guard:=none},
  { dst:=some 43,op:=.slice t (.tmp 41) (some (.tmp 42)) none none,type:=T19,pos:=p19,after:=f19,guard:=none},
  { dst:=some 44,op:=.move (.tmp 2),type:=T20,pos:=p20,after:=f20,guard:=none},
  { dst:=some 45,op:=.call { callee:=.builtin .copy,args:= #[.tmp 43,.tmp 44],argTypes:= #[t,t]},type:=T21,pos:=p21,after:=f21,guard:=none}] false) (.seq (.region r11 #[{ dst:=some 46,op:=.move (.tmp 9),type:=T22,pos:=p22,after:= #[],guard:=none},
  { dst:=some 47,op:=.move (.tmp 1),type:=T23,pos:=p23,after:= #[],guard:=none},
  { dst:=some 48,op:=.move (.tmp 7),type:=T24,pos:=p24,after:= #[],guard:=none},
  { dst:=some 49,op:=.binOp .add tI (.tmp 47) (.tmp 48) tI,type:=T25,pos:=p25,after:= #[{ on:=1,ground:=.data}, { on:=2,ground:=.data}],guard:=none},
  { dst:=some 50,op:=.slice t (.tmp 46) (some (.tmp 49)) none none,type:=T26,pos:=p26,after:= #[{ on:=0,ground:=.data}, { on:=3,ground:=.data}],guard:=none},
  { dst:=some 51,op:=.move (.tmp 0),type:=T27,pos:=p27,after:= #[],guard:=none},
  { dst:=some 52,op:=.move (.tmp 1),type:=T28,pos:=p28,after:= #[],guard:=none},
  { dst:=some 53,op:=.slice t (.tmp 51) (some (.tmp 52)) none none,type:=T29,pos:=p29,after:= #[{ on:=5,ground:=.data}, { on:=6,ground:=.data}],guard:=none},
  { dst:=some 54,op:=.call { callee:=.builtin .copy,args:= #[.tmp 50,.tmp 53],argTypes:= #[t,t]},type:=T30,pos:=p30,after:= #[{ on:=4,ground:=.data}, { on:=7,ground:=.data}],guard:=none}] true) (.seq (.region r12 #[{ dst:=some 55,op:=.move (.tmp 9),type:=T31,pos:=p31,after:=f31,guard:=none},
  { dst:=some 6,op:=.assign (.tmp 55),type:=T32,pos:=p32,after:=f32,guard:=none}] false) (.ret))))) .skip)) (.seq (.region r13 #[{ dst:=some 56,op:=.move (.tmp 0),type:=T33,pos:=p33,after:=f33,guard:=none},
  { dst:=some 57,op:=.move (.tmp 8),type:=T34,pos:=p34,after:=f34,guard:=none},
  { dst:=some 58,op:=.move (.tmp 7),type:=T35,pos:=p35,after:=f35,guard:=none},
  { dst:=some 59,op:=.binOp .add tI (.tmp 57) (.tmp 58) tI,type:=T36,pos:=p36,after:=f36,guard:=none},
  { dst:=some 60,op:=.slice t (.tmp 56) none (some (.tmp 59)) none,type:=T37,pos:=p37,after:=f37,guard:=none},
  { dst:=some 0,op:=.assign (.tmp 60),type:=T38,pos:=p38,after:=f38,guard:=none}] false) (.seq (.seq (.region r14 #[{ dst:=some 61,op:=.move (.tmp 2),type:=T39,pos:=p39,after:=f39,guard:=none},
  { dst:=some 62,op:=.move (.tmp 0),type:=T40,pos:=p40,after:=f40,guard:=none},
  { dst:=some 63,op:=.move (.tmp 1),type:=T41,pos:=p41,after:=f41,guard:=none},
  { dst:=some 64,op:=.move (.tmp 7),type:=T42,pos:=p42,after:=f42,guard:=none},
  { dst:=some 65,op:=.binOp .add tI (.tmp 63) (.tmp 64) tI,type:=T43,pos:=p43,after:=f43,guard:=none},
  { dst:=some 66,op:=.slice t (.tmp 62) (some (.tmp 65)) none none,type:=T44,pos:=p44,after:=f44,guard:=none},
  { dst:=some 67,op:=.call { callee:=.value (.func ov),args:= #[.tmp 61,.tmp 66],argTypes:= #[t,t]},type:=T45,pos:=p45,after:=f45,guard:=none},
  { dst:=some 68,op:=.unOp .not tB (.tmp 67),type:=T46,pos:=p46,after:=f46,guard:=none}] false) (.cond (.tmp 68) (.seq (.region r15 #[{ dst:=some 69,op:=.move (.tmp 0),type:=T47,pos:=p47,after:= #[],guard:=none},
  { dst:=some 70,op:=.move (.tmp 1),type:=T48,pos:=p48,after:= #[],guard:=none},
  { dst:=some 71,op:=.move (.tmp 7),type:=T49,pos:=p49,after:= #[],guard:=none},
  { dst:=some 72,op:=.binOp .add tI (.tmp 70) (.tmp 71) tI,type:=T50,pos:=p50,after:= #[{ on:=1,ground:=.data}, { on:=2,ground:=.data}],guard:=none},
  { dst:=some 73,op:=.slice t (.tmp 69) (some (.tmp 72)) none none,type:=T51,pos:=p51,after:= #[{ on:=0,ground:=.data}, { on:=3,ground:=.data}],guard:=none},
  { dst:=some 74,op:=.move (.tmp 0),type:=T52,pos:=p52,after:= #[],guard:=none},
  { dst:=some 75,op:=.move (.tmp 1),type:=T53,pos:=p53,after:= #[],guard:=none},
  { dst:=some 76,op:=.slice t (.tmp 74) (some (.tmp 75)) none none,type:=T54,pos:=p54,after:= #[{ on:=5,ground:=.data}, { on:=6,ground:=.data}],guard:=none},
  { dst:=some 77,op:=.call { callee:=.builtin .copy,args:= #[.tmp 73,.tmp 76],argTypes:= #[t,t]},type:=T55,pos:=p55,after:= #[{ on:=4,ground:=.data}, { on:=7,ground:=.data}],guard:=none}] true) (.seq (.region r16 #[{ dst:=some 78,op:=.move (.tmp 0),type:=T56,pos:=p56,after:=f56,guard:=none},
  { dst:=some 79,op:=.move (.tmp 1),type:=T57,pos:=p57,after:=f57,guard:=none},
  { dst:=some 80,op:=.slice t (.tmp 78) (some (.tmp 79)) none none,type:=T58,pos:=p58,after:=f58,guard:=none},
  { dst:=some 81,op:=.move (.tmp 2),type:=T59,pos:=p59,after:=f59,guard:=none},
  { dst:=some 82,op:=.call { callee:=.builtin .copy,args:= #[.tmp 80,.tmp 81],argTypes:= #[t,t]},type:=T60,pos:=p60,after:=f60,guard:=none}] false) (.seq (.region r17 #[{ dst:=some 83,op:=.move (.tmp 0),type:=T61,pos:=p61,after:=f61,guard:=none},
  { dst:=some 6,op:=.assign (.tmp 83),type:=T62,pos:=p62,after:=f62,guard:=none}] false) (.ret)))) .skip)) rest)))
theorem c8B{ov:FuncId}(hP:POK X.P X.tt)(hti:P6 X.P t i)(hd:i.d=.slice e esz bytes)(hte:P6 X.P e ie)(hiz:ie.n=esz)(hA:c3t X a w t tI e esz bytes g n cap ix m mc sa ls cur)(hov0:c9r X.P t ov){tB:TypeId}{c:Code}(hc:a9Q t tI tB ov c)
 (hQ:∀a' W v',c3I w W g esz n m e (cur.take (ix*esz)++ls++(cur.take (n*esz)).drop (ix*esz)) v'→a'.defers=a.defers→a'.tmps[6]?=some v'→Q .ret a' W):c.wp X.P Q a w:=by
 cases hc;have hs:=hA.sz;have h1:=hA.hi;have h2:=hA.hm;have h3:=hA.hn;have h4:=hA.hcm;have h5:=hA.hnm;simp only[maxLen]at h4 h5;have hu:=(hti.slice hd).1
 have hcap:∀ty,(Builtin.cap_ #[t] ty #[.slice (some ⟨g,0,none⟩) (n) (cap)]).run X.P w=.ok (.int .i64 ((cap:Nat):Int)) w:=by
  intro ty;simp[Builtin.cap_,A5 hu,goInt]
 refine wp_seq (wp_seq (a7e ?_));show wpList _ _ _ _ (puts a []) _;refine E4 (v:=.int .i64 ((n:Nat):Int)) (w':=w) rfl rfl (a1f hs (by rfl) (x:=8) rfl (by exact hA.t8)) ?_;refine E4 (v:=.int .i64 ((m:Nat):Int)) (w':=w) rfl rfl (a1f hs (by rfl) (x:=7) rfl (by exact hA.t7)) ?_;refine E4 (v:=.int .i64 ((n+m:Nat):Int)) (w':=w) rfl rfl (b8b (x:=26) (y:=27) hs (by rfl) rfl (by exact rfl) (by exact rfl) (by omega)) ?_;refine E4 (v:=.slice (some ⟨g,0,none⟩) (n) (cap)) (w':=w) rfl rfl (a1f hs (by rfl) (x:=0) rfl (by exact hA.t0)) ?_;refine E4 (v:=.int .i64 ((cap:Nat):Int)) (w':=w) rfl rfl (b8t (b:=.cap) (xs:=[29]) (vals:=[.slice (some ⟨g,0,none⟩) (n) (cap)]) (by exact rfl) hs (by rfl) (by simp only[H7,a6v];congr 1) (fun cs=>by simp only[builtin,y9,hcap,I9,O7])) ?_;refine E4 (v:=.bool (decide (cap<n+m))) (w':=w) rfl rfl (d2h (x:=28) (y:=30) hs (by rfl) rfl (by exact rfl) (by exact rfl)) ?_;show Code.wp _ _ _ _ _;have hev:(puts a [(31,Value.bool (decide (cap<n+m))),(30,.int .i64 ((cap:Nat):Int)),(29,.slice (some ⟨g,0,none⟩) (n) (cap)),(28,.int .i64 ((n+m:Nat):Int)),(27,.int .i64 ((m:Nat):Int)),(26,.int .i64 ((n:Nat):Int))]).eval (.tmp 31)=.bool (decide (cap<n+m)):=F0 hs (by rfl) (by exact rfl);by_cases hroom:cap<n+m
 ·rw[decide_eq_true hroom]at hev⊢;refine wp_cond_true hev ?_;exact d3T hP hti hd hte hiz (hA.puts rfl rfl rfl rfl rfl rfl) hroom fun a' W v' h1 h2 h3=>hQ a' W v' h1 (by rw[h2,a6U]) h3
 ·rw[decide_eq_false hroom]at hev⊢;refine wp_cond_false hev (wp_skip ?_);show Code.wp _ _ _ _ _;exact d3N hP hti hd hte hiz (hA.puts rfl rfl rfl rfl rfl rfl) (by omega) hov0 fun a' W v' h1 h2 h3=>hQ a' W v' h1 (by rw[h2,a6U]) h3
end
theorem c6i{w:World}{b o:Nat}{v:Value}(h:w.cell? ⟨b,o,none⟩=some v):∃cA tA fA,w.heap[b]?=some (.cells cA tA fA)∧cA.size≠0:=by
 cases hb:w.heap[b]? with
 |none=>
  have h1:w.cell? ⟨b,o,none⟩=none:=by simp[World.cell?,hb]
  rw[h1]at h;cases h
 |some ob=>
  cases ob with
  |cells c t f=>
   refine⟨c,t,f,rfl,fun h0=>?_⟩;have h1:w.cell? ⟨b,o,none⟩=c[o]?:=by simp[World.cell?,hb]
   rw[h1,b3T (by omega)]at h;cases h
  |_=>
   have h1:w.cell? ⟨b,o,none⟩=none:=by simp[World.cell?,hb]
   rw[h1]at h;cases h
structure d1q(z bytes:Nat)(l':List D)(n':Nat)(ty:TypeId)(sy:Sy):Prop where
 ex:∃l1 n i m lv,u0 sy.T 0=some (.row 0 z)∧u0 sy.T 1=some (.v (.int .i64 ((i:Nat):Int)))∧u0 sy.T 2=some (.lst z m lv)∧u0 sy.T 7=some (.v (.int .i64 ((m:Nat):Int)))∧u0 sy.T 8=some (.v (.int .i64 ((n:Nat):Int)))∧
  m7 sy.H 0=some (.row z n l1 ty)∧i<n∧0<m∧(n+m)*bytes≤140737488355328∧n+m≤maxLen∧l'=l1.take (i*z)++lv++l1.drop (i*z)∧n'=n+m
theorem c7o:∀(l:List Value),(vs l).length=l.length
 |[]=>rfl
 |_::l=>by simp[vs,c7o l]
inductive a9T(t:TypeId)(c2:Code):Code→Prop
 |mk {T1 T2 T3 T4:TypeId}{p1 p2 p3 p4:String}{f1 f2 f3 f4:Array Edge}{r0 r1:Nat}:a9T t c2 (Code.seq (.region r0 #[{ dst:=some 6,op:=.assign (.const (.slice none 0 0)),type:=T1,pos:=p1,after:=f1,guard:=none}] false)
  (.seq (.region r1 #[{ dst:=some 10,op:=.move (.tmp 0),type:=T2,pos:=p2,after:=f2,guard:=none}, { dst:=some 11,op:=.move (.tmp 1),type:=T3,pos:=p3,after:=f3,guard:=none},
   { dst:=some 12,op:=.slice t (.tmp 10) (some (.tmp 11)) none none,type:=T4,pos:=p4,after:=f4,guard:=none}] false) c2))
theorem c7y{X:Cy}{Q:Exit→Act→World→Prop}{t e esz bytes B e':Nat}{i:TI}{a:Act}{w:World}{v:Value}{n ix:Nat}{xs:List Value}{c c2:Code}(hti:P6 X.P t i)(hd:i.d=.slice e esz bytes)(hc:a9T t c2 c)
 (hs:a.tmps.size=95) (h0:a.tmps[0]?=some v) (h1:a.tmps[1]?=some (.int .i64 (ix:Int))) (hown:w.ownsRow B e' esz v n xs) (hix:ix≤n)
 (hK:∀a':Act,a'.tmps.size=95→a'.defers=a.defers→(∀d,d<6→a'.tmps[d]?=a.tmps[d]?)→c2.wp X.P Q a' w):c.wp X.P Q a w:=by
 cases hc
 obtain⟨u,hu⟩:∃u,(Instr.sliceAt t v (some (.int .i64 (ix:Int))) none none).run X.P w=.ok u w:=by
  rcases hown.2 with⟨rfl,rfl⟩|⟨g,cap,cur,rfl,_,hg,hnc,_⟩
  ·obtain rfl:ix=0:=by omega
   have hu:=(hti.slice hd).1
   have hsz:(sizeOf e).run X.P w=.ok esz w:=by
    obtain⟨_,inf,h1,h2,_⟩:=hti.slice hd;simp[sizeOf,typeInfo,h1,h2]
   exact⟨.slice none 0 0,by simp[Instr.sliceAt,Instr.slice,A5 hu,Instr.sliceBounds,run_sliceBound,hsz]⟩
  ·obtain⟨o,h,_⟩:=c3w (X:=X) (g:=g) (cap:=cap) hti hd hix hnc w;exact⟨_,h⟩
 refine wp_seq (a7e ?_);show wpList _ _ _ _ (puts a []) _;refine E4 (v:=.slice none 0 0) (w':=w) rfl rfl (by simp[execOp,Act.eval]) ?_;show Code.wp _ _ _ _ _;refine wp_seq (a7e ?_);show wpList _ _ _ _ (puts a (_::_)) _;refine E4 (v:=v) (w':=w) rfl rfl (a1f hs (by rfl) (x:=0) rfl (by exact h0)) ?_;refine E4 (v:=.int .i64 (ix:Int)) (w':=w) rfl rfl (a1f hs (by rfl) (x:=1) rfl (by exact h1)) ?_
 refine E4 (v:=u) (w':=w) rfl rfl (by
  simp only[execOp,F0 (L:=[(11,Value.int .i64 (ix:Int)),(10,v),(6,.slice none 0 0)]) (e:=10) hs (by rfl) (by exact rfl),F0 (L:=[(11,Value.int .i64 (ix:Int)),(10,v),(6,.slice none 0 0)]) (e:=11) hs (by rfl) (by exact rfl),Option.map,y9,hu];rfl) ?_
 show Code.wp _ _ _ _ _;refine hK _ (by rw[a5d];exact hs) (by rw[a6U]) fun d hd=>?_
 rw[X9 _ _ (by rw[hs];rfl)];have:d=0∨d=1∨d=2∨d=3∨d=4∨d=5:=by omega
 rcases this with rfl|rfl|rfl|rfl|rfl|rfl<;>rfl
theorem c6X{X:Cy}(hP:POK X.P X.tt){f:FuncId}{fn:Func}{c:Code}{z n n':Nat}{l l':List D}{ty t tI tB:TypeId}{ov:FuncId}{args:List D}{i ie:TI}{bytes ix0:Nat}{c2:Code}
 (hf:X.P.funcs[f]?=some fn) (hb:fn.body=some c) (hn:X.nt=fn.ntmps) (hhd:a9T t c2 c) (htl:a9Q t tI tB ov (b3u 4 c2)) (hal:args.length≤1) (hix0:ix0≤n) (hi:D4 X.tt t=some i) (hd:i.d=.slice ty z bytes) (hie:D4 X.tt ty=some ie) (hiz:ie.n=z) (h95:fn.ntmps=95) (hres:fn.results= #[.tmp 6])
 (hint:X.P.underlying tI=some (.int .i64)) (hov:c9r X.P t ov) (hz:0<z)
 (h:c0x X 4 c2 ⟨a1Y 0 (.row 0 z:: .v (.int .i64 (ix0:Int))::args),[(0,.row z n l ty)],1⟩ (b6o X fn.results.toList z n' l' ty) (d1q z bytes l' n' ty)) (h0:X.dfs=[]:=by rfl) (hg:fn.ntmps≤L3:=by exact J6 rfl):b5E X.P f z n l ty (.v (.int .i64 (ix0:Int))::args) z n' l':=by
 intro ok w v vl hrow hnok hrep hok hgi;have hg0:=hg;obtain⟨xs,hown,hrl,hfl,hlen⟩:=hrow;obtain⟨hsim,hrel⟩:=b4R (X:=X) hn (by simp only[Y0];omega) hown hrl hfl hlen (fun b hb=>(hnok b hb).1) hrep hok h0 hg;have hA:=AG.lent hgi hnok;have hnok:=fun b hb=>(hnok b hb).1
 have q1:∃y,vl[0]?=some y∧y=.int .i64 (ix0:Int):=by
  cases vl with
  |nil=>simp[l5]at hrep
  |cons y r=>
   simp only[l5,Rep]at hrep;exact⟨y,rfl,hrep.1.1⟩
 obtain⟨y1,q1,rfl⟩:=q1;have hvl:vl.length≤2:=by rw[←hrep.length];simp;omega
 generalize hst0:(⟨a4O 0 (.row 0::vs vl),[(0,.row v n xs z ty)],1,w,w.heap.size,[]⟩:St)=st0 at hsim hrel;refine calls_of_wp hf hb (c7y (hP.tt t i hi) hd hhd (by rw[hrel.size.1];show X.nt=95;omega) ?_ ?_ hown hix0 fun a1 s1 s2 s3=>?_)
 ·show((v::vl).toArray++_)[0]?=some v;rw[a6S (by simp)];simp
 ·cases vl with
  |nil=>simp at q1
  |cons y r=>
   simp at q1;show((v::y::r).toArray++_)[1]?=_;rw[a6S (by simp)];simp[q1]
 have hrel1:Rel (cx X w (r6 v)) st0 a1 w:=by
  refine⟨⟨by rw[s1];show 95=X.nt;omega,hrel.size.2⟩,fun d s hs=>?_,by rw[s2];exact hrel.dfs,hrel.cls,hrel.lo,hrel.iv⟩
  have hd6:d<6:=by
   subst hst0;obtain⟨_,h2⟩:=a2N (n:=0) hs;have h3:=(P3.1 h2).1;rw[Y0,c7o]at h3;omega
  rcases hrel.T d s hs with h|h
  ·exact .inl h
  ·right;rw[N1,k9 (by simp only[L3];omega)]at h⊢;rw[s3 d hd6];exact h
 refine(b6N (A:=fun b=>b<w.heap.size→ok b∨b∈r6 v) (w0:=w) (bor:=r6 v) hA hP 4 c2 _ _ _ w _ _ h hsim hrel1 (fun e st' sy' a' w' hp hk hs' hl'=>?_) fun st' sy' a' w' hk hs' hl'=>?_)
 ·refine b9A hP hp hk hs' hl'.rel (fun v' hrow hbl=>⟨v',rfl,hbl,?_,?_⟩) h0
  ·obtain⟨xs',g1,g2,g3,g4⟩:=hrow;refine⟨xs',g1,l5.mono (fun b hbk=>⟨⟨?_,hbk.2⟩,rfl⟩) _ _ g2,g3,g4⟩;by_cases hlt:b<w.heap.size
   ·rcases hbk.1.1 hlt with h|h
    ·exact .inl h
    ·exact .inr (.inl h)
   ·exact .inr (.inr ⟨by omega,hbk.1.2⟩)
  ·exact hl'.rel.cls.fx0
 ·obtain⟨l1,n2,ix,m,lv,k0,k1,k2,k7,k8,kH,hix,hm,hbb,hnm,rfl,rfl⟩:=hk.ex;generalize b3u 4 c2=tc at htl⊢;have hr:=hl'.rel;obtain⟨e',hf',hre⟩:=hs'.H _ _ kH;cases e' with
  |blk=>exact hre.elim
  |mp=>exact hre.elim
  |row v1 n1 xs1 z1 ty1=>
   obtain⟨rfl,rfl,rfl,hrp,hfl1,hlen1⟩:=hre;have hdv:den st'.H (.row 0)=v1:=by simp[den,o5,hf']
   have tv:∀d x,d<X.nt→u0 sy'.T d=some (.v x)→a'.tmps[d]?=some x:=by
    intro d x hd hx;rcases hs'.T _ _ hx with h|⟨s,h1,h2⟩
    ·cases h
    ·simp only[j5]at h2;obtain⟨rfl,_⟩:=h2;rcases hr.T _ _ h1 with h|h
     ·cases h
     ·rw[N1,k9 (C5 hd (by rw[hn];exact hg0))]at h;rw[h];rfl
   have hnt:X.nt=95:=by omega
   have t0:a'.tmps[0]?=some v1:=by
    rcases hs'.T _ _ k0 with h|⟨s,h1,h2⟩
    ·cases h
    ·simp only[j5]at h2;obtain⟨rfl,_⟩:=h2;rcases hr.T _ _ h1 with h|h
     ·cases h
     ·rw[N1,k9 (by decide)]at h;rw[h,hdv]
   have t1:=tv 1 _ (by omega) k1;have t7:=tv 7 _ (by omega) k7;have t8:=tv 8 _ (by omega) k8
   obtain⟨y,t2,hy⟩:∃y,a'.tmps[2]?=some y∧Rep (okS (fun b=>b<w.heap.size→ok b∨b∈r6 v) st') w' (.lst z m lv) y:=by
    rcases hs'.T _ _ k2 with h|⟨s,h1,h2⟩
    ·cases h
    ·simp only[j5]at h2;obtain⟨y,rfl,h2⟩:=h2;refine⟨y,?_,Rep.mono (fun b hb=>⟨hb,(a5h hr.cls b hb).2⟩) _ _ h2⟩;rcases hr.T _ _ h1 with h|h
     ·cases h
     ·rw[N1,k9 (by decide)]at h;rw[h];rfl
   have hrp':l5 (okS (fun b=>b<w.heap.size→ok b∨b∈r6 v) st') w' l1 xs1:=l5.mono (fun b hb=>⟨hb,(a5h hr.cls b hb).2⟩) _ _ hrp;simp only[Rep]at hy;obtain⟨sa0,mc,rfl,hmc,_,hlv,hflv,hyc⟩:=hy
   obtain⟨sb,so,ls,rfl,hokb,hrls,hcell⟩:∃b o xs,sa0=some ⟨b,o,none⟩∧okS (fun b=>b<w.heap.size→ok b∨b∈r6 v) st' b∧l5 (okS (fun b=>b<w.heap.size→ok b∨b∈r6 v) st') w' lv xs∧∀j,j<m*z→w'.cell? ⟨b,o+j,none⟩=xs[j]?:=by
    rcases hyc with h|h
    ·omega
    ·exact h
   have hown1:=hr.cls.row hf';obtain⟨hx1,hx2⟩:=hown1;rcases hx2 with⟨_,h0⟩|⟨g,cap,cur,rfl,_,hg,hnc,hcm,hcs,htk⟩
   ·omega
   have hgb:g∈bs st'.H:=A3.2 ⟨0,_,o7 hf',by simp[bsE,r6]⟩;have hgl:=hr.cls.lb g hgb;have hlsl:ls.length=m*z:=by rw[←hrls.length,hlv]
   have hpos:0<m*z:=Nat.mul_pos hm hz;have one:∀ {l:List D}{r:List Value},l5 (okS (fun b=>b<w.heap.size→ok b∨b∈r6 v) st') w' l r→B4 l=true→∀x,x∈r→x.oneCell'=true:=fun hrr hff x hx=>by rw[←a9M];exact l5.one hrr hff x hx
   have hsb:∃cA tA fA,w'.heap[sb]?=some (.cells cA tA fA)∧cA.size≠0:=by
    have h1:=hcell 0 hpos;rw[J7 (by omega)]at h1;exact c6i h1
   have hIA:c3t X a' w' t tI ty z bytes g n2 cap ix m mc ⟨sb,so,none⟩ ls cur.toList:=by
    refine⟨by rw[hr.size.1];exact hnt,t0,t1,t2,t7,t8,hix,hm,hnc,hcm,hnm,hbb,by simpa using hg,by simpa using hcs,hlsl,one hrls hflv,?_,?_,hsb,?_,hint,hz⟩
    ·rw[htk];exact one hrp' hfl1
    ·exact fun e=>hokb.2.2 g hgb e.symm
    ·intro W hW j u hu;have hj:j<m*z:=by rw[←hlsl];exact(P3.1 hu).1
     rw[O8,←hu,←hcell j hj];simp only[World.cell?];rw[hW]
   refine c8B hP (hP.tt t i hi) hd (hP.tt ty ie hie) hiz hIA hov htl fun a'' W v' hO hdf h6=>?_
   obtain⟨⟨g',c',C,rfl,hg',hc1,hc2,hCs,hCt,hgg⟩,hfx⟩:=hO;show bodyPost _ _ _ .ret _ _;have f0:=hr.cls.fx0
   have hgl':g'∈r6 v∨w.heap.size≤g':=by
    rcases hgg with rfl|h
    ·exact hgl
    ·exact .inr (z6 f0.size h)
   refine⟨by rw[hdf];exact hr.dfs.trans h0,.slice (some ⟨g',0,none⟩) (n2+m) c',?_,_,rfl,?_,?_,?_⟩
   ·rw[show results fn a''.tmps=_ from by unfold results;rw[hres]];simp[h6]
   ·intro b hb;simp[r6]at hb;subst hb;exact hgl'
   ·have hcx:cur.toList.take (ix*z)=xs1.take (ix*z):=by
     rw[←htk,a9w,a1Q (a1d _ (a5j hix))]
    rw[hcx,htk]at hCt;have hl2:(n2+m)*z=n2*z+m*z:=R7 _ _ _;have hl3:ix*z≤n2*z:=a1d _ (a5j hix);refine⟨xs1.take (ix*z)++ls++xs1.drop (ix*z),⟨?_,.inr ⟨g',c',C,rfl,L0 _,hg',hc1,hc2,hCs,hCt⟩⟩,?_,?_,?_⟩
    ·rw[O6,O6,Z5,a7V,hx1,hlsl,hl2];omega
    ·refine l5.mono (fun b hb=>?_) _ _ (l5.app (l5.app (l5.take hrp' (ix*z)) hrls) (l5.drop hrp' (ix*z)));have hb2:=a5h hr.cls b hb;have hbw:b<w'.heap.size:=hb2.1.2.1;have hbg:b≠g:=fun e=>hb.2.2 g hgb e.symm
     have hbg':b≠g':=by
      rcases hgg with rfl|h
      ·exact hbg
      ·omega
     refine⟨⟨?_,by simpa[r6]using hbg'⟩,hfx.block b hbw fun c hc=>by simp at hc;subst hc;exact fun e=>hbg e.symm⟩
     by_cases hlt:b<w.heap.size
     ·rcases hb.1.2 hlt with h|h
      ·exact .inl h
      ·exact .inr (.inl h)
     ·exact .inr (.inr ⟨by omega,C5 hbw hfx.size⟩)
    ·refine M3 fun d hd=>?_
     rcases E3.1 hd with hd|hd
     ·rcases E3.1 hd with hd|hd
      ·exact A9 hfl1 (a4M hd)
      ·exact A9 hflv hd
     ·exact A9 hfl1 (a7n hd)
    ·rw[O6,O6,Z5,a7V,hlen1,hlv,hl2];omega
   ·refine⟨hfx.os.trans f0.os,hfx.tape.trans f0.tape,hfx.output.trans f0.output,z6 f0.size hfx.size,fun k hk hn=>?_⟩
    have hkg:∀c,c∈ [g]→c≠k:=by
     intro c hc e;simp at hc;subst hc;subst e;rcases hgl with h|h
     ·exact hn _ h rfl
     ·exact absurd hk (Nat.not_lt.2 h)
    rw[hfx.block k (C5 hk f0.size) hkg];exact f0.block k hk hn
theorem c6n{X:Cy}(hP:POK X.P X.tt){f:FuncId}{fn:Func}{c:Code}{z n n':Nat}{l l':List D}{ty t tI tB:TypeId}{ov:FuncId}{args:List D}{i ie:TI}{bytes:Nat}{ix:Int}{c2:Code}
 (hf:X.P.funcs[f]?=some fn) (hb:fn.body=some c) (hn:X.nt=fn.ntmps) (hhd:a9T t c2 c) (htl:a9Q t tI tB ov (b3u 4 c2)) (hal:args.length≤1) (hix0:0≤ix∧ix.toNat≤n) (hi:D4 X.tt t=some i) (hd:i.d=.slice ty z bytes) (hie:D4 X.tt ty=some ie) (hiz:ie.n=z) (h95:fn.ntmps=95) (hres:fn.results= #[.tmp 6])
 (hint:X.P.underlying tI=some (.int .i64)) (hov:c9r X.P t ov) (hz:0<z)
 (h:b9E X 4 c2 ⟨a1Y 0 (.row 0 z::DI ix::args),[(0,.row z n l ty)],1⟩ (b6o X fn.results.toList z n' l' ty) (d1q z bytes l' n' ty)) (h0:X.dfs=[]:=by rfl) (hg:fn.ntmps≤L3:=by exact J6 rfl):b5E X.P f z n l ty (DI ix::args) z n' l':=by
 obtain⟨k,rfl⟩:∃k:Nat,ix=(k:Int):=⟨ix.toNat,(b2K hix0.1).symm⟩;exact c6X hP hf hb hn hhd htl hal (by have:=hix0.2;simpa using this) hi hd hie hiz h95 hres hint hov hz (by rw[b8u]at h;exact h) h0 hg
theorem d4m{α:Type}{c:α→List D}{z bytes:Nat}{l lv:List α}{i:Int}{ty:TypeId}{T:List (Nat×D)}{H:Hy}{nk:Nat}(hc:∀x,(c x).length=z)
 (h:0≤i∧i.toNat<l.length∧0<lv.length∧(l.length+lv.length)*bytes≤140737488355328∧l.length+lv.length≤9223372036854775807)
 (h0:u0 T 0=some (.row 0 z):=by rfl) (h1:u0 T 1=some (DI i):=by rfl) (h2:u0 T 2=some (.lst z lv.length (lv.flatMap c)):=by rfl) (h7:u0 T 7=some (DI lv.length):=by rfl) (h8:u0 T 8=some (DI l.length):=by rfl)
 (hH:m7 H 0=some (.row z l.length (l.flatMap c) ty):=by rfl):d1q z bytes ((l.take i.toNat++lv++l.drop i.toNat).flatMap c) (l.take i.toNat++lv++l.drop i.toNat).length ty ⟨T,H,nk⟩:=by
 obtain⟨g1,g2,g3,g4,g5⟩:=h;refine⟨l.flatMap c,l.length,i.toNat,lv.length,lv.flatMap c,h0,?_,h2,h7,h8,hH,g2,g3,g4,by simpa[maxLen]using g5,?_,?_⟩
 ·rw[h1,b2K g1]
 ·rw[List.flatMap_append,List.flatMap_append,a9I hc];congr 1;have h3:(l.take i.toNat).flatMap c++(l.drop i.toNat).flatMap c=l.flatMap c:=by rw[←List.flatMap_append,b0m]
  have h4:((l.take i.toNat).flatMap c).length=i.toNat*z:=by
   rw[a1k hc,Z5,a1Q (a5j g2)]
  rw[←h3,List.drop_left' h4]
 ·simp;omega
abbrev b0i(x:Int):List D:=[.v (.int .u8 x)]
def J2(s:ByteArray):List Int:=s.data.toList.map fun b=>(b.toNat:Int)
theorem b5b{s:ByteArray}{y:List Int}{c:Int→List D}(hc:∀x,c x=[.v (.int .u8 x)])(h:some (J2 s)=some y):b3c s=y.flatMap c∧s.size=y.length:=by
 cases h;refine⟨?_,by simp[J2]⟩;unfold b3c J2
 induction s.data.toList with
 |nil=>rfl
 |cons b l ih=>rw[H7,ih,H7,U0,hc];rfl
theorem b9f{c:Int→List D}(hc:∀x,c x=[.v (.int .u8 x)]):∀(y:List Int),y.flatMap c=y.map fun x=>.v (.int .u8 x)
 |[]=>rfl
 |x::y=>by rw[U0,hc,b9f hc y];rfl
section
variable {K V : Type}
def mpE(ag:Bool)(kc:K→List Value)(ev:V→Value)(l:List (K×V)):List (Value×Value):=l.map fun p=>(H3 ag (kc p.1),ev p.2)
variable [DecidableEq K]
def E2:List (K×V)→K→Option V
 |[],_=>none
 |(a,v)::r,k=>if k=a then some v else E2 r k
def a8C:List (K×V)→K→V→List (K×V)
 |[],k,v=>[(k,v)]
 |(a,x)::r,k,v=>if k=a then(k,v)::r else(a,x)::a8C r k v
variable {ag : Bool}{kc : K → List Value}{ev : V → Value}
theorem c3v(hk:∀a b,a0j (kc a) (D5 (H3 ag (kc b)))=decide (a=b))(k:K):∀(l:List (K×V)),b2p (mpE ag kc ev l) (kc k)=(E2 l k).map ev
 |[]=>rfl
 |(a,v)::r=>by
  have:=c3v hk k r;simp only[mpE,H7,b2p,hk,E2]at this⊢;by_cases h:k=a
  ·simp[h]
  ·simp[h,this]
theorem a5o(hk:∀a b,a0j (kc a) (D5 (H3 ag (kc b)))=decide (a=b)){k:K}{l:List (K×V)}{z:Value}{z':V}(hz:z=ev z'):(b2p (mpE ag kc ev l) (kc k)).getD z=ev ((E2 l k).getD z'):=by
 rw[c3v hk,hz];cases E2 l k<;>rfl
theorem a5E(hk:∀a b,a0j (kc a) (D5 (H3 ag (kc b)))=decide (a=b)){k:K}{l:List (K×V)}:(b2p (mpE ag kc ev l) (kc k)).isSome=(E2 l k).isSome:=by
 rw[c3v hk];cases E2 l k<;>rfl
theorem b9P(hk:∀a b,a0j (kc a) (D5 (H3 ag (kc b)))=decide (a=b)){k:K}{v:V}:∀ {l:List (K×V)},a8N (H3 ag (kc k)) (ev v) (mpE ag kc ev l) (kc k)=mpE ag kc ev (a8C l k v)
 |[]=>rfl
 |(a,x)::r=>by
  have:=b9P hk (k:=k) (v:=v) (l:=r);simp only[mpE,H7,a8N,hk,a8C]at this⊢;by_cases h:k=a
  ·simp[h]
  ·simp[h,this]
end
def O3(n:Int):ByteArray:=⟨(Lib.itoa n).toArray⟩
structure a9j(P:Program)(nm:String)(b:Nat):Prop where
 at_:(P.globals[b]?).map (·.name)=some nm
 nm:P.globalNamed nm=some b
theorem a9j.get{P:Program}{nm:String}{b:Nat}(h:a9j P nm b):∃g,P.globals[b]?=some g∧g.name=nm:=by
 have:=h.at_;cases hg:P.globals[b]? with
 |none=>simp[hg]at this
 |some g=>simp[hg]at this;exact⟨g,rfl,this⟩
theorem GIW.tab {P:Program}{w:World} (h:GIW P w) {b:Nat} (hg:a9j P "internal/strconv.uint64pow10" b):Lib.TabIs P w "internal/strconv.uint64pow10" .u64 Lib.pow10Tab:=by
 obtain⟨g,h1,h2⟩:=hg.get;unfold Lib.TabIs;rw[h.pow10 h1 h2 hg.nm];rfl
theorem GIW.errs {P:Program}{w:World} (h:GIW P w) {b:Nat} (hg:a9j P "strconv.ErrSyntax" b∨a9j P "strconv.ErrRange" b):∃tp p,w.cell? ⟨b,0,none⟩=some (.iface tp p):=by
 rcases hg with hg|hg
 ·obtain⟨g,h1,h2⟩:=hg.get;exact h.err h1 (.inl h2)
 ·obtain⟨g,h1,h2⟩:=hg.get;exact h.err h1 (.inr h2)
theorem d0Y{ok:Nat→Prop}{w:World}{x:Value}{vs:List Value}(h:l5 ok w [.v x] vs):vs=[x]:=by
 match vs,h with
 |[v],h=>simp only[l5,Rep]at h;rw[h.1.1]
 |[],h=>simp[l5]at h
 |_::_::_,h=>simp[l5]at h
theorem d0M{ok:Nat→Prop}{w:World}{x y:Value}{vs:List Value}(h:l5 ok w [.v x,.v y] vs):vs=[x,y]:=by
 match vs,h with
 |[a,b],h=>simp only[l5,Rep]at h;rw[h.1.1,h.2.1.1]
 |[],h=>simp[l5]at h
 |[_],h=>simp[l5]at h
 |_::_::_::_,h=>simp[l5]at h
section
variable {P : Program}{ρ : Go.Shelf.Ren}
theorem c0n(L:Go.Proofs.LaysM.n316 P ρ)(s:ByteArray)(h:s.size≤281474976710656):p0 P (ρ.f 316) [.v (.string s)] fun x=>x=.v (.string s):=by
 intro ok w vs hr _ _;rw[d0Y hr];exact(Go.Proofs.Any.stringslite_Clone L s w h).mono fun e w' ⟨he,hb⟩=>⟨_,_,he,rfl,by simp[Rep,a3T],hb⟩
theorem c1i(L:Go.Proofs.Lays.n219 P ρ)(s:ByteArray)(c:UInt8):p0 P (ρ.f 219) [.v (.string s),.v (.string ⟨#[c]⟩)] fun x=>x=.v (.int .i64 (Lib.indexByte s.data.toList c)):=by
 intro ok w vs hr _ _;rw[d0M hr];refine(Go.Proofs.Any.stringslite_Index_one L s c w).mono fun e w' ⟨he,hw⟩=>?_
 subst hw;exact⟨_,_,he,rfl,by simp[Rep,a3T],⟨rfl,rfl,rfl,y6 _,fun _ _=>rfl⟩⟩
theorem b8Z(L:Go.Proofs.Lays.n219 P ρ)(s sep:ByteArray)(h:sep.size=1):p0 P (ρ.f 219) [.v (.string s),.v (.string sep)] fun x=>x=.v (.int .i64 (Lib.indexByte s.data.toList (sep.data.toList.headD 0))):=by
 obtain⟨⟨l⟩⟩:=sep
 match l,h with
 |[c],_=>exact c1i L s c
end
theorem p0.contract{P:Program}{f:FuncId}{ds:List D}{r:D}(h:p0 P f ds fun x=>x=r){w:World}{vs:List Value}(hr:l5 (fun _=>False) w ds vs)(hg:GIW P w):
 Calls P f vs.toArray w fun e w'=>∃v,e=.returned v∧Rep (fun b=>w.heap.size≤b∧b<w'.heap.size) w' r v∧Below w.heap.size w w':=by
 refine(h (fun _=>False) w vs hr (fun _ hb=>hb.elim) hg).mono fun e w' ⟨v,r',he,hq,hrep,hb⟩=>?_
 subst hq;exact⟨v,he,Rep.mono (fun b hb=>⟨by simpa using hb,rfl⟩) _ _ hrep,hb⟩
theorem b8V{P:Program}{w:World}{nm:String}{b:Nat}{cs:Array Value}(hg:P.globalNamed nm=some b)(h:w.var? P nm=some cs):∃ty fr,w.heap[b]?=some (.cells cs ty fr):=by
 unfold World.var? at h;rw[hg,j7]at h;cases hb:w.heap[b]? with
 |none=>rw[hb]at h;cases h
 |some o=>
  rw[hb]at h;cases o with
  |cells c ty fr=>cases h;exact⟨ty,fr,rfl⟩
  |_=>cases h
theorem GIW.ofLaid{P:Program}{w:World}{last:String}{b:Nat}{cs:Array Value}{tp tp':TypeId}{p p':Value}(hn:P.globals.size=b+1)(hlast:P.globalNamed last=some b)(hv:w.var? P last=some cs)
 (h10:Lib.TabIs P w "internal/strconv.uint64pow10" .u64 Lib.pow10Tab) (hs:w.var? P "strconv.ErrSyntax" =some #[.iface tp p]) (hr:w.var? P "strconv.ErrRange" =some #[.iface tp' p'])
 (hu:∀(b:Nat) (g:Global),P.globals[b]?=some g→P.globalNamed g.name=some b):GIW P w:=by
 refine⟨?_,fun b g hg=>⟨fun e=>?_,fun e=>?_⟩⟩
 ·obtain⟨ty,fr,h⟩:=b8V hlast hv;have:=(Z8.1 h).1;omega
 ·have hb:=hu b g hg;rw[e]at hb;obtain⟨ty,fr,h⟩:=b8V hb h10;exact⟨ty,fr,by rw[h];rfl⟩
 ·have hb:=hu b g hg;rcases e with e|e
  ·rw[e]at hb;obtain⟨ty,fr,h⟩:=b8V hb hs;exact⟨_,_,ty,fr,h⟩
  ·rw[e]at hb;obtain⟨ty,fr,h⟩:=b8V hb hr;exact⟨_,_,ty,fr,h⟩
def InK(k:IntKind)(x:Int):Prop:=k.min≤x∧x≤k.max
structure w9(P:Program)(t:TypeId){X:Type}(c:X→List D)(G:X→Prop):Prop where
 op:∀ {H:Type} (enc:TypeId×Value→H) (w:World) (fuel:Nat) (cs:List Value) (d:DataW H) (ps:List MemPlace),DataW.trod enc P w 0 (fun _=>true) true fuel t cs=some (d,ps)→(∀n,n∈d.weights P t→n≤reachBytes)→
  ∃x,l5 (fun b=>b<w.heap.size) w (c x) cs∧G x
structure F9(P:Program)(fs:List Field)(o n:Nat){X:Type}(c:X→List D)(G:X→Prop):Prop where
 op:∀ {H:Type} (enc:TypeId×Value→H) (w:World) (fuel:Nat) (cs:List Value) (xs:List (DataW H×List MemPlace)),cs.length=n→(fs.mapM fun f=>DataW.trod enc P w 0 (fun _=>true) true fuel f.type ((cs.drop f.offset).take (P.cellsOf f.type)))=some xs→
  (∀m,m∈DataW.weightsEach P (fs.map (·.type)) (xs.map (·.1))→m≤reachBytes)→∃x,l5 (fun b=>b<w.heap.size) w (c x) (cs.drop o)∧G x
structure a1m(P:Program)(e:TypeId)(is:List Nat)(o n:Nat){X:Type}(c:X→List D)(G:X→Prop):Prop where
 op:∀ {H:Type} (enc:TypeId×Value→H) (w:World) (fuel:Nat) (cs:List Value) (xs:List (DataW H×List MemPlace)),cs.length=n→(is.mapM fun i=>DataW.trod enc P w 0 (fun _=>true) true fuel e ((cs.drop (i*P.cellsOf e)).take (P.cellsOf e)))=some xs→
  (∀m,m∈DataW.weightsAll P e (xs.map (·.1))→m≤reachBytes)→∃x,l5 (fun b=>b<w.heap.size) w (c x) (cs.drop o)∧G x
section
variable {P : Program}{t e : TypeId}
theorem c6a{α β:Type}{f:α→Option β}:∀ {l:List α}{r:List β},l.mapM f=some r→r.length=l.length∧∀(i:Nat) (a:α),l[i]?=some a→∃b,r[i]?=some b∧f a=some b:=by
 intro l
 induction l with
 |nil=>intro r h;simp at h;subst h;simp
 |cons a l ih=>
  intro r h;rw[List.mapM_cons]at h;cases ha:f a with
  |none=>rw[ha]at h;cases h
  |some b=>
   rw[ha]at h;cases hl:l.mapM f with
   |none=>rw[hl]at h;cases h
   |some s=>
    rw[hl]at h;cases h;obtain⟨h1,h2⟩:=ih hl;refine⟨by simp[h1],fun i x hx=>?_⟩;cases i with
    |zero=>simp at hx;subst hx;exact⟨b,by simp,ha⟩
    |succ i=>simp at hx;simpa using h2 i x hx
theorem a5k{α β:Type}{f:α→Option β}{a:α}{l:List α}{r:List β}(h:(a::l).mapM f=some r):∃b s,f a=some b∧l.mapM f=some s∧r=b::s:=by
 rw[List.mapM_cons]at h;cases ha:f a with
 |none=>rw[ha]at h;cases h
 |some b=>
  rw[ha]at h;cases hl:l.mapM f with
  |none=>rw[hl]at h;cases h
  |some s=>rw[hl]at h;cases h;exact⟨b,s,rfl,rfl,rfl⟩
theorem w9.int{k:IntKind}(hu:P.underlying t=some (.int k)):w9 P t (fun x:Int=>[.v (.int k x)]) (fun x=>InK k x):=by
 refine⟨fun enc w fuel cs d ps h _=>?_⟩;obtain⟨n,rfl,_,hwf⟩:=DataW.trod_int hu h;exact⟨n,⟨⟨rfl,rfl⟩,trivial⟩,by simpa[Lit.wf,InK]using hwf⟩
theorem w9.bool(hu:P.underlying t=some .bool):w9 P t (fun x:Bool=>[.v (.bool x)]) (fun _=>True):=by
 refine⟨fun enc w fuel cs d ps h _=>?_⟩;obtain⟨b,rfl,_⟩:=DataW.trod_bool hu h;exact⟨b,⟨⟨rfl,rfl⟩,trivial⟩,trivial⟩
theorem w9.str(hu:P.underlying t=some .string):w9 P t (fun x:ByteArray=>[.v (.string x)]) (fun x=>x.size≤reachBytes):=by
 refine⟨fun enc w fuel cs d ps h hw=>?_⟩;obtain⟨s,rfl,hx,_⟩:=DataW.trod_string hu h;cases hx;refine⟨s,⟨⟨rfl,rfl⟩,trivial⟩,?_⟩;have:=hw s.data.toList.length (by simp[DataW.weights]);simpa using this
theorem w9.iso{X Y:Type}{c:X→List D}{G:X→Prop}{c':Y→List D}{G':Y→Prop}(h:w9 P t c G)(f:X→Y)(hc:∀x,c x=c' (f x))(hG:∀x,G x→G' (f x)):w9 P t c' G':=
 ⟨fun enc w fuel cs d ps ht hw=>by obtain⟨x,h1,h2⟩:=h.op enc w fuel cs d ps ht hw;exact⟨f x,hc x▸h1,hG x h2⟩⟩
theorem F9.nil{o:Nat}:F9 P [] o o (fun _:Unit=>[]) (fun _=>True):=
 ⟨fun enc w fuel cs xs hl _ _=>⟨(),by rw[List.drop_of_length_le (by omega)];trivial,trivial⟩⟩
theorem F9.cons{f:Field}{fs:List Field}{o s n:Nat}{X Y:Type}{c:X→List D}{G:X→Prop}{c':Y→List D}{G':Y→Prop}(h:w9 P f.type c G)(hk:F9 P fs (o+s) n c' G')(ho:f.offset=o)(hs:P.cellsOf f.type=s):
 F9 P (f::fs) o n (fun x:X×Y=>c x.1++c' x.2) (fun x=>G x.1∧G' x.2):=by
 refine⟨fun enc w fuel cs xs hl hm hw=>?_⟩;obtain⟨b,r,h1,h2,rfl⟩:=a5k hm;obtain⟨d,ps⟩:=b;simp only[H7,DataW.weightsEach]at hw;obtain⟨x,g1,g2⟩:=h.op enc w fuel _ d ps h1 fun n hn=>hw n (a6P _ hn)
 obtain⟨y,g3,g4⟩:=hk.op enc w fuel cs r hl h2 fun n hn=>hw n (a6p _ hn)
 rw[ho,hs]at g1;refine⟨(x,y),?_,g2,g4⟩;have:cs.drop o=(cs.drop o).take s++cs.drop (o+s):=by rw[←List.drop_drop,b0m]
 rw[this];exact l5.app g1 g3
theorem F9.last{f:Field}{o s n:Nat}{X:Type}{c:X→List D}{G:X→Prop}(h:w9 P f.type c G)(ho:f.offset=o)(hs:P.cellsOf f.type=s)(hn:o+s=n):F9 P [f] o n c G:=by
 subst hn;refine⟨fun enc w fuel cs xs hl hm hw=>?_⟩;obtain⟨x,h1,h2⟩:=(F9.cons h (F9.nil (P:=P) (o:=o+s)) ho hs).op enc w fuel cs xs hl hm hw;exact⟨x.1,by simpa using h1,h2.1⟩
theorem w9.struct{F:Array Field}{n:Nat}{X:Type}{c:X→List D}{G:X→Prop}(hu:P.underlying t=some (.struct F))(h:F9 P F.toList 0 n c G)(hn:P.cellsOf t=n):w9 P t c G:=by
 refine⟨fun enc w fuel cs d ps ht hw=>?_⟩;cases fuel with
 |zero=>simp[DataW.trod]at ht
 |succ fuel=>
  simp only[DataW.trod,hu]at ht;split at ht
  ·rename_i hl;rw[Option.map_eq_some_iff]at ht;obtain⟨xs,hx,he⟩:=ht;cases he;simp only[DataW.weights,hu]at hw;obtain⟨x,h1,h2⟩:=h.op enc w fuel cs xs (by omega) hx hw;exact⟨x,by simpa using h1,h2⟩
  ·cases ht
theorem a1m.last{i o s n:Nat}{X:Type}{c:X→List D}{G:X→Prop}(h:w9 P e c G)(ho:i*s=o)(hs:P.cellsOf e=s)(hn:o+s=n):a1m P e [i] o n c G:=by
 refine⟨fun enc w fuel cs xs hl hm hw=>?_⟩;obtain⟨b,r,h1,h2,rfl⟩:=a5k hm;obtain⟨d,ps⟩:=b;simp only[H7,DataW.weightsAll]at hw;obtain⟨x,g1,g2⟩:=h.op enc w fuel _ d ps h1 fun n hn=>hw n (a6P _ hn)
 rw[hs,ho]at g1;refine⟨x,?_,g2⟩;rwa [a5m (by simp;omega)]at g1
theorem a1m.cons{i:Nat}{is:List Nat}{o s n:Nat}{X Y:Type}{c:X→List D}{G:X→Prop}{c':Y→List D}{G':Y→Prop}(h:w9 P e c G)(hk:a1m P e is (o+s) n c' G')(ho:i*s=o)(hs:P.cellsOf e=s):
 a1m P e (i::is) o n (fun x:X×Y=>c x.1++c' x.2) (fun x=>G x.1∧G' x.2):=by
 refine⟨fun enc w fuel cs xs hl hm hw=>?_⟩;obtain⟨b,r,h1,h2,rfl⟩:=a5k hm;obtain⟨d,ps⟩:=b;simp only[H7,DataW.weightsAll]at hw;obtain⟨x,g1,g2⟩:=h.op enc w fuel _ d ps h1 fun n hn=>hw n (a6P _ hn)
 obtain⟨y,g3,g4⟩:=hk.op enc w fuel cs r hl h2 fun n hn=>hw n (a6p _ hn)
 rw[hs,ho]at g1;refine⟨(x,y),?_,g2,g4⟩;have:cs.drop o=(cs.drop o).take s++cs.drop (o+s):=by rw[←List.drop_drop,b0m]
 rw[this];exact l5.app g1 g3
theorem w9.arr{m n:Nat}{X:Type}{c:X→List D}{G:X→Prop}(hu:P.underlying t=some (.array m e))(h:a1m P e (List.range m) 0 n c G)(hn:P.cellsOf t=n):w9 P t c G:=by
 refine⟨fun enc w fuel cs d ps ht hw=>?_⟩;cases fuel with
 |zero=>simp[DataW.trod]at ht
 |succ fuel=>
  simp only[DataW.trod,hu]at ht;split at ht
  ·rename_i hl;rw[Option.map_eq_some_iff]at ht;obtain⟨xs,hx,he⟩:=ht;cases he;simp only[DataW.weights,hu]at hw;obtain⟨x,h1,h2⟩:=h.op enc w fuel cs xs (by omega) hx hw;exact⟨x,by simpa using h1,h2⟩
  ·cases ht
theorem b0U{w:World}{a:Addr}{n:Nat}{cs:List Value}(h:w.cells? 0 a n=some cs):cs.length=n∧∀i,i<n→w.cell? (a.add i)=cs[i]?:=by
 unfold World.cells? at h;rw[k9 (L0 _)]at h;obtain⟨h1,h2⟩:=c6a h;refine⟨by simpa using h1,fun i hi=>?_⟩
 obtain⟨b,h3,h4⟩:=h2 i i (by simp[hi]);rw[h4,h3]
theorem a8V{H:Type}{e:TypeId}:∀ {l:List (DataW H)}{d:DataW H},d∈l→∀n,n∈d.weights P e→n∈DataW.weightsAll P e l
 |x::l,d,h,n,hn=>by
  simp only[DataW.weightsAll];rcases u9.1 h with rfl|h
  ·exact a6P _ hn
  ·exact a6p _ (a8V h n hn)
 |[],_,h,_,_=>by cases h
theorem b8K{X:Type}{c:X→List D}{G:X→Prop}{ok:Nat→Prop}{w:World}{b o z:Nat}(hc:∀x,(c x).length=z):∀(n k:Nat),(∀i,i<n→∃x cs,l5 ok w (c x) cs∧G x∧∀j,j<z→w.cell? ⟨b,o+((k+i)*z+j),none⟩=cs[j]?)→
 ∃(l:List X) (vs:List Value),l.length=n∧(∀x,x∈l→G x)∧l5 ok w (l.flatMap c) vs∧∀j,j<n*z→w.cell? ⟨b,o+(k*z+j),none⟩=vs[j]?
 |0,k,h=>⟨[],[],rfl,by simp,trivial,fun j hj=>by simp at hj⟩
 |n+1,k,h=>by
  obtain⟨x,cs,h1,h2,h3⟩:=h 0 (by omega)
  obtain⟨l,vs,g1,g2,g3,g4⟩:=b8K hc n (k+1) fun i hi=>by
   obtain⟨x,cs,h1,h2,h3⟩:=h (i+1) (by omega);exact⟨x,cs,h1,h2,fun j hj=>by rw[←h3 j hj];congr 3;rw[show k+1+i=k+(i+1) from by omega]⟩
  have hl:=h1.length;rw[hc]at hl;refine⟨x::l,cs++vs,by simp[g1],?_,?_,fun j hj=>?_⟩
  ·intro y hy;rcases u9.1 hy with rfl|hy
   ·exact h2
   ·exact g2 y hy
  ·rw[U0];exact l5.app h1 g3
  ·by_cases hlt:j<z
   ·rw[b3O (by omega),←h3 j hlt];simp
   ·rw[b7X (by omega),←hl,←g4 (j-z) (by rw[R7]at hj;omega)];congr 3;rw[R7];omega
theorem c5P{X:Type}{c:X→List D}(h:∀x,B4 (c x)=true)(l:List X):B4 (l.flatMap c)=true:=by
 refine M3 fun d hd=>?_
 obtain⟨x,_,hx⟩:=List.mem_flatMap.1 hd;exact A9 (h x) hx
theorem w9.slice{z bytes:Nat}{X:Type}{c:X→List D}{G:X→Prop}(hu:P.underlying t=some (.slice e))(h:w9 P e c G)(hz:P.cellsOf e=z)(hb:P.bytesOf e=bytes)(hc:∀x,(c x).length=z)(hfl:∀x,B4 (c x)=true)(hpos:0<z):
 w9 P t (fun l:List X=>[.lst z l.length (l.flatMap c)]) (fun l=>l.length*bytes≤reachBytes∧l.length≤maxLen∧∀x,x∈l→G x):=by
 refine⟨fun enc w fuel cs d ps ht hw=>?_⟩;rcases DataW.trod_slice hu ht with⟨rfl,_⟩|⟨a,n,cap,elems,rest,fuel',rfl,rfl,hx,_,hnc,hcm,e1,e2,hrest,_⟩
 ·refine⟨[],⟨?_,trivial⟩,by simp,by simp,by simp⟩;simp only[Rep];exact⟨none,0,rfl,y6 _,by simp,by simp,rfl,.inl rfl⟩
 ·obtain⟨r1,r2⟩:=hrest rfl;obtain⟨rfl,rfl⟩:=Prod.mk.inj hx;simp only[DataW.weights,hu]at hw
  have hbytes:(n+(cap-n))*bytes≤reachBytes:=by
   have:=hw _ C7;simpa[e1,r1,hb]using this
  have hnb:n*bytes≤reachBytes:=z6 (a1d _ (by omega)) hbytes;by_cases hc0:cap=0
  ·obtain rfl:n=0:=by omega
   refine⟨[],⟨?_,trivial⟩,by simp,by simp,by simp⟩;simp only[Rep];exact⟨some a,cap,rfl,hnc,by simp,by simp,rfl,.inl hc0⟩
  ·--the first place lies in memory
   have hspot:a.spot=none∧a.block<w.heap.size:=by
    have hcell:∃v,w.cell? a=some v:=by
     by_cases hn0:0<n
     ·have h4:=e2 0 hn0;rw[J7 (by omega),Option.bind_eq_some_iff]at h4;obtain⟨cs,h5,_⟩:=h4;obtain⟨h6,h7⟩:=b0U h5;have:=h7 0 (by omega);simp only[Nat.zero_mul,Addr.add,D2]at this;exact⟨cs[0]'(by omega),by rw[this];simp[h6,hz,hpos]⟩
     ·have h4:=r2 0 (by omega);rw[J7 (by omega),Option.bind_eq_some_iff]at h4;obtain⟨cs,h5,_⟩:=h4;obtain⟨h6,h7⟩:=b0U h5;have:=h7 0 (by omega);have hn0':n=0:=by omega
      simp only[hn0',a8h,Nat.zero_mul,Addr.add,D2]at this;exact⟨cs[0]'(by omega),by rw[this];simp[h6,hz,hpos]⟩
    obtain⟨v,hv⟩:=hcell;unfold World.cell? at hv;split at hv
    ·rename_i c t fr hcl;split at hv
     ·cases hv
     ·rename_i hs;exact⟨by simpa using hs,(Z8.1 hcl).1⟩
    ·cases hv
   obtain⟨b,o,sp⟩:=a;obtain⟨hsp,hblk⟩:=hspot;simp only at hsp hblk;subst hsp
   have haddr:∀k j:Nat,((⟨b,o,none⟩:Addr).add k).add j=⟨b,o+(k+j),none⟩:=by
    intro k j;unfold Addr.add;by_cases hk:k=0<;>by_cases hj:j=0<;>simp[hk,hj]<;>omega
   obtain⟨l,vs,g1,g2,g3,g4⟩:=b8K (ok:=fun b=>b<w.heap.size) (G:=G) (w:=w) (b:=b) (o:=o) hc n 0 fun i hi=>by
    have h4:=e2 i hi;have h3:elems[i]?=some (elems[i]'(by omega)):=J7 (by omega);rw[h3,Option.bind_eq_some_iff]at h4;obtain⟨cs,h5,h6⟩:=h4;obtain⟨h7,h8⟩:=b0U h5;obtain⟨x,x1,x2⟩:=h.op enc w fuel' cs _ _ h6 fun n hn=>hw n (F6 _ (a6P _ (a8V (L6.2 ⟨_,b0f h3,rfl⟩) n hn)))
    refine⟨x,cs,x1,x2,fun j hj=>?_⟩;rw[←h8 j (by omega),haddr,hz,a0k]
   refine⟨l,⟨?_,trivial⟩,by rw[g1];exact hnb,by omega,g2⟩;simp only[Rep];refine⟨some ⟨b,o,none⟩,cap,by rw[g1],by omega,by rw[g1];simp only[maxLen]at hcm;omega,by rw[a1k hc],c5P hfl l,.inr ⟨b,o,vs,rfl,hblk,g3,fun j hj=>?_⟩⟩;have:=g4 j (by rw[←g1];exact hj);simpa using this
theorem w9.arg_agg{X:Type}{c:X→List D}{G:X→Prop}(h:w9 P t c G)(hfl:∀x,B4 (c x)=true){H:Type}{enc:TypeId×Value→H}{w:World}{r:Reach}{b0:Nat}{v:Value}{d:DataW H}{ps:List MemPlace}
 (hu:(match P.underlying t with|some (.struct _)=>true|some (.array _ _)=>true|_=>false)=true) (hval:Value.okWide P w r b0 t v) (ht:DataW.Trod enc P w 0 (fun _=>true) true t v d ps) (hw:∀n,n∈d.weights P t→n≤reachBytes):
 ∃x,Rep (fun b=>b<w.heap.size) w (.agg (c x)) v∧G x:=by
 obtain⟨fuel,ht⟩:=ht;obtain⟨x,h1,h2⟩:=h.op enc w fuel _ d ps ht hw;refine⟨x,?_,h2⟩;unfold Value.okWide at hval;split at hval
 ·obtain⟨cs,rfl,_⟩:=hval;simp only[Rep];exact⟨cs,rfl,h1,hfl x⟩
 ·obtain⟨cs,rfl,_⟩:=hval;simp only[Rep];exact⟨cs,rfl,h1,hfl x⟩
 ·rename_i h3 h4;split at hu
  ·rename_i hx;exact absurd hx (h3 _)
  ·rename_i hx;exact absurd hx (h4 _ _)
  ·cases hu
theorem w9.arg_one{X:Type}{f:X→D}{G:X→Prop}(h:w9 P t (fun x=>[f x]) G){H:Type}{enc:TypeId×Value→H}{w:World}{r:Reach}{b0:Nat}{v:Value}{d:DataW H}{ps:List MemPlace}
 (hu:(match P.underlying t with|some .bool=>true|some .string=>true|some (.int _)=>true|some (.slice _)=>true|_=>false)=true) (hval:Value.okWide P w r b0 t v) (ht:DataW.Trod enc P w 0 (fun _=>true) true t v d ps) (hw:∀n,n∈d.weights P t→n≤reachBytes):
 ∃x,Rep (fun b=>b<w.heap.size) w (f x) v∧G x:=by
 obtain⟨fuel,ht⟩:=ht;obtain⟨x,h1,h2⟩:=h.op enc w fuel _ d ps ht hw;refine⟨x,?_,h2⟩
 have hc:v.cells= #[v]:=by
  cases v with
  |agg cs=>
   exfalso;unfold Value.okWide Cell.okWide Cell.ok at hval;split at hu<;>rename_i hx<;>first|(rw[hx]at hval;simp at hval;done)|(cases hu;done)|skip
  |_=>rfl
 rw[hc]at h1;simpa[l5]using h1
theorem b0j{H:Type}{enc:TypeId×Value→H}(hl:laidOutB P=true){W W':World}(hb:Below W.heap.size W W'):∀ {ts:List TypeId}{vs:List Value}{ds:List (DataW H)}{ps:List MemPlace},(∀t,t∈ts→P.readableRec t=true∧t<P.types.size)→
 DataW.TrodAll enc P W 0 (fun _=>true) true ts vs ds ps→(∀x,x∈ps→x.block<W.heap.size)→DataW.TrodAll enc P W' 0 (fun b=>decide (b<W.heap.size)) true ts vs ds ps
 |[],[],[],ps,_,h,_=>h
 |t::ts,v::vs,d::ds,ps,hr,h,hlt=>by
  obtain⟨p,q,h1,h2,rfl⟩:=h;exact⟨p,q,Below.trod hl (hr t C7).1 (hr t C7).2 h1 hb fun x hx=>hlt x (a6P _ hx),b0j hl hb (fun t ht=>hr t (F6 _ ht)) h2 fun x hx=>hlt x (a6p _ hx),rfl⟩
 |[],_::_,_,_,_,h,_=>by simp[DataW.TrodAll]at h
 |[],[],_::_,_,_,h,_=>by simp[DataW.TrodAll]at h
 |_::_,[],_,_,_,h,_=>by simp[DataW.TrodAll]at h
 |_::_,_::_,[],_,_,h,_=>by simp[DataW.TrodAll]at h
theorem c9i{H:Type}{enc:TypeId×Value→H}{f:Func}{n:FuncId}{s:ChangeSpec}{W:World}{args:Array Value}{ds gs:List (DataW H)}{before:List MemPlace}{Ds:List D}{tb:TypeId}
 (hl:laidOutB P=true) (hr:∀t,t∈f.params.toList→P.readableRec t=true∧t<P.types.size) (hvars:s.vars=[]) (hrt:f.resultTypes= #[tb]) (htb:P.underlying tb=some .bool)
 (hfn:(s.fn H (ds++gs)).results=[.lit (.bool true)]) (hfa:(s.fn H (ds++gs)).args=ds) (hfv:(s.fn H (ds++gs)).vars=[])
 (hW:DataW.Whole enc P f.params.toList s.vars false W args.toList ds gs before) (hrep:l5 (fun b=>b<W.heap.size) W Ds args.toList) (hd:p0 P n Ds fun x=>x=.v (.bool true)) (hgi:GIW P W):
 Calls P n args W fun e W'=>∃v,e=.returned v∧s.post enc P f false true false false W args v W':=by
 refine(hd (fun b=>b<W.heap.size) W args.toList hrep (fun _ h=>h) hgi).mono fun e W' ⟨v,r,he,hq,hrp,hb⟩=>?_
 subst he;subst hq;simp only[Rep]at hrp;obtain⟨rfl,_⟩:=hrp;refine⟨_,rfl,?_⟩;have hW':=hW;have hlt:=hW.lt;obtain⟨p,q,hA,hV,rfl,hfz,hnd⟩:=hW;rw[hvars]at hV
 obtain⟨rfl,rfl⟩:gs=[]∧q=[]:=by
  cases gs with
  |nil=>exact⟨rfl,hV⟩
  |cons=>simp[DataW.TrodVars]at hV
 refine⟨ds,[],_,[],p,[],hW',?_,?_,?_,?_,fun h=>by cases h⟩
 ·rw[hfn,hrt];exact⟨[],[],shut_bool htb true,rfl,rfl⟩
 ·rw[hfa];exact b0j hl hb hr hA fun x hx=>hlt x (by simpa using hx)
 ·rw[hvars,hfv];rfl
 ·refine⟨hb.os,hb.output,fun i hi=>?_⟩;rw[hb.block i hi];split<;>simp_all
structure R2(P:Program)(ts:List TypeId){X:Type}(c:X→List D)(G:X→Prop):Prop where
 op:∀ {H:Type} (enc:TypeId×Value→H) (w:World) (r:Reach) (b0:Nat) (vs:List Value) (ds:List (DataW H)) (ps:List MemPlace),DataW.TrodAll enc P w 0 (fun _=>true) true ts vs ds ps→(∀(j:Nat) t v,ts[j]?=some t→vs[j]?=some v→Value.okWide P w r b0 t v)→
  (∀n,n∈DataW.weightsEach P ts ds→n≤reachBytes)→∃x,l5 (fun b=>b<w.heap.size) w (c x) vs∧G x
theorem R2.nil:R2 P [] (fun _:Unit=>[]) (fun _=>True):=by
 refine⟨fun enc w r b0 vs ds ps h _ _=>?_⟩;cases vs with
 |nil=>exact⟨(),trivial,trivial⟩
 |cons=>cases ds<;>simp[DataW.TrodAll]at h
theorem R2.agg{ts:List TypeId}{X Y:Type}{c:X→List D}{G:X→Prop}{c':Y→List D}{G':Y→Prop}(h:w9 P t c G)(hfl:∀x,B4 (c x)=true)(hu:(match P.underlying t with|some (.struct _)=>true|some (.array _ _)=>true|_=>false)=true)(hk:R2 P ts c' G'):
 R2 P (t::ts) (fun x:X×Y=>.agg (c x.1)::c' x.2) (fun x=>G x.1∧G' x.2):=by
 refine⟨fun enc w r b0 vs ds ps h0 hval hw=>?_⟩;obtain⟨v,vs',d,ds',p,q,rfl,rfl,rfl,h1,h2⟩:=Go.ChangeShapes.trodAll_cons h0;simp only[DataW.weightsEach]at hw;obtain⟨x,g1,g2⟩:=h.arg_agg hfl hu (hval 0 t v rfl rfl) h1 fun n hn=>hw n (a6P _ hn)
 obtain⟨y,g3,g4⟩:=hk.op enc w r b0 vs' ds' q h2 (fun j t v ht hv=>hval (j+1) t v (by simpa using ht) (by simpa using hv)) fun n hn=>hw n (a6p _ hn)
 exact⟨(x,y),⟨g1,g3⟩,g2,g4⟩
theorem R2.one{ts:List TypeId}{X Y:Type}{f:X→D}{G:X→Prop}{c':Y→List D}{G':Y→Prop}(h:w9 P t (fun x=>[f x]) G)(hu:(match P.underlying t with|some .bool=>true|some .string=>true|some (.int _)=>true|some (.slice _)=>true|_=>false)=true)(hk:R2 P ts c' G'):
 R2 P (t::ts) (fun x:X×Y=>f x.1::c' x.2) (fun x=>G x.1∧G' x.2):=by
 refine⟨fun enc w r b0 vs ds ps h0 hval hw=>?_⟩;obtain⟨v,vs',d,ds',p,q,rfl,rfl,rfl,h1,h2⟩:=Go.ChangeShapes.trodAll_cons h0;simp only[DataW.weightsEach]at hw;obtain⟨x,g1,g2⟩:=h.arg_one hu (hval 0 t v rfl rfl) h1 fun n hn=>hw n (a6P _ hn)
 obtain⟨y,g3,g4⟩:=hk.op enc w r b0 vs' ds' q h2 (fun j t v ht hv=>hval (j+1) t v (by simpa using ht) (by simpa using hv)) fun n hn=>hw n (a6p _ hn)
 exact⟨(x,y),⟨g1,g3⟩,g2,g4⟩
theorem b7m{X:Type}{c:X→List D}{G B:X→Prop}{H:Type}{enc:TypeId×Value→H}{f:Func}{n:FuncId}{s:ChangeSpec}{W:World}{base:Nat}{args:Array Value}{ds gs:List (DataW H)}{before:List MemPlace}{tb:TypeId}{ts:List TypeId}
 (hop:R2 P ts c G) (hlaw:∀x,G x→B x→p0 P n (c x) fun y=>y=.v (.bool true)) (hts:f.params.toList=ts)
 (hl:laidOutB P=true) (hr:(ts.all fun t=>P.readableRec t&&Nat.blt t P.types.size)=true) (hvars:s.vars=[]) (hrt:f.resultTypes= #[tb]) (htb:P.underlying tb=some .bool)
 (hfn:∀ds:List (DataW H),ds.length=ts.length→(s.fn H ds).results=[.lit (.bool true)]∧(s.fn H ds).args=ds∧(s.fn H ds).vars=[])
 (hval:∀(j:Nat) t v,f.params[j]?=some t→args[j]?=some v→Value.okWide P W .any base t v) (hW:DataW.Whole enc P f.params.toList s.vars false W args.toList ds gs before)
 (hwt:(DataW.weightsEach P (f.params.toList++s.plain.varTypes P) (ds++gs)).all (· ≤reachBytes)=true) (hgi:GIW P W)
 (hB:∀x ps,l5 (fun b=>b<W.heap.size) W (c x) args.toList→DataW.TrodAll enc P W 0 (fun _=>true) true ts args.toList ds ps→B x):
 Calls P n args W fun e W'=>∃v,e=.returned v∧s.post enc P f false true false false W args v W':=by
 have hW0:=hW;obtain⟨p,q,hA,hV,rfl,hfz,hnd⟩:=hW;rw[hvars]at hV
 obtain⟨rfl,rfl⟩:gs=[]∧q=[]:=by
  cases gs with
  |nil=>exact⟨rfl,hV⟩
  |cons=>simp[DataW.TrodVars]at hV
 rw[hts]at hA
 have hlen:ds.length=ts.length:=by
  have:∀ {ts:List TypeId}{vs:List Value}{ds:List (DataW H)}{ps:List MemPlace},DataW.TrodAll enc P W 0 (fun _=>true) true ts vs ds ps→ds.length=ts.length:=by
   intro ts
   induction ts with
   |nil=>intro vs ds ps h;cases vs<;>cases ds<;>simp_all[DataW.TrodAll]
   |cons t ts ih=>
    intro vs ds ps h;obtain⟨v,vs',d,ds',p,q,rfl,rfl,rfl,h1,h2⟩:=Go.ChangeShapes.trodAll_cons h;simp[ih h2]
  exact this hA
 have hwt':∀m,m∈DataW.weightsEach P ts ds→m≤reachBytes:=by
  intro m hm
  have key:∀(ts r:List TypeId) (ds:List (DataW H)),m∈DataW.weightsEach P ts ds→m∈DataW.weightsEach P (ts++r) ds:=by
   intro ts r
   induction ts with
   |nil=>intro ds h;simp[DataW.weightsEach]at h
   |cons t ts ih=>
    intro ds h;cases ds with
    |nil=>simp[DataW.weightsEach]at h
    |cons d ds=>
     simp only[a1l,DataW.weightsEach]at h⊢;rcases E3.1 h with h|h
     ·exact a6P _ h
     ·exact a6p _ (ih ds h)
  rw[hts,a8R]at hwt;simpa using V6.1 hwt m (key ts _ ds hm)
 obtain⟨x,h1,h2⟩:=hop.op enc W .any base args.toList ds p hA (fun j t v ht hv=>hval j t v (by rw[←hts]at ht;simpa using ht) (by simpa using hv)) hwt'
 obtain⟨f1,f2,f3⟩:=hfn (ds++ []) (by simpa using hlen)
 refine c9i (Ds:=c x) hl (fun t ht=>?_) hvars hrt htb f1 (by simpa using f2) f3 hW0 h1 (hlaw x h2 (hB x p h1 hA)) hgi
 rw[hts]at ht;have:=V6.1 hr t ht;simp only[D7,a4p]at this;exact this
theorem b9x{X:Type}{c:X→List D}{G:X→Prop}{H:Type}{enc:TypeId×Value→H}{f:Func}{n:FuncId}{s:ChangeSpec}{W:World}{base:Nat}{args:Array Value}{ds gs:List (DataW H)}{before:List MemPlace}{tb:TypeId}{ts:List TypeId}
 (hop:R2 P ts c G) (hlaw:∀x,G x→p0 P n (c x) fun y=>y=.v (.bool true)) (hts:f.params.toList=ts)
 (hl:laidOutB P=true) (hr:(ts.all fun t=>P.readableRec t&&Nat.blt t P.types.size)=true) (hvars:s.vars=[]) (hrt:f.resultTypes= #[tb]) (htb:P.underlying tb=some .bool)
 (hfn:∀ds:List (DataW H),ds.length=ts.length→(s.fn H ds).results=[.lit (.bool true)]∧(s.fn H ds).args=ds∧(s.fn H ds).vars=[])
 (hval:∀(j:Nat) t v,f.params[j]?=some t→args[j]?=some v→Value.okWide P W .any base t v) (hW:DataW.Whole enc P f.params.toList s.vars false W args.toList ds gs before)
 (hwt:(DataW.weightsEach P (f.params.toList++s.plain.varTypes P) (ds++gs)).all (· ≤reachBytes)=true) (hgi:GIW P W):
 Calls P n args W fun e W'=>∃v,e=.returned v∧s.post enc P f false true false false W args v W':=
 b7m (B:=fun _=>True) hop (fun x h _=>hlaw x h) hts hl hr hvars hrt htb hfn hval hW hwt hgi fun _ _ _ _=>trivial
end
theorem a0J{S E:Type}{body:S→Option (Sum S E)}(P:S→Prop)(μ:S→Nat)(Q:E→Prop)(h:∀s,P s→(∃e,body s=some (.inr e)∧Q e)∨(∃s',body s=some (.inl s')∧P s'∧μ s'<μ s))(s0:S)(h0:P s0)(hf:μ s0<a0X):∃e,o8 body s0=some e∧Q e:=by
 have key:∀(n:Nat) (s:S),P s→μ s<n→∃e,S3 body n s=some e∧Q e:=by
  intro n
  induction n with
  |zero=>intro s _ hn;omega
  |succ n ih=>
   intro s hs hn;rcases h s hs with⟨e,h1,h2⟩|⟨s',h1,h2,h3⟩
   ·exact⟨e,by simp only[S3,h1],h2⟩
   ·obtain⟨e,h4,h5⟩:=ih s' h2 (by omega);exact⟨e,by simp only[S3,h1,h4],h5⟩
 exact key a0X s0 h0 hf
theorem c4C{n:Nat}(h:n≤9223372036854775807):n<a0X:=by unfold a0X;omega
theorem L5{α:Type}{l:List α}{k:Nat}(h:k<l.length):idx l (k:Int)=some l[k]:=by
 unfold idx;simp[h]
theorem b9d{z:Int}(h: -9223372036854775808≤z∧z≤9223372036854775807):IntKind.i64.wrap z=z:=IntWalk.i64_in z h
theorem a7F{k:Nat}(h:k<9223372036854775807):IntKind.i64.wrap ((k:Int)+1)=((k+1:Nat):Int):=by rw[b9d (by omega)];rfl
section
variable {α : Type} (pr : α → Option Bool)
def d1C(s:List α):Int→Option (Sum Int (Sum Int Int)):=fun v=>
 if(decide (v<(s.length:Int)))=true then
  Option.bind (idx s v) fun e=>
  Option.bind (pr e) fun x=>
  if x=true then some (.inr (.inr v))else some (.inl (IntKind.i64.wrap (v+1)))
 else some (.inr (.inl v))
def d1f(s:List α):Option Int:=
 Option.bind (o8 (d1C pr s) 0) fun e=>
 match e with
 |.inl _=>some (-1)
 |.inr r=>some r
theorem c9L{p:α→Bool}(s:List α)(hp:∀x,x∈s→pr x=some (p x))(hl:s.length≤9223372036854775807):d1f pr s=some (match s.findIdx? p with|some i=>(i:Int)|none=> -1):=by
 have h:∃e,o8 (d1C pr s) 0=some e∧((e=.inl (s.length:Int)∧∀x,x∈s→p x=false)∨∃(i:Nat) (h:i<s.length),e=.inr (i:Int)∧p s[i]=true∧∀j (hj:j<i),p s[j]=false):=by
  refine a0J (fun v:Int=>∃k:Nat,v=k∧k≤s.length∧∀j (hj:j<s.length),j<k→p s[j]=false) (fun v:Int=>s.length-v.toNat) _ ?_ 0 ⟨0,rfl,by omega,by omega⟩ (c4C (by omega));rintro v ⟨k,rfl,hk,hno⟩;unfold d1C;by_cases hlt:k<s.length
  ·have h1:(k:Int)<(s.length:Int):=by omega
   simp only[h1,a0a,D2,L5 hlt,j7,hp _ (Y8 hlt)];by_cases hx:p s[k]=true
   ·left;exact⟨.inr (k:Int),by simp only[hx,D2],.inr ⟨k,hlt,rfl,hx,fun j hj=>hno j (by omega) hj⟩⟩
   ·right;refine⟨_,by simp only[hx,G8,M4],⟨k+1,a7F (by omega),by omega,fun j hj hjk=>?_⟩,by rw[a7F (by omega)];omega⟩;by_cases e:j=k
    ·subst e;simpa using hx
    ·exact hno j hj (by omega)
  ·left;have h1:¬(k:Int)<(s.length:Int):=by omega
   obtain rfl:k=s.length:=by omega
   refine⟨.inl _,by simp,.inl ⟨rfl,fun x hx=>?_⟩⟩;obtain⟨j,hj,rfl⟩:=List.mem_iff_getElem.1 hx;exact hno j hj hj
 obtain⟨e,h1,h2⟩:=h;unfold d1f;rw[h1,j7];rcases h2 with⟨rfl,hn⟩|⟨i,hi,rfl,hy,hn⟩
 ·have:s.findIdx? p=none:=List.findIdx?_eq_none_iff.2 fun x hx=>hn x hx
  rw[this]
 ·have:s.findIdx? p=some i:=List.findIdx?_eq_some_iff_getElem.2 ⟨hi,hy,fun j hj=>by simpa using hn j hj⟩
  rw[this]
def d1z:(Int×Int×(List α))→Option (Sum (Int×Int×(List α)) (Int×Int×(List α))):=fun(i,j,v)=>
 if(decide (j<(v.length:Int)))=true then
  Option.bind (idx v j) fun _=>
  Option.bind (idx v j) fun e=>
  Option.bind (pr e) fun x=>
  if(!x)=true then
   Option.bind (idx v i) fun _=>
   Option.bind (idx v i) fun _=>
   some (.inl ((IntKind.i64.wrap (i+1)),(IntKind.i64.wrap (j+1)),(v.set i.toNat e)))
  else some (.inl (i,(IntKind.i64.wrap (j+1)),v))
 else some (.inr (i,j,v))
def d3j(s:List α):Option (List α):=
 Option.bind (d1f pr s) fun x1=>
 if(x1==(-1))=true then some s
 else
  Option.bind (o8 (d1z pr) (x1,(IntKind.i64.wrap (x1+1)),s)) fun(i,_,v)=>
  gd (0≤i∧i.toNat≤v.length∧0<v.length) (some (v.take i.toNat))
theorem d0c{p:α→Bool}(s:List α)(hp:∀x,x∈s→pr x=some (p x))(hl:s.length≤9223372036854775806):d3j pr s=some (s.filter fun x=> !p x):=by
 unfold d3j;rw[c9L pr s hp (by omega)];cases hf:s.findIdx? p with
 |none=>
  have hn:=List.findIdx?_eq_none_iff.1 hf;simp only[j7,beq_self_eq_true,D2];rw[List.filter_eq_self.2 fun x hx=>by simp[hn x hx]]
 |some i0=>
  obtain⟨hi,hy,hn⟩:=List.findIdx?_eq_some_iff_getElem.1 hf
  have hne:((i0:Int)== -1)=false:=by
   simp
  simp only[j7,hne,M4,G8];rw[a7F (by omega)]
  have h0:(s.take i0).filter (fun x=> !p x)=s.take i0:=List.filter_eq_self.2 fun x hx=>by
   obtain⟨j,hj,rfl⟩:=List.mem_iff_getElem.1 hx;simp only[Z5]at hj;rw[List.getElem_take];have:=hn j (by omega);simpa using this
  obtain⟨e,h1,h2⟩:=a0J (body:=d1z pr) (fun st:Int×Int×List α=>∃i j:Nat,st.1=i∧st.2.1=j∧i<j∧j≤s.length∧st.2.2.length=s.length∧st.2.2.drop j=s.drop j∧st.2.2.take i=(s.take j).filter fun x=> !p x) (fun st=>s.length-st.2.1.toNat)
   (fun st=>∃i:Nat,st.1=i∧i<s.length∧st.2.2.length=s.length∧st.2.2.take i=s.filter fun x=> !p x) (by
   rintro⟨i',j',v⟩ ⟨i,j,rfl,rfl,hij,hj,hv,hd,ht⟩;simp only at hv hd ht⊢;unfold d1z;by_cases hlt:j<s.length
   ·have h1:(j:Int)<(v.length:Int):=by omega
    have hjv:j<v.length:=by omega
    have he:v[j]=s[j]:=by
     have:v[j]?=s[j]?:=by
      have a:(v.drop j)[0]?=(s.drop j)[0]?:=by rw[hd]
      simpa using a
     rw[J7 hjv,J7 hlt]at this;exact E0 this
    right;have htk:s.take (j+1)=s.take j++ [s[j]]:=by rw[List.take_add_one,J7 hlt];rfl
    have hdr:v.drop (j+1)=s.drop (j+1):=by
     have:(v.drop j).drop 1=(s.drop j).drop 1:=by rw[hd]
     simpa[List.drop_drop]using this
    simp only[h1,a0a,D2,L5 hjv,j7,he,hp _ (Y8 hlt)];by_cases hx:p s[j]=true
    ·refine⟨_,by simp only[hx,a2R,M4,G8];rfl,⟨i,j+1,rfl,a7F (k:=j) (by omega),by omega,by omega,hv,hdr,?_⟩,by simp only;rw[a7F (by omega)];omega⟩;rw[ht,htk,b2v];simp[hx]
    ·have hx':p s[j]=false:=by simpa using hx
     have hiv:i<v.length:=by omega
     refine⟨_,by simp only[hx',a4G,D2,L5 hiv,j7];rfl,⟨i+1,j+1,a7F (k:=i) (by omega),a7F (k:=j) (by omega),by omega,by omega,by simp[hv],?_,?_⟩,by simp only;rw[a7F (by omega)];omega⟩
     ·simp only[a2C];rw[List.drop_set_of_lt (by omega)];exact hdr
     ·simp only[a2C];rw[htk,b2v,←ht,List.take_add_one,List.take_set_of_le (by omega),List.getElem?_set_self (by omega)];simp[hx']
   ·left;have h1:¬(j:Int)<(v.length:Int):=by omega
    obtain rfl:j=s.length:=by omega
    refine⟨_,by simp only[h1,a0U,M4,G8];rfl,i,rfl,by omega,hv,?_⟩;rw[ht,a5m (y6 _)]) ((i0:Int),((i0+1:Nat):Int),s) ⟨i0,i0+1,rfl,rfl,by omega,by omega,rfl,rfl,by
    rw[List.take_add_one,J7 hi,b2v,h0];simp[hy]⟩ (c4C (by omega))
  obtain⟨i',j',v⟩:=e;obtain⟨i,rfl,hi2,hv,ht⟩:=h2;rw[h1];simp only[j7,a2C];have hg:0≤(i:Int)∧i≤v.length∧0<v.length:=by simp only at hv;omega
  simp only at ht;simp[gd,hg,ht]
end
end Go.Sx
