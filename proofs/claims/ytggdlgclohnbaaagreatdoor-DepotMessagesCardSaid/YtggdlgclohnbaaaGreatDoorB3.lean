/- The walk over pure data: its definitions, that it is sound, and what may be read at a type. -/
import Derived.Test.YtggdlgclohnbaaaGreatDoorB2
import Derived.Lib.AppendZerosOnto
import Derived.Laws.Externs
import Derived.StillTail
import Derived.Shelf.Strconv.Itoa3
import Derived.Shelf.Strconv.AtoiAll
import Derived.Shelf.Strconv.Clone
import Derived.Shelf.Strings.Search2
import Derived.Shelf.Strings.Builder1
import Derived.Lib.AppendIntMem
import Derived.ProofKit
import Derived.SizedLaws
set_option linter.unusedVariables false
set_option linter.unusedSimpArgs false
namespace Go.Sx
open Go Go.RowKit
section
variable {X : Cy} {xs : List (List D)} {ok0 : Nat → Prop} {W0 : World} {l n : Nat} {J : List (List D) → (Nat → Prop) → World → Prop} {Jx : List (List D) → World → Prop}
theorem c0C {ops:List Oper} {o:Oper} {opsA:Array Oper} (hops:opsA.toList=ops) {sy:Sy} {p:Pre} {a:Act} {w:World} {yes no:Sy→Prop} (h:a1o ops o.guard sy yes no) (hs:Seg X xs ok0 W0 J Jx p sy a w):
 ∃sy',Seg X xs ok0 W0 J Jx p sy' a w∧((Region.wanted o (yielded opsA a.tmps)=true∧yes sy')∨(Region.wanted o (yielded opsA a.tmps)=false∧no sy')):=by
 obtain⟨ok,w0,st,h1,h3,h4,h5⟩:=hs;subst hops;have hg:=a8H (yes:=fun st'=>∃sy',Sim (fun b=>w0.heap.size≤b∨ok b) st' sy'∧yes sy') (no:=fun st'=>∃sy',Sim (fun b=>w0.heap.size≤b∨ok b) st' sy'∧no sy') h h3 (fun st' sy' h1 h2=>⟨sy',h1,h2⟩) (fun st' sy' h1 h2=>⟨sy',h1,h2⟩);obtain⟨st1,hsm,_,hr1,hg⟩:=b0R (X:=cx X w0 []) hg h4;rcases hg with⟨hw,sy1,hs1,hy⟩|⟨hw,sy1,hs1,hn⟩
 · exact⟨sy1,⟨ok,w0,st1,h1,hs1,hr1,h5⟩, .inl ⟨hw,hy⟩⟩
 · exact⟨sy1,⟨ok,w0,st1,h1,hs1,hr1,h5⟩, .inr ⟨hw,hn⟩⟩
theorem c5l {sy:Sy} {p:Pre} {a:Act} {w:World} {dst:Option Nat} {K:Sy→Prop} (h:H3 X sy dst .und K) (hs:Seg X xs ok0 W0 J Jx p sy a w):∃sy',K sy'∧Seg X xs ok0 W0 J Jx p sy' (a.put dst undef) w:=by
 obtain⟨ok,w0,st,h1,h3,h4,h5⟩:=hs;obtain⟨st2,⟨sy2,hK2,hs2⟩,hr2,hH2⟩:=U2 h4 (A1 (w0:=w0) (bor:= []) (s:= .v undef) h h3 (by simp only [e9])) (v:=undef) (.inr rfl);exact⟨sy2,hK2,ok,w0,st2,h1,hs2,hr2,h5⟩
theorem a8c (hP:POK X.P X.tt) (hJ:∀pre O A B,J pre O A→A.grownBy B none→J pre O B) (hY:b0x X xs ok0 W0 l n J Jx) {ops:Array Oper} {Q:Exit→Act→World→Prop}:∀(rest:List Oper) (sy:Sy) (p:Pre) (a:Act) (w:World) (K:Sy→Pre→Prop),
 b7b X l xs ops.toList rest sy p K→Seg X xs ok0 W0 J Jx p sy a w→(∀sy' p' a' w',K sy' p'→Seg X xs ok0 W0 J Jx p' sy' a' w'→Q .normal a' w')→wpListIn Fence.wide (n+1) X.P ops Q rest a w
 | [],sy,p,a,w,K,h,hs,hQ=>hQ sy p a w h hs
 |o::rest,sy,p,a,w,K,h,hs,hQ=>by
  simp only [b7b]at h;split at h
  · rename_i args hy;obtain⟨c,f,hopc,hcf,hca⟩:=a7p hy;obtain⟨sy1,hs1,hg⟩:=c0C (opsA:=ops) rfl h hs;rcases hg with⟨hw,hyes⟩|⟨hw,hno⟩
    · simp only [wpListIn,hw,if_true];exact c2D hP hJ hY (.inr ⟨c,f,hopc,hcf,hca⟩) hyes hs1 fun sy' p' a' w' hk hs'=>a8c hP hJ hY rest sy' p' a' w' K hk hs' hQ
    · simp only [wpListIn,hw];obtain⟨sy2,hk,hs2⟩:=c5l hno hs1;exact⟨fun _ _=>trivial,a8c hP hJ hY rest sy2 p _ w K hk hs2 hQ⟩
  · rw [c5M]at h;obtain⟨ok,w0,st,h1,h3,h4,h5⟩:=hs
    have hno:¬LetsOut fun e a w=>e=Exit.normal∧wpListIn Fence.wide (n+1) X.P ops Q rest a w:=by
     rintro⟨a,w,h,_⟩;cases h
    have h:=a7r (ops:=ops) (Q:=fun e a w=>e=Exit.normal∧wpListIn Fence.wide (n+1) X.P ops Q rest a w) (b4g h5.1) hP [o] st sy a w _ h h3 h4 fun st' sy' a' w' hk hs' hl=>
     ⟨rfl,a8c hP hJ hY rest sy' p a' w' K hk ⟨ok,w0,st',h1,hs',hl.rel,h5⟩ hQ⟩
    simp only [wpList]at h;simp only [wpListIn];split at h
    · rename_i hw;rw [if_pos hw];rcases h with h|⟨_,h⟩
      · exact b9X (Oper.wp_mono (fun _ _ h=>h.2) h) hno (by rintro c a w ⟨h,_⟩;cases h)
      · exact absurd h hno
    · rename_i hw;rw [if_neg hw];exact⟨fun _ _=>trivial,h.2⟩
theorem c3A (hP:POK X.P X.tt) (hJ:∀pre O A B,J pre O A→A.grownBy B none→J pre O B) (hY:b0x X xs ok0 W0 l n J Jx) {yl:List (Nat×Nat)} (c:Code):∀(sy:Sy) (p:Pre) (a:Act) (w:World) (K:Exit→Sy→Pre→Prop) (Q:Exit→Act→World→Prop),
 a3G X l xs yl c sy p K→Seg X xs ok0 W0 J Jx p sy a w→(∀e sy' p' a' w',plain e→K e sy' p'→Seg X xs ok0 W0 J Jx p' sy' a' w'→Q e a' w')→c.wp X.P Q a w:=by
 induction c with
 |skip=>exact fun sy p a w K Q h hs hQ=>wp_skip (hQ .normal sy p a w trivial h hs)
 |label l=>exact fun sy p a w K Q h hs hQ=>wp_label (hQ .normal sy p a w trivial h hs)
 |exit id=>exact fun sy p a w K Q h hs hQ=>wp_exit (hQ (.exit id) sy p a w trivial h hs)
 |ret=>exact fun sy p a w K Q h hs hQ=>wp_ret (hQ .ret sy p a w trivial h hs)
 |region id ops draw=>
  intro sy p a w K Q h hs hQ;cases draw with
  |false=>exact(wpIn_wide (n:=n+1)).1 (wpIn_region_list (a8c hP hJ hY ops.toList sy p a w _ h hs fun sy' p' a' w' hk hs'=>hQ .normal sy' p' a' w' trivial hk hs'))
  |true=>
   simp only [a3G]at h;split at h
   · split at h
     · rename_i pl _ j _;obtain⟨hch,hpl,h⟩:=h;obtain⟨ok,w0,st,h1,hsim,hrel,h5⟩:=hs;obtain⟨T,H,nk⟩:=sy;obtain⟨T',H',nk',ws,lo,iv⟩:=st;have hex:ops.extract 0 j=(ops.toList.take j).toArray:=by apply Array.ext';simp
       have htk:(ops.extract 0 j).toList=ops.toList.take j:=by simp
       rw [←hex]at hpl;simp only [←htk]at h;have hx:=a0j (w0:=w0) (bor:= []) (b4g (ok:=ok) (w0:=w0) h5.1) hP _ h (b1U (ops:=(ops.extract 0 j).toList) hsim)
       have hjs:j≤ops.size:=by
        simp only [a6q,Bool.and_eq_true]at hch;exact Nat.le_of_lt (Nat.blt_eq.mp hch.2.2.2.2)
       have hany:=a1N (X:=cx X w0 []) (Q:=fun e a w=>e=Exit.normal∧wpListIn Fence.wide (n+1) X.P ops Q (ops.toList.drop j) a w) hP hrel hpl hx fun st' a' w' ⟨sy',hk,hs'⟩ hl=>
        ⟨rfl,a8c hP hJ hY _ sy' p a' w' _ hk ⟨ok,w0,st',h1,hs',hl.rel,h5⟩ fun sy' p' a' w' hk hs'=>hQ .normal sy' p' a' w' trivial hk hs'⟩
       have hany:=a8z (n:=n+1) _ _ _ _ hany
       --the whole region at exits that are no panics
       have hcut:=c5z (n:=n+1) (Q:=Q) hch (fun a w h=>h) (ops.extract 0 j).size ops.size (Array.replicate (ops.extract 0 j).size false) (Array.replicate ops.size false) a { w with drawn:=w.drawn+1} (by simp;omega) (by simp) (fun i hi=>by
        rw [Array.getElem?_eq_getElem (by simp;omega),Array.getElem?_eq_getElem (by simp;omega)];simp) (fun i hi hi2=>by
        rw [Array.getElem?_eq_getElem (by simp;omega)];simp) (fun m i hm=>by
        by_cases h:m<ops.size
        · rw [Array.getElem?_eq_getElem (by simpa using h)]at hm;simp at hm
        · rw [Array.getElem?_eq_none (by simpa using h)]at hm;cases hm) (by simp;omega) hany
       exact(wpIn_wide (n:=n+1)).1 (wpIn_region_any hP.mix hcut)
     · exact c3P hP h hs fun e sy' a' w' hp hk hs'=>hQ e sy' p a' w' hp hk hs'
   · exact h.elim
 |seq x y ihx ihy=>
  intro sy p a w K Q h hs hQ;refine wp_seq (ihx sy p a w _ _ h hs fun e sy1 p1 a1 w1 hp hk hs1=> ?_);cases e with
  |normal=>exact ihy sy1 p1 a1 w1 K Q hk hs1 hQ
  |exit id=>exact hQ _ _ _ _ _ hp hk hs1
  |ret=>exact hQ _ _ _ _ _ hp hk hs1
  |goto l=>exact hp.elim
  |panic c=>exact hp.elim
  |outgrown=>exact hp.elim
 |cond c x y ihx ihy=>
  intro sy p a w K Q h hs hQ;simp only [a3G]at h;split at h
  · rename_i b hcd;obtain⟨ok,w0,st,h1,hsim,hrel,h5⟩:=hs;obtain⟨s,g1,g2,_⟩:=k9 hsim hcd;have:=g2.sc;subst this;have hb:a.eval c= .bool b:=by simpa [den]using (hrel.ev c _ g1).2
    cases b with
    |true=>exact wp_cond_true hb (ihx sy p a w K Q h ⟨ok,w0,st,h1,hsim,hrel,h5⟩ hQ)
    |false=>exact wp_cond_false hb (ihy sy p a w K Q h ⟨ok,w0,st,h1,hsim,hrel,h5⟩ hQ)
  · exact h.elim
 |block id c ih=>
  intro sy p a w K Q h hs hQ;refine wp_block (ih sy p a w _ _ h hs fun e sy1 p1 a1 w1 hp hk hs1=> ?_);cases e with
  |normal=>exact hQ _ _ _ _ _ hp hk hs1
  |exit j=>
   simp only [Exit.inBlock];simp only at hk;split at hk
   · rename_i hb;rw [if_pos (r7 hb)];exact hQ .normal _ _ _ _ trivial hk hs1
   · rename_i hb;rw [if_neg (a1i hb)];exact hQ _ _ _ _ _ hp hk hs1
  |ret=>exact hQ _ _ _ _ _ hp hk hs1
  |goto l=>exact hp.elim
  |panic c=>exact hp.elim
  |outgrown=>exact hp.elim
 |scope c ih=>
  intro sy p a w K Q h hs hQ;refine wp_scope_straight (ih sy p a w K _ h hs fun e sy1 p1 a1 w1 hp hk hs1=> ?_);cases e with
  |normal=>exact hQ _ _ _ _ _ hp hk hs1
  |exit j=>exact hQ _ _ _ _ _ hp hk hs1
  |ret=>exact hQ _ _ _ _ _ hp hk hs1
  |goto l=>exact hp.elim
  |panic c=>exact hp.elim
  |outgrown=>exact hp.elim
 |loop c ih=>
  intro sy p a w K Q h hs hQ;have h:a9r (a3G X l xs yl c) sy p K:=h;obtain⟨α,f,pf,inv,μ,⟨x0,hsub,rfl,hinv⟩,hround⟩:=h.ex
  have sub:∀ {sy sy':Sy} {p:Pre} {a:Act} {w:World},F5 sy sy'→Seg X xs ok0 W0 J Jx p sy a w→Seg X xs ok0 W0 J Jx p sy' a w:=by
   intro sy sy' p a w hsub ⟨ok,w0,st,h1,hsim,hrel,h5⟩;obtain⟨st0,hs0,hr0,_⟩:=hsub.rel (b4g (ok:=ok) (w0:=w0) h5.1) hsim hrel;exact⟨ok,w0,st0,h1,hs0,hr0,h5⟩
  refine(wpIn_wide (n:=n+1)).1 (wpIn_loop_ghost (fun m a1 w1=>∃x,μ x=m∧inv x∧Seg X xs ok0 W0 J Jx (some (pf x)) (f x) a1 w1) (μ x0) ⟨x0,rfl,hinv,sub hsub hs⟩ ?_);rintro m a1 w1 ⟨x,rfl,hinv1,hs1⟩;refine(wpIn_wide (n:=n+1)).2 (ih (f x) _ a1 w1 _ _ (hround x hinv1) hs1 fun e sy2 p2 a2 w2 hp hk hs2=> ?_);cases e with
  |normal=>
   obtain⟨y,hsb,rfl,hi,hlt⟩:=hk;exact⟨μ y,hlt,y,rfl,hi,sub hsb hs2⟩
  |exit j=>exact hQ _ _ _ _ _ hp hk hs2
  |ret=>exact hQ _ _ _ _ _ hp hk hs2
  |goto l=>exact hp.elim
  |panic c=>exact hp.elim
  |outgrown=>exact hp.elim
 |_=>exact fun sy p a w K Q h hs hQ=>(h:False).elim
end
def c8q (xs:List (List D)) (e:Exit) (_:Sy) (p:Pre):Prop:=match e with
 | .normal=>p=none∨p=some xs
 | .ret=>p=none∨p=some xs
 |_=>False
theorem c5x {X:Cy} (hP:POK X.P X.tt) {f:FuncId} {fn:Func} {c:Code} (caps:List D) (xs:List (List D)) (yl:List (Nat×Nat)) (hf:X.P.funcs[f]?=some fn) (hb:fn.body=some c) (hn:X.nt=fn.ntmps) (hl:caps.length+1≤fn.ntmps) (hres:fn.results= #[])
 (h:∀l,a3G X l xs yl c ⟨a0x 0 (.v (.func (.yield l) #[] #[])::caps), [],0⟩ (some []) (c8q xs)) (h0:X.dfs= []:=by rfl) (hg:fn.ntmps≤F8:=by exact Nat.le_of_ble_eq_true rfl):a5L X.P f caps xs:=by
 intro ok O0 W vl n l J Jx hrep hok hO hgi hJ hJx hY hJ0;refine callsIn_wide.2 (calls_of_wp hf hb (c3A (ok0:=ok) (W0:=W) (l:=l) (n:=n) (J:=J) (Jx:=Jx) hP hJ hY c _ _ _ _ _ _ (h l) ?_ fun e sy' p' a' w' hp hk hs'=> ?_))
 · have hlen:=hrep.length
   obtain⟨g1,g2⟩:=a9a (X:=X) (ok:=ok) (w:=W) (a:= { tmps:=(#[.func (.yield l) #[] #[]]++vl.toArray)++Array.replicate (fn.ntmps-(#[Value.func (.yield l) #[] #[]]++vl.toArray).size) undef,defers:= []}) (T:=a0x 0 (.v (.func (.yield l) #[] #[])::caps)) (nk:=0)
    ⟨by simp [hn,←hlen];omega,hn▸hg⟩ h0.symm (fun b hb=>(hok b hb).1) (fun d x hx=>by
     right;have hr2:j3 ok W (.v (.func (.yield l) #[] #[])::caps) (.func (.yield l) #[] #[]::vl):=by simp only [j3,Rep];exact⟨⟨trivial,rfl⟩,hrep⟩
     obtain⟨_,h2⟩:=a1h hx;obtain⟨y,h3,h4⟩:=hr2.get h2;refine⟨y, ?_,h4⟩;have hlt:=(List.getElem?_eq_some_iff.1 h3).1;rw [Array.getElem?_append_left (by simp at hlt⊢;omega)];have:(#[Value.func (.yield l) #[] #[]]++vl.toArray)=(Value.func (.yield l) #[] #[]::vl).toArray:=by apply Array.ext';simp
     rw [this];simpa using h3)
   exact⟨ok,W,_,fun b hb=>⟨(hok b hb).1, .inl hb⟩,g1,g2,hgi,Nat.le_refl _,O0,fun b hb=>⟨hO b hb,fun h=>(hok b h).2 hb⟩,hJ0⟩
 · obtain⟨ok1,w0,st,h1,hsim,hrel,_,h5⟩:=hs';have hrun:=a1r (X:=cx X w0 []) hP.tt hrel (fn:=fn) (l:= []) (by rw [hres];rfl);have hfx:=a9L (show Fx [] w0 w' from hrel.cls.fx0)
   have fin:(p'=none∨p'=some xs)→a'.defers= []∧∃v,(results fn a'.tmps).run X.P w'= .ok v w'∧(∃v1,Ending.returned v= .returned v1)∧((∃O,J xs O w')∨∃pre,pre<+:xs∧Jx pre w'):=by
    intro hp';refine⟨hrel.dfs.trans h0,_,hrun,⟨_,rfl⟩, ?_⟩;rcases hp' with rfl|rfl
    · obtain⟨pre,h6,h7⟩:=h5;exact .inr ⟨pre,h6,hJx _ _ _ h7 hfx⟩
    · obtain⟨_,O,_,h7⟩:=h5;exact .inl ⟨O,hJ _ _ _ _ h7 hfx⟩
   cases e with
   |normal=>exact fin hk
   |ret=>exact fin hk
   |exit id=>exact hk.elim
   |goto l=>exact hp.elim
   |panic c=>exact hp.elim
   |outgrown=>exact hp.elim
end Go.Sx
namespace Go.Sx
open Go Go.RowKit
def L4 {S E α:Type} (m:S→α→Option (Sum S E)):List α→S→Option (Sum S E)
 | [],s=>some (.inl s)
 |x::xs,s=>match m s x with
  |none=>none
  |some (.inl s')=>L4 m xs s'
  |some (.inr e)=>some (.inr e)
def emit {α R:Type} (x:α) (m:Option (List α×R)):Option (List α×R):=match m with|none=>none|some (l,r)=>some (x::l,r)
def b3q {α E R:Type} (m:Option (List α×E)) (f:E→Option (List α×R)):Option (List α×R):=match m with
 |none=>none
 |some (l,e)=>match f e with
  |none=>none
  |some (l',r)=>some (l++l',r)
def a3t {S E α:Type} (body:S→Option (List α×Sum S E)):Nat→S→Option (List α×E)
 |0,_=>none
 |n+1,s=>match body s with
  |none=>none
  |some (l, .inl s')=>match a3t body n s' with
   |none=>none
   |some (l',e)=>some (l++l',e)
  |some (l, .inr e)=>some (l,e)
def b1n {S E α:Type} (body:S→Option (List α×Sum S E)) (s:S):Option (List α×E):=a3t body a2h s
theorem b3O {α R:Type} {x:α} {m:Option (List α×R)} {r:List α×R} (h:emit x m=some r):∃r',m=some r'∧r.1=x::r'.1∧r.2=r'.2:=by
 unfold emit at h;split at h
 · cases h
 · cases h;exact⟨_,rfl,rfl,rfl⟩
theorem b1S {α E R:Type} {m:Option (List α×E)} {f:E→Option (List α×R)} {r:List α×R} (h:b3q m f=some r):∃e r',m=some e∧f e.2=some r'∧r.1=e.1++r'.1∧r.2=r'.2:=by
 unfold b3q at h;split at h
 · cases h
 · split at h
   · cases h
   · rename_i l' r' hf;cases h;exact⟨_,_,rfl,hf,rfl,rfl⟩
theorem b1R {S E α:Type} {body:S→Option (List α×Sum S E)} {n:Nat} {s:S} {e:List α×E} (h:a3t body n s=some e):∃m b t,n=m+1∧body s=some b∧e.1=b.1++t∧(match b.2 with
 | .inl s'=>∃e',a3t body m s'=some e'∧t=e'.1∧e.2=e'.2
 | .inr x=>t= []∧e.2=x):=by
 cases n with
 |zero=>cases h
 |succ n=>
  simp only [a3t]at h;split at h
  · cases h
  · rename_i l s' hb;split at h
    · cases h
    · rename_i l' e' he;cases h;exact⟨n,_,_,rfl,hb,rfl,_,he,rfl,rfl⟩
  · rename_i l x hb;cases h;exact⟨n,_, [],rfl,hb,by simp,rfl,rfl⟩
structure Hp3 {α:Type} (enc:α→List D) (q:List (List D)) (l:List α) (post xs:List (List D)):Prop where
 eq:q++l.map enc++post=xs
section
variable {α : Type} {enc : α → List D} {q post xs : List (List D)} {l l' : List α} {x : α}
theorem Hp3.emit (h:Hp3 enc q l post xs) (hl:l=x::l'):Hp3 enc (q++ [enc x]) l' post xs:=⟨by rw [←h.eq,hl];simp⟩
theorem Hp3.pre (h:Hp3 enc q l post xs) (hl:l=x::l'):q++ [enc x]<+:xs:=⟨l'.map enc++post,by rw [←h.eq,hl];simp⟩
theorem Hp3.in1 {l1 l2:List α} (h:Hp3 enc q l post xs) (hl:l=l1++l2):Hp3 enc q l1 (l2.map enc++post) xs:=⟨by rw [←h.eq,hl];simp⟩
theorem Hp3.out (h:Hp3 enc q l (l'.map enc++post) xs) (hl:l= []):Hp3 enc q l' post xs:=⟨by rw [←h.eq,hl];simp⟩
theorem Hp3.done (h:Hp3 enc q l [] xs) (hl:l= []):q=xs:=by rw [←h.eq,hl];simp
end
theorem a9r.of {body:Sy→Pre→(Exit→Sy→Pre→Prop)→Prop} {st:Sy} {q:List (List D)} {K:Exit→Sy→Pre→Prop} {α:Type} (f:α→Sy) (inv:α→List (List D)→Prop) (μ:α→Nat) (x0:α) (hi:inv x0 q) (h0:F5 st (f x0))
 (h:∀x q,inv x q→body (f x) (some q) fun e st2 p2=>match e with
  | .normal=>∃y q',F5 st2 (f y)∧p2=some q'∧inv y q'∧μ y<μ x
  |e=>K e st2 p2):a9r body st (some q) K:=by
 refine⟨⟨α×List (List D),fun x=>f x.1,fun x=>x.2,fun x=>inv x.1 x.2,fun x=>μ x.1,⟨(x0,q),h0,rfl,hi⟩,fun x hx=> ?_⟩⟩;have:=h x.1 x.2 hx
 have mono:(fun(e:Exit) (st2:Sy) (p2:Pre)=>match e with
  | .normal=>∃y q',F5 st2 (f y)∧p2=some q'∧inv y q'∧μ y<μ x.1
  |e=>K e st2 p2)=fun e st2 p2=>match e with
  | .normal=>∃y:α×List (List D),F5 st2 (f y.1)∧p2=some y.2∧inv y.1 y.2∧μ y.1<μ x.1
  |e=>K e st2 p2:=by
  funext e st2 p2;cases e<;>simp
 exact(mono▸this:_)
theorem a8Q.of {X:Cy} {l:Nat} {xs:List (List D)} {st:Sy} {o:Oper} {args:List Operand} {q:List (List D)} {K:Sy→Pre→Prop} {x x':List D} (h1:b0v st o=some (.v (.func (.yield l) #[] #[]))) (h2:a6W st args=some x) (h3:a1F st (.tup x) fun y=>y= .tup x') (h4:q++ [x']<+:xs)
 (h5:H3 X ⟨b3a st.T, [],st.nk⟩ o.dst (.v (.bool true)) fun st=>K st (some (q++ [x']))) (h6:H3 X ⟨b8s st.T, [],st.nk⟩ o.dst (.v (.bool false)) fun st=>K st none):a8Q X l xs st o args (some q) K:=⟨⟨q,x,x',h1,rfl,h2,h3,h4,h5,h6⟩⟩
theorem a3z.of {X:Cy} {l:Nat} {xs:List (List D)} {st:Sy} {o:Oper} {args:List Operand} {q:List (List D)} {K:Sy→Pre→Prop} {x x':List D} (h1:b0v st o=some (.v (.func (.yield l) #[] #[]))) (h2:a6W st args=some x) (h3:a1F st (.tup x) fun y=>y= .tup x') (h4:q++ [x']<+:xs)
 (h5:H3 X ⟨b3a st.T, [],st.nk⟩ o.dst (.v (.bool true)) fun st=>K st (some (q++ [x']))) (h6:H3 X ⟨b8s st.T, [],st.nk⟩ o.dst (.v (.bool false)) fun st=>K st none):a3z X l xs st o args (some q) K:=⟨[],st,rfl,a8Q.of h1 h2 h3 h4 h5 h6⟩
theorem a3z.fz {X:Cy} {l:Nat} {xs:List (List D)} {st st0:Sy} {o:Oper} {args:List Operand} {p:Pre} {K:Sy→Pre→Prop} (ks:List Nat) (h:a2x ks st []=some (st0, [])) (hz:a8Q X l xs st0 o args p K):a3z X l xs st o args p K:=⟨ks,st0,h,hz⟩
theorem b5O {P:Program} {tt:List (Nat×TI)} (hP:POK P tt) {g:Nat} {fn:Func} {c:Code} (hfn:P.funcs[g]?=some fn) (hb:fn.body=some c):∀args w,(callFunc g args).run P w= .ok (.enter g args) w:=by
 intro args w;have hng:=hP.ng g fn hfn;simp only [callFunc,Sem.run_bind,run_program,hfn,Result.andThen_ok];simp [hng,hb]
def b8U (fz:List Nat):List (Nat×D)→Bool
 | []=>true
 |(d,_)::T=>match G4 d fz with|true=>b8U fz T|false=>false
theorem a7C {fz:List Nat} {d:Nat} {x:D}:∀ {T:List (Nat×D)},b8U fz T=true→n9 T d=some x→d∈fz
 | [],_,h=>by cases h
 |(e,y)::T,h,hx=>by
  simp only [b8U]at h;simp only [n9]at hx;split at h
  · rename_i hm;split at hx
    · rename_i hb;obtain rfl:=r7 hb;exact A5.1 hm
    · exact a7C h hx
  · cases h
theorem b5K {S E α:Type} {m:S→α→Option (Sum S E)}:∀(l:List α) (x:α) (r:List α) (s:S) {s1:S} {ev:Sum S E},L4 m l s=some (.inl s1)→L4 m (l++x::r) s=some ev→∃b,m s1 x=some b∧L4 m (l++ [x]) s=some b:=by
 intro l x r s s1 ev h1 h2
 induction l generalizing s with
 |nil=>
  simp only [L4]at h1;cases h1;simp only [List.nil_append,L4]at h2⊢;cases hm:m s1 x with
  |none=>rw [hm]at h2;cases h2
  |some b=>refine⟨b,rfl, ?_⟩;cases b<;>rfl
 |cons y l ih=>
  simp only [L4,List.cons_append]at h1 h2⊢;cases hm:m s y with
  |none=>rw [hm]at h1;cases h1
  |some b=>
   rw [hm]at h1 h2;cases b with
   |inl s'=>exact ih s' h1 h2
   |inr e=>cases h1
theorem a3y.of {X:Cy} {g:Operand} {ps:Array Tmp} {assign body:Code} {st:Sy} {K:Exit→Sy→Prop} {α S E:Type} {gf:FuncId} {caps:List D} (enc:α→List D) (xs:List α) (m:S→α→Option (Sum S E)) (f:S→Sy) (fe:E→Sy) (ex:E→Exit) (s0:S) (ev:Sum S E)
 (fz:List Nat) (hit:a5L X.P gf caps (xs.map enc)) (hm:L4 m xs s0=some ev) (heg:∀args w,(callFunc gf args).run X.P w= .ok (.enter gf args) w)
 (hg:evY st g=some (.fn gf [] caps)) (hcl:L6 caps=true) (hps:∀x,(enc x).length=ps.size) (hasg:I1 fz assign=true) (hr:I1 fz body=true) (hf:a7a fz ps.toList=true) (hdom:∀s,b8U fz (f s).T=true) (hdome:∀e,b8U fz (fe e).T=true)
 (hsub:F5 st (f s0)) (hdone:∀s,ev= .inl s→K .normal (f s)) (hstop:∀s,ev= .inr s→K (ex s) (fe s)) (hex:∀e,ex e= .ret∨∃id,ex e= .exit id)
 (hround:∀s x b,m s x=some b→b3j { X with dfs:= []} ps.toList (enc x) (f s) fun st1=>J9 { X with dfs:= []} assign st1<|b0w { X with dfs:= []} body fun e sy=>match e with
  | .normal=>∃s',b= .inl s'∧F5 sy (f s')
  | .ret=>∃s',b= .inr s'∧ex s'= .ret∧F5 sy (fe s')
  | .exit id=>∃s',b= .inr s'∧ex s'= .exit id∧F5 sy (fe s')
  |_=>False):a3y X g ps assign body st K:=by
 have key:∀(pre:List (List D)) (x:List D),pre++ [x]<+:xs.map enc→∃y r,x=enc y∧xs=xs.take pre.length++y::r∧xs.take (pre.length+1)=xs.take pre.length++ [y]:=by
  rintro pre x ⟨t,ht⟩
  have hlt:pre.length<xs.length:=by
   have:=congrArg List.length ht;simp at this;omega
  refine⟨xs[pre.length],xs.drop (pre.length+1), ?_, ?_, ?_⟩
  · have h1:(xs.map enc)[pre.length]?=some x:=by rw [←ht];simp
    rw [List.getElem?_map,List.getElem?_eq_getElem hlt]at h1;exact(Option.some.inj h1).symm
  · rw [←List.drop_eq_getElem_cons hlt,List.take_append_drop]
  · rw [List.take_add_one,List.getElem?_eq_getElem hlt];rfl
 --a round that stops:its way out is the whole's
 have stop:∀(l:List α) (y:α) (r:List α) (e:E) (s:S),L4 m (l++ [y]) s=some (.inr e)→L4 m (l++y::r) s=some (.inr e):=by
  intro l y r e s
  induction l generalizing s with
  |nil=>
   intro h;simp only [List.nil_append,L4]at h⊢;cases hb:m s y with
   |none=>rw [hb]at h;cases h
   |some b=>
    rw [hb]at h;cases b with
    |inl s'=>cases h
    |inr e'=>exact h
  |cons z l ih=>
   intro h;simp only [List.cons_append,L4]at h⊢;cases hb:m s z with
   |none=>rw [hb]at h;cases h
   |some b=>
    rw [hb]at h;cases b with
    |inl s'=>exact ih s' h
    |inr e'=>exact h
 refine⟨⟨gf,caps,xs.map enc,fz,Sum S E,fun s=>match s with| .inl s=>f s| .inr e=>fe e,fun _ s=>match s with| .inl s=>f s| .inr e=>fe e,
  fun pre s=>∃s',s= .inl s'∧L4 m (xs.take pre.length) s0=some (.inl s'),fun e _ s=>∃s',s= .inr s'∧ex s'=e∧ev= .inr s', .inl s0,hg,hcl,hit,heg, ?_,hasg,hr,hf,hsub,⟨s0,rfl,rfl⟩, ?_, ?_, ?_, ?_, ?_⟩⟩
 · intro x hx;obtain⟨y,_,rfl⟩:=List.mem_map.1 hx;exact hps y
 · intro s d x hx;cases s with
   |inl s=>exact a7C (hdom s) hx
   |inr s=>exact a7C (hdome s) hx
 · intro e s d x hx;cases s with
   |inl s=>exact a7C (hdom s) hx
   |inr s=>exact a7C (hdome s) hx
 · rintro pre s x hpre ⟨s',rfl,hl⟩;obtain⟨y,r,rfl,e2,e3⟩:=key _ _ hpre;obtain⟨b,hb,hb2⟩:=b5K _ y r s0 hl (e2▸hm);have hlen:(pre++ [enc y]).length=pre.length+1:=by simp
   refine⟨_,fun e sy h=> ?_,hround s' y b hb⟩
   ·
     have hout:∀s',b= .inr s'→ev= .inr s':=by
      intro s' hbs;subst hbs;have:=stop _ y r s' s0 hb2;rw [←e2,hm]at this;exact Option.some.inj this
     cases e with
     |normal=>
      obtain⟨s2,rfl,h2⟩:=h;exact⟨.inl s2,⟨s2,rfl,by rw [hlen,e3];exact hb2⟩,h2⟩
     |ret=>
      obtain⟨s2,h1,h2,h3⟩:=h;exact⟨.inr s2,⟨s2,rfl,h2,hout s2 h1⟩,h3⟩
     |exit id=>
      obtain⟨s2,h1,h2,h3⟩:=h;exact⟨.inr s2,⟨s2,rfl,h2,hout s2 h1⟩,h3⟩
     |_=>exact h.elim
 · rintro s ⟨s',rfl,hr⟩;rw [List.length_map,List.take_length]at hr;rw [hm]at hr;exact hdone s' (Option.some.inj hr)
 · rintro e pre s hpre ⟨s',rfl,rfl,h2⟩ he;exact hstop s' h2
end Go.Sx
namespace Go.Sx
open Go Go.RowKit
def c3a (X:Cy) (ops:List Oper) (l:List Oper):Sy→(Sy→Prop)→Prop:=by
 induction l with
 |nil=>exact fun st K=>K st
 |cons o rest ih=>exact fun st K=>a1o ops o.guard st (fun st=>b0a X st o fun st=>ih st K) (fun st=>H3 X st o.dst .und fun st=>ih st K)
theorem c4U (X:Cy) (ops l:List Oper):c3a X ops l=fun st K=>b4E X ops l st K:=by
 induction l with
 |nil=>rfl
 |cons o rest ih=>
  funext st K;show a1o ops o.guard st (fun st=>b0a X st o fun st=>c3a X ops rest st K) (fun st=>H3 X st o.dst .und fun st=>c3a X ops rest st K)=_;rw [ih];rfl
def a7N (X:Cy) (ops:List Oper) (p:PT):Sy→List (Nat×Option Nat)→(Sy→Prop)→Prop:=by
 induction p with
 |nil=>exact fun st _ K=>K st
 |op i S fl rest ih=>exact fun st pr K=>match b0i ops i with
  |some o=>a1o ops o.guard st
   (fun st=>b3Z X ops rest i S fl pr o st fun st pr=>ih st pr K)
   (fun st=>H3 X st o.dst .und fun st=>ih st pr K)
  |none=>False
 |fork a b iha ihb=>exact fun st pr K=>iha st pr K∧ihb st pr K
theorem b6Y (X:Cy) (ops:List Oper) (p:PT):a7N X ops p=fun st pr K=>a4Q X ops p st pr K:=by
 induction p with
 |nil=>rfl
 |op i S fl rest ih=>
  funext st pr K
  show(match b0i ops i with
   |some o=>a1o ops o.guard st (fun st=>b3Z X ops rest i S fl pr o st fun st pr=>a7N X ops rest st pr K) (fun st=>H3 X st o.dst .und fun st=>a7N X ops rest st pr K)
   |none=>False)=_
  rw [ih];rfl
 |fork a b iha ihb=>
  funext st pr K;show(a7N X ops a st pr K∧a7N X ops b st pr K)=_;rw [iha,ihb];rfl
def H5 (X:Cy) (c:Code):Sy→(Exit→Sy→Prop)→Prop:=by
 induction c with
 |skip=>exact fun st K=>K .normal st
 |region id ops draw=>exact fun st K=>match draw with
  |false=>c3a X ops.toList ops.toList st (K .normal)
  |true=>match b8D X.pl id with
   |some p=>a5r X.tt X.nt ops p=true∧(match st with|⟨T,H,nk⟩=>a5q ops.toList T fun T=>a7N X ops.toList p ⟨T,H,nk⟩ [] (K .normal))
   |none=>False
 |seq a b iha ihb=>exact fun st K=>iha st fun e st'=>match e with
  | .normal=>ihb st' K
  |e=>K e st'
 |cond c t e iht ihe=>exact fun st K=>match evY st c with
  |some (.v (.bool b))=>VIf b (iht st K) (ihe st K)
  |_=>False
 |block id c ih=>exact fun st K=>ih st fun e st'=>match e with
  | .exit j=>match Nat.beq j id with
   |true=>K .normal st'
   |false=>K (.exit j) st'
  |e=>K e st'
 |loop c ih=>exact fun st K=>E0 ih st K
 |exit id=>exact fun st K=>K (.exit id) st
 |ret=>exact fun st K=>K .ret st
 |scope c ih=>exact fun st K=>ih st K
 |label _=>exact fun st K=>K .normal st
 |_=>exact fun _ _=>False
theorem V1 (X:Cy) (c:Code):H5 X c=fun st K=>J9 X c st K:=by
 induction c with
 |region id ops draw=>
  funext st K;show(match draw with
  |false=>c3a X ops.toList ops.toList st (K .normal)
  |true=>match b8D X.pl id with
   |some p=>a5r X.tt X.nt ops p=true∧(match st with|⟨T,H,nk⟩=>a5q ops.toList T fun T=>a7N X ops.toList p ⟨T,H,nk⟩ [] (K .normal))
   |none=>False)=_
  simp only [c4U,b6Y,a8C];rfl
 |seq a b iha ihb=>
  funext st K;show(H5 X a st fun e st'=>match e with| .normal=>H5 X b st' K|e=>K e st')=_
  rw [iha,ihb];rfl
 |cond c t e iht ihe=>
  funext st K;show(match evY st c with|some (.v (.bool b))=>VIf b (H5 X t st K) (H5 X e st K)|_=>False)=_
  rw [iht,ihe];rfl
 |block id c ih=>
  funext st K;show(H5 X c st fun e st'=>match e with| .exit j=>(match Nat.beq j id with|true=>K .normal st'|false=>K (.exit j) st')|e=>K e st')=_
  rw [ih];rfl
 |loop c ih=>
  funext st K;show E0 (H5 X c) st K=_;rw [ih];rfl
 |scope c ih=>
  funext st K;show H5 X c st K=_;rw [ih];rfl
 |_=>rfl
theorem b0q {X:Cy} {c:Code} {st:Sy} {K:Exit→Sy→Prop} (h:H5 X c st K):J9 X c st K:=by rw [V1]at h;exact h
def c0m (X:Cy) (body:Code) (K:Exit→Sy→Prop):Exit→Sy→Prop
 | .normal,st=>H5 X body st K
 |_,_=>False
theorem b8M (X:Cy) (body:Code) (K:Exit→Sy→Prop):c0m X body K=b0w X body K:=by
 funext e st;cases e<;>first|rfl|(show H5 X body st K=_;rw [V1];rfl)
def a5o (X:Cy) (c:Code):Sy→(Exit→Sy→Prop)→Prop:=by
 induction c with
 |seq a b iha ihb=>exact fun st K=>iha st fun e st'=>match e with
  | .normal=>ihb st' K
  |e=>K e st'
 |block id c ih=>exact fun st K=>ih st fun e st'=>match e with
  | .exit j=>(match Nat.beq j id with|true=>K .normal st'|false=>K (.exit j) st')
  |e=>K e st'
 |cond c t e iht ihe=>exact fun st K=>match evY st c with
  |some (.v (.bool b))=>VIf b (iht st K) (ihe st K)
  |_=>False
 |scope c ih=>exact fun st K=>ih st K
 |rangeFunc g ps assign body=>exact fun st K=>a3y X g ps assign body st K
 |skip=>exact fun st K=>∀ds,H5 { X with dfs:=ds} .skip st K
 |region id ops draw=>exact fun st K=>∀ds,H5 { X with dfs:=ds} (.region id ops draw) st K
 |loop c=>exact fun st K=>∀ds,H5 { X with dfs:=ds} (.loop c) st K
 |exit id=>exact fun st K=>∀ds,H5 { X with dfs:=ds} (.exit id) st K
 |ret=>exact fun st K=>∀ds,H5 { X with dfs:=ds} .ret st K
 |label l=>exact fun st K=>∀ds,H5 { X with dfs:=ds} (.label l) st K
 |_=>exact fun st K=>List Deferred→False
theorem c1q (X:Cy) (c:Code):a5o X c=fun st K=>a5J X c st K:=by
 induction c with
 |seq a b iha ihb=>
  funext st K;show(a5o X a st fun e st'=>match e with| .normal=>a5o X b st' K|e=>K e st')=_
  rw [iha,ihb];rfl
 |cond c t e iht ihe=>
  funext st K;show(match evY st c with|some (.v (.bool b))=>VIf b (a5o X t st K) (a5o X e st K)|_=>False)=_
  rw [iht,ihe];rfl
 |block id c ih=>
  funext st K;show(a5o X c st fun e st'=>match e with| .exit j=>(match Nat.beq j id with|true=>K .normal st'|false=>K (.exit j) st')|e=>K e st')=_
  rw [ih];rfl
 |scope c ih=>
  funext st K;show a5o X c st K=_;rw [ih];rfl
 |rangeFunc=>rfl
 |skip=>funext st K;show(∀ds,H5 { X with dfs:=ds} .skip st K)=_;simp only [V1];rfl
 |region id ops draw=>funext st K;show(∀ds,H5 { X with dfs:=ds} (.region id ops draw) st K)=_;simp only [V1];rfl
 |loop c=>funext st K;show(∀ds,H5 { X with dfs:=ds} (.loop c) st K)=_;simp only [V1];rfl
 |exit id=>funext st K;show(∀ds,H5 { X with dfs:=ds} (.exit id) st K)=_;simp only [V1];rfl
 |ret=>funext st K;show(∀ds,H5 { X with dfs:=ds} .ret st K)=_;simp only [V1];rfl
 |label l=>funext st K;show(∀ds,H5 { X with dfs:=ds} (.label l) st K)=_;simp only [V1];rfl
 |_=>rfl
def a9D (X:Cy) (l:Nat) (xs:List (List D)) (ops:List Oper) (r:List Oper):Sy→Pre→(Sy→Pre→Prop)→Prop:=by
 induction r with
 |nil=>exact fun st p K=>K st p
 |cons o rest ih=>exact fun st p K=>match a4t st o with
  |some args=>a1o ops o.guard st (fun st=>a3z X l xs st o args p fun st p=>ih st p K) (fun st=>H3 X st o.dst .und fun st=>ih st p K)
  |none=>c5p X ops o st fun st=>ih st p K
theorem c2T (X:Cy) (l:Nat) (xs:List (List D)) (ops:List Oper) (r:List Oper):a9D X l xs ops r=fun st p K=>b7b X l xs ops r st p K:=by
 induction r with
 |nil=>rfl
 |cons o rest ih=>
  funext st p K
  show(match a4t st o with
   |some args=>a1o ops o.guard st (fun st=>a3z X l xs st o args p fun st p=>a9D X l xs ops rest st p K) (fun st=>H3 X st o.dst .und fun st=>a9D X l xs ops rest st p K)
   |none=>c5p X ops o st fun st=>a9D X l xs ops rest st p K)=_
  rw [ih];rfl
def a4E (X:Cy) (l:Nat) (xs:List (List D)) (yl:List (Nat×Nat)) (c:Code):Sy→Pre→(Exit→Sy→Pre→Prop)→Prop:=by
 induction c with
 |skip=>exact fun st p K=>K .normal st p
 |region id ops draw=>exact fun st p K=>match draw with
  |false=>a9D X l xs ops.toList ops.toList st p (K .normal)
  |true=>match b8D X.pl id with
   |some pl=>match c4V yl id with
    |some j=>a6q ops j=true∧a5r X.tt X.nt (ops.toList.take j).toArray pl=true∧(match st with|⟨T,H,nk⟩=>a5q (ops.toList.take j) T fun T=>a7N X (ops.toList.take j) pl ⟨T,H,nk⟩ [] fun st=>a9D X l xs ops.toList (ops.toList.drop j) st p (K .normal))
    |none=>H5 X (.region id ops true) st fun e st=>K e st p
   |none=>False
 |seq a b iha ihb=>exact fun st p K=>iha st p fun e st' p'=>match e with
  | .normal=>ihb st' p' K
  |e=>K e st' p'
 |cond c t e iht ihe=>exact fun st p K=>match evY st c with
  |some (.v (.bool b))=>VIf b (iht st p K) (ihe st p K)
  |_=>False
 |block id c ih=>exact fun st p K=>ih st p fun e st' p'=>match e with
  | .exit j=>match Nat.beq j id with
   |true=>K .normal st' p'
   |false=>K (.exit j) st' p'
  |e=>K e st' p'
 |loop c ih=>exact fun st p K=>a9r ih st p K
 |exit id=>exact fun st p K=>K (.exit id) st p
 |ret=>exact fun st p K=>K .ret st p
 |scope c ih=>exact fun st p K=>ih st p K
 |label _=>exact fun st p K=>K .normal st p
 |_=>exact fun _ _ _=>False
theorem c1K (X:Cy) (l:Nat) (xs:List (List D)) (yl:List (Nat×Nat)) (c:Code):a4E X l xs yl c=fun st p K=>a3G X l xs yl c st p K:=by
 induction c with
 |region id ops draw=>
  funext st p K;show(match draw with
  |false=>a9D X l xs ops.toList ops.toList st p (K .normal)
  |true=>match b8D X.pl id with
   |some pl=>match c4V yl id with
    |some j=>a6q ops j=true∧a5r X.tt X.nt (ops.toList.take j).toArray pl=true∧(match st with|⟨T,H,nk⟩=>a5q (ops.toList.take j) T fun T=>a7N X (ops.toList.take j) pl ⟨T,H,nk⟩ [] fun st=>a9D X l xs ops.toList (ops.toList.drop j) st p (K .normal))
    |none=>H5 X (.region id ops true) st fun e st=>K e st p
   |none=>False)=_
  simp only [c2T,b6Y,V1,a8C];rfl
 |seq a b iha ihb=>
  funext st p K;show(a4E X l xs yl a st p fun e st' p'=>match e with| .normal=>a4E X l xs yl b st' p' K|e=>K e st' p')=_
  rw [iha,ihb];rfl
 |cond c t e iht ihe=>
  funext st p K;show(match evY st c with|some (.v (.bool b))=>VIf b (a4E X l xs yl t st p K) (a4E X l xs yl e st p K)|_=>False)=_
  rw [iht,ihe];rfl
 |block id c ih=>
  funext st p K;show(a4E X l xs yl c st p fun e st' p'=>match e with| .exit j=>(match Nat.beq j id with|true=>K .normal st' p'|false=>K (.exit j) st' p')|e=>K e st' p')=_
  rw [ih];rfl
 |loop c ih=>
  funext st p K;show a9r (a4E X l xs yl c) st p K=_;rw [ih];rfl
 |scope c ih=>
  funext st p K;show a4E X l xs yl c st p K=_;rw [ih];rfl
 |_=>rfl
def b5z (X:Cy) (n:Nat):Code→Sy→(Exit→Sy→Prop)→(Sy→Prop)→Prop:=by
 induction n with
 |zero=>exact fun _ st _ KT=>KT st
 |succ n ih=>exact fun c st K KT=>match c with
  | .seq a b=>H5 X a st fun e st'=>match e with
   | .normal=>ih b st' K KT
   |e=>K e st'
  |_=>False
theorem b4o (X:Cy) (n:Nat):b5z X n=fun c st K KT=>b6y X n c st K KT:=by
 induction n with
 |zero=>rfl
 |succ n ih=>
  funext c st K KT;cases c with
  |seq a b=>
   show(H5 X a st fun e st'=>match e with| .normal=>b5z X n b st' K KT|e=>K e st')=_
   rw [ih,V1];rfl
  |_=>rfl
theorem c4X {X:Cy} (hP:POK X.P X.tt) {f:FuncId} {fn:Func} {c:Code} (args:List D) {Qr:D→Prop} (hf:X.P.funcs[f]?=some fn) (hb:fn.body=some c) (hn:X.nt=fn.ntmps) (hl:args.length≤fn.ntmps)
 (h:H5 X c ⟨a0x 0 args, [],0⟩ (c1f X fn.results.toList Qr)) (h0:X.dfs= []:=by rfl) (hg:fn.ntmps≤F8:=by exact Nat.le_of_ble_eq_true rfl):o9 X.P f args Qr:=
 c6w hP args hf hb hn hl (b0q h) h0 hg
theorem b9H {X:Cy} (hP:POK X.P X.tt) {f:FuncId} {fn:Func} {c:Code} (args:List D) {Qr:D→Prop} (hf:X.P.funcs[f]?=some fn) (hb:fn.body=some c) (hn:X.nt=fn.ntmps) (hl:args.length≤fn.ntmps)
 (h:a5o X c ⟨a0x 0 args, [],0⟩ (c1f X fn.results.toList Qr)) (hg:fn.ntmps≤F8:=by exact Nat.le_of_ble_eq_true rfl):o9 X.P f args Qr:=
 c6L hP args hf hb hn hl (by rw [c1q]at h;exact h) hg
theorem c4Q {X:Cy} (hP:POK X.P X.tt) {f:FuncId} {fn:Func} {c:Code} (args:List D) {rows:List (Nat×Nat×List D×TypeId)} {cells:List D} (hf:X.P.funcs[f]?=some fn) (hb:fn.body=some c) (hn:X.nt=fn.ntmps) (hl:args.length≤fn.ntmps) (hfl:w6 cells=true)
 (h:H5 X c ⟨a0x 0 args, [],0⟩ (c3z X fn.results.toList rows cells)) (h0:X.dfs= []:=by rfl) (hg:fn.ntmps≤F8:=by exact Nat.le_of_ble_eq_true rfl):b6T X.P f args rows cells:=
 c6k hP args hf hb hn hl hfl (b0q h) h0 hg
theorem b9t {X:Cy} (hP:POK X.P X.tt) {f:FuncId} {fn:Func} {c:Code} (args:List D) {z n:Nat} {l:List D} {ty:TypeId} (hf:X.P.funcs[f]?=some fn) (hb:fn.body=some c) (hn:X.nt=fn.ntmps) (hl:args.length≤fn.ntmps)
 (h:H5 X c ⟨a0x 0 args, [],0⟩ (b1N X fn.results.toList z n l ty)) (h0:X.dfs= []:=by rfl) (hg:fn.ntmps≤F8:=by exact Nat.le_of_ble_eq_true rfl):b3m X.P f args z n l ty:=
 c6S hP args hf hb hn hl (b0q h) h0 hg
theorem a0J.ofZ {X:Cy} {f:FuncId} {args:List D} {dst:Option Nat} {st:Sy} {K:Sy→Prop} (hP:POK X.P X.tt) (st0 st1:Sy) (pl:List (Nat×PT)) (ln un inl:List Nat) {fn:Func} {c:Code} (hf:X.P.funcs[f]?=some fn) (hb:fn.body=some c)
 (hg:Nat.ble fn.ntmps 1000000=true) (hl:Nat.ble args.length fn.ntmps=true) (hs:F5 ⟨a0x 0 args++Q1 X.nt st.T,st.H,st.nk⟩ st0)
 (hbody:∀sv,H5 ⟨X.P,X.tt,fn.ntmps,pl,ln,un, [],inl,sv⟩ c st0 (c3N X ⟨X.P,X.tt,fn.ntmps,pl,ln,un, [],inl, []⟩ fn.results.toList dst fun sy=>F5 sy st1)) (hk:K st1):a0J X f args dst st K:=
 a0J.ofP hP st0 st1 pl ln un inl hf hb hg hl hs (fun sv=>b0q (hbody sv)) hk
theorem a3y.ofZ {X:Cy} {g:Operand} {ps:Array Tmp} {assign body:Code} {st:Sy} {K:Exit→Sy→Prop} {α S E:Type} {gf:FuncId} {caps:List D} (enc:α→List D) (xs:List α) (m:S→α→Option (Sum S E)) (f:S→Sy) (fe:E→Sy) (ex:E→Exit) (s0:S) (ev:Sum S E)
 (fz:List Nat) (hit:a5L X.P gf caps (xs.map enc)) (hm:L4 m xs s0=some ev) (heg:∀args w,(callFunc gf args).run X.P w= .ok (.enter gf args) w)
 (hg:evY st g=some (.fn gf [] caps)) (hcl:L6 caps=true) (hps:∀x,(enc x).length=ps.size) (hasg:I1 fz assign=true) (hr:I1 fz body=true) (hf:a7a fz ps.toList=true) (hdom:∀s,b8U fz (f s).T=true) (hdome:∀e,b8U fz (fe e).T=true)
 (hsub:F5 st (f s0)) (hdone:∀s,ev= .inl s→K .normal (f s)) (hstop:∀s,ev= .inr s→K (ex s) (fe s)) (hex:∀e,ex e= .ret∨∃id,ex e= .exit id)
 (hround:∀s x b,m s x=some b→b3j { X with dfs:= []} ps.toList (enc x) (f s) fun st1=>H5 { X with dfs:= []} assign st1<|c0m { X with dfs:= []} body fun e sy=>match e with
  | .normal=>∃s',b= .inl s'∧F5 sy (f s')
  | .ret=>∃s',b= .inr s'∧ex s'= .ret∧F5 sy (fe s')
  | .exit id=>∃s',b= .inr s'∧ex s'= .exit id∧F5 sy (fe s')
  |_=>False):a3y X g ps assign body st K:=
 a3y.of enc xs m f fe ex s0 ev fz hit hm heg hg hcl hps hasg hr hf hdom hdome hsub hdone hstop hex fun s x b hb=>by
  have h:=hround s x b hb;simp only [V1,b8M]at h;exact h
theorem b6G {X:Cy} (hP:POK X.P X.tt) {f:FuncId} {fn:Func} {c:Code} (caps:List D) (xs:List (List D)) (yl:List (Nat×Nat)) (hf:X.P.funcs[f]?=some fn) (hb:fn.body=some c) (hn:X.nt=fn.ntmps) (hl:caps.length+1≤fn.ntmps) (hres:fn.results= #[])
 (h:∀l,a4E X l xs yl c ⟨a0x 0 (.v (.func (.yield l) #[] #[])::caps), [],0⟩ (some []) (c8q xs)) (h0:X.dfs= []:=by rfl) (hg:fn.ntmps≤F8:=by exact Nat.le_of_ble_eq_true rfl):a5L X.P f caps xs:=
 c5x hP caps xs yl hf hb hn hl hres (fun l=>by have h:=h l;rw [c1K]at h;exact h) h0 hg
theorem c0X {X:Cy} (hP:POK X.P X.tt) {f:FuncId} {fn:Func} {c:Code} {z n n':Nat} {l l':List D} {ty t:TypeId} {args:List D} {i ie:TI} {bytes:Nat}
 (hf:X.P.funcs[f]?=some fn) (hb:fn.body=some c) (hn:X.nt=fn.ntmps) (hl:args.length+1≤fn.ntmps) (htl:a9e t (a9R 4 c)) (hi:A4 X.tt t=some i) (hd:i.d= .slice ty z bytes) (hie:A4 X.tt ty=some ie) (hiz:ie.n=z) (h42:fn.ntmps=42) (hres:fn.results= #[.tmp 4])
 (h:b5z X 4 c ⟨a0x 0 (.row 0 z::args), [(0, .row z n l ty)],1⟩ (b1N X fn.results.toList z n' l' ty) (c6N z l' n' ty)) (h0:X.dfs= []:=by rfl) (hg:fn.ntmps≤F8:=by exact Nat.le_of_ble_eq_true rfl):b2G X.P f z n l ty args z n' l':=
 c4d hP hf hb hn hl htl hi hd hie hiz h42 hres (by rw [b4o]at h;exact h) h0 hg
end Go.Sx
namespace Go.Sx
open Go Go.RowKit
theorem vb {α:Type} {b:Bool} {p q:Prop} {x y r:Option α} (h:(if b=true then x else y)=r) (h1:b=true→x=r→p) (h2:b=false→y=r→q):VIf b p q:=VIf.b h1 h2 h
theorem cy {α β:Type} {P:Program} {f:FuncId} {args:List D} {st:Sy} {K:Sy→D→Prop} {o:Option α} {k:α→Option β} {r:β} {c:α→D} (h:Option.bind o k=some r) (hd:∀x,o=some x→o9 P f args fun y=>y=c x) (hk:∀x,k x=some r→K st (c x)):a6G P f args st K:=by
 obtain⟨x,hx,hm⟩:=d8 h;exact a6G.det (hd x hx) (hk x hm)
theorem co {α β:Type} {P:Program} {seq:Bool} {f:FuncId} {fa:List D} {st st':Sy} {K:Sy→D→Prop} {o:Option α} {k:α→Option β} {r:β} {c:α→D} (h:Option.bind o k=some r) (hd:∀x,o=some x→o9 P f fa fun y=>y=c x) (hk:∀x,k x=some r→match a3s (c x),seq with
 |true,_=>K st (c x)
 |false,true=>K st' (c x)
 |false,false=>False):a7H P seq f fa st st' K:=by
 obtain⟨x,hx,hm⟩:=d8 h;exact a7H.det (hd x hx) (hk x hm)
theorem _root_.Eq.rl {α:Type} {a r:α} {f:α→D} {x:D} (hm:some a=some r) (h:leD x (f a)):o8 x fun y=>y=f r:=by
 cases hm;exact d0g h
theorem _root_.Eq.rr {α:Type} {a r:α} {f:α→D} {x:D} (hm:some a=some r) (h:x=f a:=by rfl):o8 x fun y=>y=f r:=hm.rl (h▸d0e _)
def lkL (T:List (Nat×D)):List (Nat×D)→Option (List D)
 | []=>some []
 |(d,_)::r=>match n9 T d,lkL T r with
  |some x,some l=>some (x::l)
  |_,_=>none
def bkL (n:Nat):List (Nat×D)→List D
 | []=> []
 |(_,s)::r=>Y5 n s::bkL n r
theorem tA {n:Nat} {T:List (Nat×D)}:∀ {r:List (Nat×D)},lkL T r=some (bkL n r)→a7W n T r
 | [],_=>trivial
 |(d,s)::r,h=>by
  simp only [lkL,bkL]at h;split at h
  · rename_i x l h1 h2;simp only [Option.some.injEq,List.cons.injEq]at h;obtain⟨rfl,rfl⟩:=h;exact⟨tR h1,tA h2⟩
  · cases h
def lkH (n:Nat) (H:Hy):Hy→Option Hy
 | []=>some []
 |(k, .row z m l ty)::r=>match Nat.blt k n,lkH n H r with
  |true,some q=>match j7 H k with|some e=>some ((k,e)::q)|none=>none
  |false,some q=>some ((k, .row z 0 [] ty)::q)
  |_,none=>none
 |(k, .blk _ _)::r=>match j7 H k,lkH n H r with
  |some e,some q=>some ((k,e)::q)
  |_,_=>none
 |(k, .mp _ _)::r=>match j7 H k,lkH n H r with
  |some e,some q=>some ((k,e)::q)
  |_,_=>none
def bkH (n:Nat):Hy→Hy
 | []=> []
 |(k, .blk cs ty)::r=>(k, .blk (a0W n cs) ty)::bkH n r
 |(k,e)::r=>(k,e)::bkH n r
theorem hA {n:Nat} {H:Hy}:∀ {r:Hy},lkH n H r=some (bkH n r)→a6L n H r
 | [],_=>trivial
 |(k, .row z m l ty)::r,h=>by
  simp only [lkH,bkH]at h;cases hq:lkH n H r with
  |none=>rw [hq]at h;split at h<;>simp_all
  |some q=>
   rw [hq]at h;cases hb:Nat.blt k n with
   |true=>
    rw [hb]at h;cases hf:j7 H k with
    |none=>rw [hf]at h;cases h
    |some e=>
     rw [hf]at h;simp only [Option.some.injEq,List.cons.injEq,Prod.mk.injEq,true_and]at h;obtain⟨rfl,rfl⟩:=h;exact⟨by simp only [b3B,hb];exact⟨m,l,hf,rfl,rfl⟩,hA hq⟩
   |false=>
    rw [hb]at h;simp only [Option.some.injEq,List.cons.injEq,Prod.mk.injEq,true_and,E.row.injEq,and_true]at h;obtain⟨⟨rfl,rfl⟩,rfl⟩:=h;exact⟨by unfold b3B;rw [hb];exact⟨rfl,rfl⟩,hA hq⟩
 |(k, .blk cs ty)::r,h=>by
  simp only [lkH,bkH]at h;split at h
  · rename_i e q h1 h2;simp only [Option.some.injEq,List.cons.injEq,Prod.mk.injEq,true_and]at h;obtain⟨rfl,rfl⟩:=h;exact⟨⟨_,h1,a7t.refl _⟩,hA h2⟩
  · cases h
 |(k, .mp es ty)::r,h=>by
  simp only [lkH,bkH]at h;split at h
  · rename_i e q h1 h2;simp only [Option.some.injEq,List.cons.injEq,Prod.mk.injEq,true_and]at h;obtain⟨rfl,rfl⟩:=h;exact⟨⟨_,h1,rfl⟩,hA h2⟩
  · cases h
theorem sb {st st':Sy} (n:Nat) (h1:a4k n st'=true:=by exact rfl) (h2:lkL st.T st'.T=some (bkL n st'.T):=by exact rfl) (h3:a6L n st.H st'.H:=by first|exact hA rfl|repeat' (first|exact hR rfl|exact hW rfl|exact⟨rfl,rfl⟩|exact trivial|refine⟨?_, ?_⟩)):F5 st st':= .of n h1 (tA h2) h3
theorem er {α β:Type} {c:α→List D} {z:Nat} {l:List α} {i:Int} {k:α→Option β} {r:β} {P:List D→Prop} (h:Option.bind (idx l i) k=some r) (hk:∀x,k x=some r→P (c x)) (hc:∀x,(c x).length=z:=by exact fun _=>rfl):∃cs,(el (l.flatMap c) z i.toNat=cs∧i.toNat<l.length)∧P cs:=by
 obtain⟨x,hx,hm⟩:=d8 h;exact⟨_,b8h hc hx,hk x hm⟩
theorem ei {α β:Type} {c:α→List D} {z:Nat} {l:List α} {i:Int} {k:α→Option β} {r:β} {P:List D→Prop} (h:Option.bind (idx l i) k=some r) (hk:∀x,k x=some r→P (c x)) (hc:∀x,(c x).length=z:=by exact fun _=>rfl):∃cs,(el (l.flatMap c) z i.toNat=cs∧0≤i∧i<l.length)∧P cs:=by
 obtain⟨x,hx,hm⟩:=d8 h;exact⟨_,c7c hc hx,hk x hm⟩
theorem eb {α β:Type} {l:List α} {i:Int} {k:α→Option β} {r:β} {P:Prop} (h:Option.bind (idx l i) k=some r) (hk:∀x,k x=some r→P):(0≤i∧i<l.length)∧P:=by
 obtain⟨x,hx,hm⟩:=d8 h;exact⟨a1T hx,hk x hm⟩
end Go.Sx
namespace Go.Sx
open Go Go.RowKit
theorem b3I {S:List D}:∀ {n:Nat} {m r:List D},takeD n m=some r→takeD n (m++S)=some r
 |0,_,_,h=>h
 |n+1, [],_,h=>by simp [takeD]at h
 |n+1,x::m,r,h=>by
  cases x<;>simp only [takeD,List.cons_append]at h⊢<;>first|exact h|(cases ht:takeD n m with
   |none=>rw [ht]at h;cases h
   |some q=>rw [ht]at h;rw [b3I ht];exact h)
theorem b4k {S:List D} {n:Nat} {r:List D}:∀ {off:Nat} {m:List D},takeD n (dropD off m)=some r→takeD n (dropD off (m++S))=some r
 |0,_,h=>b3I h
 |off+1, [],h=>by
  cases n with
  |zero=>exact h
  |succ n=>simp [dropD,takeD]at h
 |off+1,_::m,h=>b4k (off:=off) (m:=m) h
theorem b4d {off:Nat} {m:List D}:∀(P:List D),dropD (P.length+off) (P++m)=dropD off m
 | []=>by rw [show([]:List D).length+off=off by simp];rfl
 |x::P=>by rw [show(x::P).length+off=(P.length+off)+1 by simp;omega];exact b4d P
theorem b0Z {S:List D}:∀ {off:Nat} {l m r:List D},over off l m=some r→over off l (m++S)=some (r++S)
 |0, [],_,_,h=>by simp only [over,Option.some.injEq]at h⊢;rw [h]
 |0,x::l, [],_,h=>by simp [over]at h
 |0,x::l,y::m,r,h=>by
  simp only [over,List.cons_append]at h⊢;cases ht:over 0 l m with
  |none=>rw [ht]at h;cases h
  |some q=>rw [ht]at h;cases h;rw [b0Z ht];rfl
 |off+1,l, [],_,h=>by simp [over]at h
 |off+1,l,y::m,r,h=>by
  simp only [over,List.cons_append]at h⊢;cases ht:over off l m with
  |none=>rw [ht]at h;cases h
  |some q=>rw [ht]at h;cases h;rw [b0Z ht];rfl
theorem b6W {off:Nat} {l m r:List D} (h:over off l m=some r):∀(P:List D),over (P.length+off) l (P++m)=some (P++r)
 | []=>by rw [show([]:List D).length+off=off by simp];exact h
 |x::P=>by
  rw [show(x::P).length+off=(P.length+off)+1 by simp;omega];simp only [over,List.cons_append,b6W h P]
theorem a2D {α:Type} {c:α→List D} {z:Nat} (hc:∀x,(c x).length=z):∀(l:List α),(l.flatMap c).length=l.length*z
 | []=>by simp
 |x::l=>by simp only [List.flatMap_cons,List.length_append,List.length_cons,hc,a2D hc l,Nat.add_mul];omega
theorem b4w {α:Type} {xs:List α} {i:Int} {e:α} (h:idx xs i=some e):∃A B,xs=A++e::B∧A.length=i.toNat∧∀y,xs.set i.toNat y=A++y::B:=by
 obtain⟨h1,h2⟩:=a2A h;obtain⟨h3,h4⟩:=List.getElem?_eq_some_iff.1 h2;refine⟨xs.take i.toNat,xs.drop (i.toNat+1), ?_,by simp;omega,fun y=> ?_⟩
 · rw [←h4];simp
 · rw [List.set_eq_take_append_cons_drop,if_pos h3]
theorem ldx {α:Type} {c:α→List D} {z n:Nat} {xs:List α} {i:Int} {e:α} {pre post cs r:List D} {b off o:Nat} (hz:∀x,(c x).length=z) (hx:idx xs i=some e) (hb:pre.length=b) (hcs:cs=pre++(xs.flatMap c++post)) (ho:o=b+i.toNat*z+off) (hr:takeD n (dropD off (c e))=some r):takeD n (dropD o cs)=some r:=by
 obtain⟨A,B,rfl,hA,_⟩:=b4w hx;have hl:(pre++A.flatMap c).length=b+i.toNat*z:=by rw [List.length_append,a2D hz,hA,hb]
 rw [hcs,ho,←hl,show pre++((A++e::B).flatMap c++post)=(pre++A.flatMap c)++(c e++(B.flatMap c++post)) by simp,b4d];exact b4k hr
theorem c6m {n o:Nat} {l r:List D} {P:List D→Prop} (h:takeD n (dropD o l)=some r) (hp:P r):(match takeD n (dropD o l)with|some l=>P l|none=>False):=by rw [h];exact hp
theorem stx {α:Type} {c:α→List D} {z:Nat} {xs ys:List α} {i:Int} {e y:α} {pre post cs cs' l:List D} {b off o:Nat} (hz:∀x,(c x).length=z) (hx:idx xs i=some e) (hb:pre.length=b) (hcs:cs=pre++(xs.flatMap c++post)) (ho:o=b+i.toNat*z+off) (hl:over off l (c e)=some (c y)) (hcs':cs'=pre++(ys.flatMap c++post)) (hy:xs.set i.toNat y=ys):over o l cs=some cs':=by
 obtain⟨A,B,rfl,hA,hs⟩:=b4w hx;have hn:(pre++A.flatMap c).length=b+i.toNat*z:=by rw [List.length_append,a2D hz,hA,hb]
 rw [hs]at hy;subst hy;rw [hcs,hcs',ho,←hn,show pre++((A++e::B).flatMap c++post)=(pre++A.flatMap c)++(c e++(B.flatMap c++post)) by simp,show pre++((A++y::B).flatMap c++post)=(pre++A.flatMap c)++(c y++(B.flatMap c++post)) by simp];exact b6W (b0Z hl) _
def c3X {α:Type} (i:Int) (y:α):Nat→List α→List α
 |_, []=> []
 |k,x::l=>(if(i==(k:Int))=true then y else x)::c3X i y (k+1) l
theorem b9B {α:Type} {i:Int} {y:α}:∀(l:List α) (k:Nat),0≤i→c3X i y k l=if i<k then l else l.set (i.toNat-k) y
 | [],k,_=>by simp [c3X]
 |x::l,k,h=>by
  simp only [c3X];rw [b9B l (k+1) h];by_cases h1:i<(k:Int)
  · rw [if_neg (by rw [beq_iff_eq];omega),if_pos (by omega),if_pos h1]
  · by_cases h2:i=(k:Int)
    · rw [if_pos (by rw [beq_iff_eq];exact h2),if_pos (by omega),if_neg h1,show i.toNat-k=0 by omega];rfl
    · rw [if_neg (by rw [beq_iff_eq];exact h2),if_neg (by omega),if_neg h1,show i.toNat-k=(i.toNat-(k+1))+1 by omega];rfl
theorem V2 {α:Type} {xs:List α} {i:Int} {e y:α} (hx:idx xs i=some e):xs.set i.toNat y=c3X i y 0 xs:=by
 have h:=(a1T hx).1;rw [b9B xs 0 h,if_neg (by omega)];rfl
end Go.Sx
namespace Go.Sx
open Go Go.RowKit
theorem a9U {P:Program} {e esz:Nat} (w:World) (dT sT ty:TypeId) (g o dLen dCap:Nat) (a:Addr) (sLen sCap:Nat) (cur:Array Value) (t:TypeId) (cs:List Value)
 (hu:P.underlying dT=some (.slice e)) (hs:∀w:World,(sizeOf e).run P w= .ok esz w)
 (hg:w.heap[g]?=some (.cells cur t (0,0))) (hn:cs.length=Nat.min sLen dLen*esz)
 (hsrc:∀j v,cs[j]?=some v→w.cell? (a.add j)=some v) (hfit:o+cs.length≤cur.size) (h1:∀v∈cs,v.oneCell'=true):
 (Builtin.copy_ #[dT,sT] ty #[.slice (some ⟨g,o,none⟩) dLen dCap, .slice (some a) sLen sCap]).run P w=
  .ok (goInt (Nat.min sLen dLen)) (w.setRow g (cur.toList.take o++cs++cur.toList.drop (o+cs.length)).toArray):=by
 have hl:=run_loadCells_list (P:=P) w a cs hsrc;have hst:=run_storeCells_at (P:=P) g o t cs 0 cur w hg (by simpa using hfit) h1
 rw [hn]at hl;simp [Builtin.copy_,run_underlying hu,Builtin.lenOf,Builtin.firstCells,hs,hl,hst]
theorem a9f {P:Program} (w:World) (tS tR e:TypeId) (ht:P.underlying tS=some (.slice e)) (size:Nat) (hz:∀w,(Go.sizeOf e).run P w= .ok size w)
 (a b:Addr) (la ca lb cb:Nat) (hne:a.block≠b.block) {cA cB:Array Value} {tA tB:TypeId} {fA:Nat×Nat}
 (hsa:w.heap[a.block]?=some (.cells cA tA fA)) (hsb:w.heap[b.block]?=some (.cells cB tB (0,0))) (hkA:cA.size≠0) (hkB:cB.size≠0):
 (Extern.SlicesOverlaps.overlaps #[tS,tS] #[tR] #[.slice (some a) la ca, .slice (some b) lb cb]).run P w= .ok (.bool false) w:=by
 have hnb:(a.block !=b.block)=true:=by simpa using hne
 have hnb':(a.block==b.block)=false:=by simpa using hne
 have sa:w.shape? a.block=some (tA,cA.size):=by simp [World.shape?,hsa]
 have sb:w.shape? b.block=some (tB,cB.size):=by simp [World.shape?,hsb]
 have fb:w.frozen? b=false:=by simp [World.frozen?,hsb]
 have fe:w.frozen? { block:=b.block,off:=cB.size}=false:=by simp [World.frozen?,hsb]
 change Sem.run P (α:=Value) (do
  let some t:=(#[tS,tS]:Array TypeId)[0]?|stuck "slices.overlaps: no parameter types"
  let .slice elem←underlying t|stuck "slices.overlaps: slice type expected"
  let size←sizeOf elem
  match(some a:Option Addr),(some b:Option Addr)with
  |some a,some b=>
   if la=0∨lb=0∨size=0 then pure (Value.bool false)
   else if a.block !=b.block&&(←frozen a)&&(←frozen b)then unsupported .addressObserved
   else do
    if a.block !=b.block then do
     noView a;noView b
     if←mayBeOne a b then return Value.bool ((←choose (.extern "sameAddr.stringBytes" 2))==1)
    pure (Value.bool (a.block==b.block&&a.off<b.off+lb*size&&b.off<a.off+la*size))
  |_,_=>pure (Value.bool false)) w=_
 by_cases h0:la=0∨lb=0∨size=0
 · simp [run_underlying ht,hz,h0]
 · obtain⟨k,hk⟩:∃k,cB.size=k+1:=⟨cB.size-1,by omega⟩;obtain⟨k',hk'⟩:∃k,cA.size=k+1:=⟨cA.size-1,by omega⟩;rw [hk]at sb fe;rw [hk']at sa
   cases hfa:w.frozen? a<;>cases hfe:w.frozen? { block:=a.block,off:=k'+1}<;>
    simp [run_underlying ht,hz,h0,hnb,hnb',frozen,noView,viewAt,mayBeOne,stringish,shape,Sem.run,sa,sb,fb,fe,hfa,hfe]
def puts (a:Act):List (Nat×Value)→Act
 | []=>a
 |(d,v)::L=>(puts a L).put (some d) v
def lk:List (Nat×Value)→Nat→Option Value
 | [],_=>none
 |(d,v)::L,e=>if Nat.beq d e then some v else lk L e
def lkA (a:Act) (L:List (Nat×Value)) (e:Nat):Option Value:=match lk L e with
 |some v=>some v
 |none=>a.tmps[e]?
def inB (n:Nat):List (Nat×Value)→Bool
 | []=>true
 |(d,_)::L=>Nat.blt d n&&inB n L
theorem a2n {a:Act}:∀(L:List (Nat×Value)),(puts a L).tmps.size=a.tmps.size
 | []=>rfl
 |(d,v)::L=>by rw [puts,a0T,a2n L]
theorem a3P {a:Act}:∀(L:List (Nat×Value)),(puts a L).defers=a.defers
 | []=>rfl
 |(d,v)::L=>by rw [puts,a3j,a3P L]
theorem N7 {a:Act}:∀(L:List (Nat×Value)) (e:Nat),inB a.tmps.size L=true→(puts a L).tmps[e]?=lkA a L e
 | [],e,_=>rfl
 |(d,v)::L,e,h=>by
  simp only [inB,Bool.and_eq_true]at h;have hd:d<a.tmps.size:=by simpa [Nat.blt_eq]using h.1
  rw [puts];unfold lkA lk;cases hb:Nat.beq d e with
  |true=>
   have:=Nat.eq_of_beq_eq_true hb;subst this;simp only [if_true];exact a3c (by rw [a2n];exact hd)
  |false=>
   have:d≠e:=Nat.ne_of_beq_eq_false hb;rw [K8 this,N7 L e h.2];simp [lkA]
theorem B5 {a:Act} {L:List (Nat×Value)} {e N:Nat} {v:Value} (hs:a.tmps.size=N) (hb:inB N L=true) (h:lkA a L e=some v):(puts a L).eval (.tmp e)=v:=U3 (by rw [N7 L e (hs▸hb),h])
theorem A8 {P:Program} {ops:Array Oper} {Q:Exit→Act→World→Prop} {o:Oper} {rest:List Oper} {a:Act} {L:List (Nat×Value)} {w w':World} {v:Value} {d:Nat} (hg:o.guard=none) (hd:o.dst=some d) (h:(execOp (puts a L).eval o).run P w= .ok (.value v) w')
 (hn:wpList P ops Q rest (puts a ((d,v)::L)) w'):wpList P ops Q (o::rest) (puts a L) w:=by
 refine Q2 hg h ?_;rw [hd];exact hn
theorem a1X {P:Program} {ops:Array Oper} {Q:Act→Prop} {o:Oper} {rest:List Oper} {a:Act} {L:List (Nat×Value)} {w:World} {v:Value} {d:Nat} (hg:o.guard=none) (hd:o.dst=some d) (h:(execOp (puts a L).eval o).run P w= .ok (.value v) w)
 (hn:wpStill P ops w Q rest (puts a ((d,v)::L))):wpStill P ops w Q (o::rest) (puts a L):=by
 have hw:Region.wanted o (yielded ops (puts a L).tmps)=true:=by simp [Region.wanted,hg]
 simp only [wpStill,hw,if_true,Oper.still,h,Oper.stillUpon_value,hd];exact hn
section
variable {P : Program} {a : Act} {L : List (Nat × Value)} {o : Oper} {w : World} {x y N : Nat} {u v : Value}
theorem S8 (hs:a.tmps.size=N) (hb:inB N L=true) (ho:o.op= .move (.tmp x)) (hx:lkA a L x=some v):(execOp (puts a L).eval o).run P w= .ok (.value v) w:=by
 simp [execOp,ho,B5 hs hb hx]
theorem c5J (hs:a.tmps.size=N) (hb:inB N L=true) (ho:o.op= .assign (.tmp x)) (hx:lkA a L x=some v):(execOp (puts a L).eval o).run P w= .ok (.value v) w:=by
 simp [execOp,ho,B5 hs hb hx]
theorem b3N {t t':TypeId} {p q:Nat} (hs:a.tmps.size=N) (hb:inB N L=true) (ho:o.op= .binOp .add t (.tmp x) (.tmp y) t') (hx:lkA a L x=some (.int .i64 (p:Int))) (hy:lkA a L y=some (.int .i64 (q:Int))) (h:p+q≤9223372036854775807):
 (execOp (puts a L).eval o).run P w= .ok (.value (.int .i64 ((p+q:Nat):Int))) w:=by
 have e:IntKind.i64.wrap ((p:Int)+(q:Int))=((p+q:Nat):Int):=by rw [IntKind.wrap_i64];omega
 simp [execOp,ho,B5 hs hb hx,B5 hs hb hy,eqGuard,binOp,Op.intArith,e]
theorem c7D {t t':TypeId} {p q:Nat} (hs:a.tmps.size=N) (hb:inB N L=true) (ho:o.op= .binOp .sub t (.tmp x) (.tmp y) t') (hx:lkA a L x=some (.int .i64 (p:Int))) (hy:lkA a L y=some (.int .i64 (q:Int))) (hq:q≤p) (h:p≤9223372036854775807):
 (execOp (puts a L).eval o).run P w= .ok (.value (.int .i64 ((p-q:Nat):Int))) w:=by
 have e:IntKind.i64.wrap ((p:Int)-(q:Int))=((p-q:Nat):Int):=by rw [IntKind.wrap_i64];omega
 simp [execOp,ho,B5 hs hb hx,B5 hs hb hy,eqGuard,binOp,Op.intArith,e]
theorem c8o {t t':TypeId} {p q:Nat} (hs:a.tmps.size=N) (hb:inB N L=true) (ho:o.op= .binOp .gtr t (.tmp x) (.tmp y) t') (hx:lkA a L x=some (.int .i64 (p:Int))) (hy:lkA a L y=some (.int .i64 (q:Int))):
 (execOp (puts a L).eval o).run P w= .ok (.value (.bool (decide (q<p)))) w:=by
 simp [execOp,ho,B5 hs hb hx,B5 hs hb hy,eqGuard,binOp,Op.intCmp]
theorem c7G {t:TypeId} {c:Bool} (hs:a.tmps.size=N) (hb:inB N L=true) (ho:o.op= .unOp .not t (.tmp x)) (hx:lkA a L x=some (.bool c)):
 (execOp (puts a L).eval o).run P w= .ok (.value (.bool (!c))) w:=by
 simp [execOp,ho,B5 hs hb hx,Op.unary]
section
variable {t e esz bytes : Nat} {i : TI} {g n cap m : Nat}
theorem b9e (hi:I0 P t i) (hd:i.d= .slice e esz bytes) (hs:a.tmps.size=N) (hb:inB N L=true) (ho:o.op= .slice t (.tmp x) (some (.tmp y)) none none) (hx:lkA a L x=some (.slice (some ⟨g,0,none⟩) n cap)) (hy:lkA a L y=some (.int .i64 (m:Int))) (hm:m<n) (hnc:n≤cap):
 (execOp (puts a L).eval o).run P w= .ok (.value (.slice (some ⟨g,m*esz,none⟩) (n-m) (cap-m))) w:=by
 obtain⟨off,h1,h2⟩:=b9c (X:=⟨P, [],0, [], [], [], [], [], []⟩) (g:=g) hi hd (show m≤n by omega) hnc w;obtain rfl:off=m*esz:=by omega
 simp only [execOp,ho,B5 hs hb hx,B5 hs hb hy,Option.map,Sem.run_bind,h1]
 try rfl
theorem c8n (hi:I0 P t i) (hd:i.d= .slice e esz bytes) (hs:a.tmps.size=N) (hb:inB N L=true) (ho:o.op= .slice t (.tmp x) none (some (.tmp y)) none) (hx:lkA a L x=some (.slice (some ⟨g,0,none⟩) n cap)) (hy:lkA a L y=some (.int .i64 (m:Int))) (hm:m≤cap):
 (execOp (puts a L).eval o).run P w= .ok (.value (.slice (some ⟨g,0,none⟩) m cap)) w:=by
 have h1:=c3T (X:=⟨P, [],0, [], [], [], [], [], []⟩) (g:=g) (n:=n) hi hd hm w;simp only [execOp,ho,B5 hs hb hx,B5 hs hb hy,Option.map,Sem.run_bind,h1];rfl
theorem b4n {b:Builtin} {tys:Array TypeId} {xs:List Nat} {vals:List Value} {v:Value} {w':World} (ho:o.op= .call { callee:= .builtin b,args:=(xs.map Operand.tmp).toArray,argTypes:=tys}) (hs:a.tmps.size=N) (hb:inB N L=true)
 (hx:xs.map (fun x=>lkA a L x)=vals.map some) (h:∀cs,(builtin b tys o.type cs vals.toArray).run P w= .ok (.value v) w'):(execOp (puts a L).eval o).run P w= .ok (.value v) w':=by
 have he:(xs.map Operand.tmp).toArray.map (puts a L).eval=vals.toArray:=by
  apply Array.ext';simp only [List.map_toArray,List.map_map];clear ho h
  induction xs generalizing vals with
  |nil=>cases vals with
   |nil=>rfl
   |cons=>simp at hx
  |cons x xs ih=>cases vals with
   |nil=>simp at hx
   |cons u us=>
    simp only [List.map_cons,List.cons.injEq]at hx;simp only [List.map_cons,Function.comp,B5 hs hb hx.1];rw [←ih hx.2]
 obtain⟨cs,hr⟩:=I5 (X:=cx (⟨P, [],0, [], [], [], [], [], []⟩:Cy) w []) (a:=puts a L) ho he w;have hr':(execOp (puts a L).eval o).run P w=_:=hr;rw [hr'];exact h cs
theorem c9K {f:FuncId} {tys:Array TypeId} {x1 x2:Nat} {v1 v2 v:Value} {w':World} (ho:o.op= .call { callee:= .value (.func f),args:= #[.tmp x1, .tmp x2],argTypes:=tys}) (hs:a.tmps.size=N) (hb:inB N L=true)
 (h1:lkA a L x1=some v1) (h2:lkA a L x2=some v2) (h:(callFunc f #[v1,v2]).run P w= .ok (.value v) w'):(execOp (puts a L).eval o).run P w= .ok (.value v) w':=by
 simp only [execOp,ho,resolve,invoke,Sem.run_bind,Sem.run_pure,Result.andThen_ok,List.map_toArray,List.map_cons,List.map_nil,B5 hs hb h1,B5 hs hb h2]
 first|exact h|(simp [Act.eval,Operand.func,h];done)|simp [Act.eval,callValue,h]
end
end
theorem c0B {α:Type} (c ls C1:List α) (I M N:Nat) (hI:I≤N) (hl:ls.length=M) (hc:N+M≤c.length) (h1:C1=c.take (I+M)++(c.take N).drop I++c.drop (I+M+(N-I))):
 (C1.take I++ls++C1.drop (I+M)).take (N+M)=c.take I++ls++(c.take N).drop I:=by
 have a1:C1.take I=c.take I:=by
  rw [h1,List.append_assoc,List.take_append_of_le_length (by simp;omega),List.take_take,Nat.min_eq_left (by omega)]
 have a2:C1.drop (I+M)=(c.take N).drop I++c.drop (I+M+(N-I)):=by
  rw [h1,List.append_assoc,List.drop_left' (by simp;omega)]
 rw [a1,a2,←List.append_assoc];exact List.take_left' (by simp [hl];omega)
theorem c3D {α:Type} (c ls C1 C2:List α) (I M N:Nat) (hI:I≤N) (hl:ls.length=M) (hc:N≤c.length) (h0:C1.take I=c.take I) (hn:N+M≤C1.length) (h2:C2=C1.take I++ls++C1.drop (I+M)):
 (C2.take (I+M)++(c.take N).drop I++C2.drop (I+M+(N-I))).take (N+M)=c.take I++ls++(c.take N).drop I:=by
 have a1:C2.take (I+M)=c.take I++ls:=by
  rw [h2,h0];exact List.take_left' (by simp [hl];omega)
 rw [a1];exact List.take_left' (by simp [hl];omega)
theorem c0P {P:Program} {t e esz bytes tn:Nat} {i ie:TI} (hi:I0 P t i) (hd:i.d= .slice e esz bytes) (hie:I0 P e ie) (hiz:ie.n=esz) (h1:0<esz) (hn:P.underlying tn=some (.int .i64)) {w:World} {g cap j k:Nat} {cur:Array Value}
 (hg:w.heap[g]?=some (.cells cur e (0,0))) (hcs:cur.size=cap*esz) (hj:j≤cap) (hk:0<k) (hroom:cap<j+k) (hb:(j+k)*bytes≤140737488355328) (hm:j+k≤maxLen):
 ∃C1 c',(∀ty,(Builtin.append_ #[t,tn] ty #[.slice (some ⟨g,0,none⟩) j cap, .int .i64 (k:Int)]).run P w= .ok (.slice (some ⟨w.heap.size,0,none⟩) (j+k) c') (w.drew.alloc (.cells C1 e)))∧C1.size=c'*esz∧j+k≤c'∧c'≤maxLen∧C1.toList.take (j*esz)=cur.toList.take (j*esz):=by
 obtain⟨hu,inf,hinf,hsz,hby⟩:=hi.slice hd;obtain⟨inf',z,hinf',hsz',hz,hzc⟩:=hie.info;obtain rfl:inf=inf':=by rw [hinf]at hinf';exact Option.some.inj hinf'
 have hzs:z.cells.size=esz:=by rw [←Array.length_toList,hzc,hie.zn,hiz]
 have hjc:j*esz≤cur.size:=by rw [hcs];exact Nat.mul_le_mul_right _ hj
 have hm':j+k≤9223372036854775807:=by simpa [maxLen]using hm
 have hol:(cur.toList.take (j*esz)).length=j*esz:=by simp;omega
 have hold:=run_firstCells_some (P:=P) w.drew inf.size j ⟨g,0,none⟩ j cap (cur.toList.take (j*esz)) (by rw [hol,hsz]) (fun q v hq=>by
  have hlt:q<j*esz:=by have:=(List.getElem?_eq_some_iff.1 hq).1;omega
  rw [H4];rw [List.getElem?_take_of_lt hlt]at hq;have hq':cur[q]?=some v:=by simpa using hq
  show(w.cell? ⟨g,0+q,none⟩)=some v;simp [World.cell?,hg,hq'])
 have hkb:k*inf.bytes≤281474976710656:=by
  have:k*inf.bytes≤(j+k)*inf.bytes:=Nat.mul_le_mul_right _ (by omega);rw [hby]at this⊢;omega
 refine⟨_,grownCap w (j+k) cap e,fun ty=>Lib.run_append_grow_zeros w t tn ty e inf z .i64 .i64 hu hn hinf hz (some ⟨g,0,none⟩) j cap _ hold k hk (by omega) hroom (by omega) hkb (by rw [hby];exact growslice_fits hroom hb), ?_,grownCap_ge _ _ _ _,grownCap_le_maxLen _ _ _ _ hm, ?_⟩
 · have:=grownCap_ge w (j+k) cap e;simp only [Array.size_append,List.size_toArray,hol,Builtin.zeroCells,Array.size_map,Array.size_range,hzs];rw [←Nat.add_mul,←Nat.add_mul];congr 1;omega
 · simp only [Array.toList_append,List.append_assoc];exact List.take_left' hol
end Go.Sx
namespace Go.Sx
open Go Go.RowKit
end Go.Sx
set_option maxRecDepth 100000
set_option maxHeartbeats 1000000
namespace Go.Sx
open Go Go.RowKit
theorem cell_of_heap {w w':World} {a:Addr} (h:w'.heap[a.block]?=w.heap[a.block]?) (hs:a.spot=none):w'.cell? a=w.cell? a:=by
 simp [World.cell?,h]
structure b8d (w W:World) (g esz n m:Nat) (e:TypeId) (R:List Value) (v':Value):Prop where
 ex:∃g' c' C,v'= .slice (some ⟨g',0,none⟩) (n+m) c'∧W.heap[g']?=some (.cells C e (0,0))∧n+m≤c'∧c'≤maxLen∧C.size=c'*esz∧C.toList.take ((n+m)*esz)=R∧(g'=g∨w.heap.size≤g')
 fx:Fx [g] w W
structure b7W (X:Cy) (a:Act) (w:World) (t tI e esz bytes g n cap i m mc:Nat) (sa:Addr) (ls cur:List Value):Prop where
 sz:a.tmps.size=95
 t0:a.tmps[0]?=some (.slice (some ⟨g,0,none⟩) n cap)
 t1:a.tmps[1]?=some (.int .i64 (i:Int))
 t2:a.tmps[2]?=some (.slice (some sa) m mc)
 t7:a.tmps[7]?=some (.int .i64 (m:Int))
 t8:a.tmps[8]?=some (.int .i64 (n:Int))
 hi:i<n
 hm:0<m
 hn:n≤cap
 hcm:cap≤maxLen
 hnm:n+m≤maxLen
 hb:(n+m)*bytes≤140737488355328
 hg:w.heap[g]?=some (.cells cur.toArray e (0,0))
 hcs:cur.length=cap*esz
 hll:ls.length=m*esz
 hl1:∀v,v∈ls→v.oneCell'=true
 hc1:∀v,v∈cur.take (n*esz)→v.oneCell'=true
 hne:sa.block≠g
 hsl:∃cA tA fA,w.heap[sa.block]?=some (.cells cA tA fA)∧cA.size≠0
 hsv:∀W:World,W.heap[sa.block]?=w.heap[sa.block]?→∀j v,ls[j]?=some v→W.cell? (sa.add j)=some v
 hint:X.P.underlying tI=some (.int .i64)
 hz:0<esz
theorem b1l {a:Act} {L:List (Nat×Value)}:∀(L':List (Nat×Value)),puts (puts a L) L'=puts a (L'++L)
 | []=>rfl
 |(d,v)::L'=>by rw [List.cons_append,puts,puts,b1l L']
section
variable {X : Cy} {Q : Exit → Act → World → Prop} {t tI tB e esz bytes : Nat} {i ie : TI} {a : Act} {w : World} {g n cap ix m mc : Nat} {sa : Addr} {ls cur : List Value}
structure c5w (P:Program) (t:TypeId) (ov:FuncId):Prop where
 ex:∃fn tR,P.funcs[ov]?=some fn∧(fn.name== "runtime.NumGoroutine")=false∧fn.body.isNone=true∧Extern.findNext fn=none∧Extern.find fn=some (Extern.SlicesOverlaps.overlaps #[t,t] #[tR])
theorem b0s {P:Program} {e esz:Nat} (w:World) (dT sT ty:TypeId) (g o dLen dCap:Nat) (a:Addr) (sLen sCap:Nat) (cur:List Value) (t:TypeId) (cs:List Value)
 (hu:P.underlying dT=some (.slice e)) (hs:∀w:World,(sizeOf e).run P w= .ok esz w)
 (hg:w.heap[g]?=some (.cells cur.toArray t (0,0))) (hn:cs.length=Nat.min sLen dLen*esz)
 (hsrc:∀j v,cs[j]?=some v→w.cell? (a.add j)=some v) (hfit:o+cs.length≤cur.length) (h1:∀v,v∈cs→v.oneCell'=true):
 (Builtin.copy_ #[dT,sT] ty #[.slice (some ⟨g,o,none⟩) dLen dCap, .slice (some a) sLen sCap]).run P w=
  .ok (goInt (Nat.min sLen dLen)) (w.setRow g (cur.take o++cs++cur.drop (o+cs.length)).toArray):=by
 have:=a9U w dT sT ty g o dLen dCap a sLen sCap cur.toArray t cs hu hs hg hn hsrc (by simpa using hfit) h1
 simpa using this
theorem c7a {T22 T23 T24 T25 T26 T27 T28 T29 T30:TypeId} {p22 p23 p24 p25 p26 p27 p28 p29 p30:String} {r11:Nat} {v:Value} {W1:World} {g1 n1 c1 g2 n2 c2:Nat} (hP:POK X.P X.tt) (hti:I0 X.P t i) (hd:i.d= .slice e esz bytes) (hs:a.tmps.size=95) (h9:a.tmps[9]?=some (.slice (some ⟨g1,0,none⟩) (n1) (c1))) (h0:a.tmps[0]?=some (.slice (some ⟨g2,0,none⟩) (n2) (c2))) (h1:a.tmps[1]?=some (.int .i64 ((ix:Nat):Int))) (h7:a.tmps[7]?=some (.int .i64 ((m:Nat):Int)))
 (q1:ix+m<n1) (q2:n1≤c1) (q3:ix<n2) (q4:n2≤c2) (q5:ix+m≤9223372036854775807) (hcp:∀ty,(Builtin.copy_ #[t,t] ty #[.slice (some ⟨g1,(ix+m)*esz,none⟩) (n1-(ix+m)) (c1-(ix+m)), .slice (some ⟨g2,ix*esz,none⟩) (n2-ix) (c2-ix)]).run X.P { w with drawn:=w.drawn+1}= .ok v W1)
 (hQ:Q .normal (puts a [(54,v),(53, .slice (some ⟨g2,ix*esz,none⟩) (n2-ix) (c2-ix)),(52, .int .i64 ((ix:Nat):Int)),(51, .slice (some ⟨g2,0,none⟩) (n2) (c2)),(50, .slice (some ⟨g1,(ix+m)*esz,none⟩) (n1-(ix+m)) (c1-(ix+m))),(49, .int .i64 ((ix+m:Nat):Int)),(48, .int .i64 ((m:Nat):Int)),(47, .int .i64 ((ix:Nat):Int)),(46, .slice (some ⟨g1,0,none⟩) (n1) (c1))]) W1):(Code.region r11 #[{ dst:=some 46,op:= .move (.tmp 9),type:=T22,pos:=p22,after:= #[],guard:=none},
 { dst:=some 47,op:= .move (.tmp 1),type:=T23,pos:=p23,after:= #[],guard:=none},
 { dst:=some 48,op:= .move (.tmp 7),type:=T24,pos:=p24,after:= #[],guard:=none},
 { dst:=some 49,op:= .binOp .add tI (.tmp 47) (.tmp 48) tI,type:=T25,pos:=p25,after:= #[{ on:=1,ground:= .data}, { on:=2,ground:= .data}],guard:=none},
 { dst:=some 50,op:= .slice t (.tmp 46) (some (.tmp 49)) none none,type:=T26,pos:=p26,after:= #[{ on:=0,ground:= .data}, { on:=3,ground:= .data}],guard:=none},
 { dst:=some 51,op:= .move (.tmp 0),type:=T27,pos:=p27,after:= #[],guard:=none},
 { dst:=some 52,op:= .move (.tmp 1),type:=T28,pos:=p28,after:= #[],guard:=none},
 { dst:=some 53,op:= .slice t (.tmp 51) (some (.tmp 52)) none none,type:=T29,pos:=p29,after:= #[{ on:=5,ground:= .data}, { on:=6,ground:= .data}],guard:=none},
 { dst:=some 54,op:= .call { callee:= .builtin .copy,args:= #[.tmp 50, .tmp 53],argTypes:= #[t,t]},type:=T30,pos:=p30,after:= #[{ on:=4,ground:= .data}, { on:=7,ground:= .data}],guard:=none}] true:Code).wp X.P Q a w:=by
 refine wp_region_still_tail 8 hP.mix (by kernel_rfl) ?_;show wpStill _ _ _ _ [_,_,_,_,_,_,_,_] (puts a []);refine a1X (v:= .slice (some ⟨g1,0,none⟩) (n1) (c1)) rfl rfl (S8 hs (by rfl) (x:=9) rfl (by exact h9)) ?_;refine a1X (v:= .int .i64 ((ix:Nat):Int)) rfl rfl (S8 hs (by rfl) (x:=1) rfl (by exact h1)) ?_;refine a1X (v:= .int .i64 ((m:Nat):Int)) rfl rfl (S8 hs (by rfl) (x:=7) rfl (by exact h7)) ?_;refine a1X (v:= .int .i64 ((ix+m:Nat):Int)) rfl rfl (b3N (x:=47) (y:=48) hs (by rfl) rfl (by exact rfl) (by exact rfl) (by omega)) ?_;refine a1X (v:= .slice (some ⟨g1,(ix+m)*esz,none⟩) (n1-(ix+m)) (c1-(ix+m))) rfl rfl (b9e (x:=46) (y:=49) hti hd hs (by rfl) rfl (by exact rfl) (by exact rfl) (by omega) (by omega)) ?_;refine a1X (v:= .slice (some ⟨g2,0,none⟩) (n2) (c2)) rfl rfl (S8 hs (by rfl) (x:=0) rfl (by exact h0)) ?_;refine a1X (v:= .int .i64 ((ix:Nat):Int)) rfl rfl (S8 hs (by rfl) (x:=1) rfl (by exact h1)) ?_;refine a1X (v:= .slice (some ⟨g2,ix*esz,none⟩) (n2-ix) (c2-ix)) rfl rfl (b9e (x:=51) (y:=52) hti hd hs (by rfl) rfl (by exact rfl) (by exact rfl) (by omega) (by omega)) ?_;show wpList _ _ _ [_] _ _;refine A8 (v:=v) (w':=W1) rfl rfl (b4n (b:= .copy) (xs:= [50,53]) (vals:= [.slice (some ⟨g1,(ix+m)*esz,none⟩) (n1-(ix+m)) (c1-(ix+m)), .slice (some ⟨g2,ix*esz,none⟩) (n2-ix) (c2-ix)]) (by exact rfl) hs (by rfl) (by simp only [List.map_cons,List.map_nil];congr 1) (fun cs=>by simp only [builtin,Sem.run_bind,hcp,Result.andThen_ok,Sem.run_pure])) ?_;exact hQ
theorem c6G {T47 T48 T49 T50 T51 T52 T53 T54 T55:TypeId} {p47 p48 p49 p50 p51 p52 p53 p54 p55:String} {r15:Nat} {v:Value} {W1:World} {g1 n1 c1:Nat} (hP:POK X.P X.tt) (hti:I0 X.P t i) (hd:i.d= .slice e esz bytes) (hs:a.tmps.size=95) (h9:a.tmps[0]?=some (.slice (some ⟨g1,0,none⟩) (n1) (c1))) (h0:a.tmps[0]?=some (.slice (some ⟨g1,0,none⟩) (n1) (c1))) (h1:a.tmps[1]?=some (.int .i64 ((ix:Nat):Int))) (h7:a.tmps[7]?=some (.int .i64 ((m:Nat):Int)))
 (q1:ix+m<n1) (q2:n1≤c1) (q3:ix<n1) (q4:n1≤c1) (q5:ix+m≤9223372036854775807) (hcp:∀ty,(Builtin.copy_ #[t,t] ty #[.slice (some ⟨g1,(ix+m)*esz,none⟩) (n1-(ix+m)) (c1-(ix+m)), .slice (some ⟨g1,ix*esz,none⟩) (n1-ix) (c1-ix)]).run X.P { w with drawn:=w.drawn+1}= .ok v W1)
 (hQ:Q .normal (puts a [(77,v),(76, .slice (some ⟨g1,ix*esz,none⟩) (n1-ix) (c1-ix)),(75, .int .i64 ((ix:Nat):Int)),(74, .slice (some ⟨g1,0,none⟩) (n1) (c1)),(73, .slice (some ⟨g1,(ix+m)*esz,none⟩) (n1-(ix+m)) (c1-(ix+m))),(72, .int .i64 ((ix+m:Nat):Int)),(71, .int .i64 ((m:Nat):Int)),(70, .int .i64 ((ix:Nat):Int)),(69, .slice (some ⟨g1,0,none⟩) (n1) (c1))]) W1):(Code.region r15 #[{ dst:=some 69,op:= .move (.tmp 0),type:=T47,pos:=p47,after:= #[],guard:=none},
 { dst:=some 70,op:= .move (.tmp 1),type:=T48,pos:=p48,after:= #[],guard:=none},
 { dst:=some 71,op:= .move (.tmp 7),type:=T49,pos:=p49,after:= #[],guard:=none},
 { dst:=some 72,op:= .binOp .add tI (.tmp 70) (.tmp 71) tI,type:=T50,pos:=p50,after:= #[{ on:=1,ground:= .data}, { on:=2,ground:= .data}],guard:=none},
 { dst:=some 73,op:= .slice t (.tmp 69) (some (.tmp 72)) none none,type:=T51,pos:=p51,after:= #[{ on:=0,ground:= .data}, { on:=3,ground:= .data}],guard:=none},
 { dst:=some 74,op:= .move (.tmp 0),type:=T52,pos:=p52,after:= #[],guard:=none},
 { dst:=some 75,op:= .move (.tmp 1),type:=T53,pos:=p53,after:= #[],guard:=none},
 { dst:=some 76,op:= .slice t (.tmp 74) (some (.tmp 75)) none none,type:=T54,pos:=p54,after:= #[{ on:=5,ground:= .data}, { on:=6,ground:= .data}],guard:=none},
 { dst:=some 77,op:= .call { callee:= .builtin .copy,args:= #[.tmp 73, .tmp 76],argTypes:= #[t,t]},type:=T55,pos:=p55,after:= #[{ on:=4,ground:= .data}, { on:=7,ground:= .data}],guard:=none}] true:Code).wp X.P Q a w:=by
 refine wp_region_still_tail 8 hP.mix (by kernel_rfl) ?_;show wpStill _ _ _ _ [_,_,_,_,_,_,_,_] (puts a []);refine a1X (v:= .slice (some ⟨g1,0,none⟩) (n1) (c1)) rfl rfl (S8 hs (by rfl) (x:=0) rfl (by exact h0)) ?_;refine a1X (v:= .int .i64 ((ix:Nat):Int)) rfl rfl (S8 hs (by rfl) (x:=1) rfl (by exact h1)) ?_;refine a1X (v:= .int .i64 ((m:Nat):Int)) rfl rfl (S8 hs (by rfl) (x:=7) rfl (by exact h7)) ?_;refine a1X (v:= .int .i64 ((ix+m:Nat):Int)) rfl rfl (b3N (x:=70) (y:=71) hs (by rfl) rfl (by exact rfl) (by exact rfl) (by omega)) ?_;refine a1X (v:= .slice (some ⟨g1,(ix+m)*esz,none⟩) (n1-(ix+m)) (c1-(ix+m))) rfl rfl (b9e (x:=69) (y:=72) hti hd hs (by rfl) rfl (by exact rfl) (by exact rfl) (by omega) (by omega)) ?_;refine a1X (v:= .slice (some ⟨g1,0,none⟩) (n1) (c1)) rfl rfl (S8 hs (by rfl) (x:=0) rfl (by exact h0)) ?_;refine a1X (v:= .int .i64 ((ix:Nat):Int)) rfl rfl (S8 hs (by rfl) (x:=1) rfl (by exact h1)) ?_;refine a1X (v:= .slice (some ⟨g1,ix*esz,none⟩) (n1-ix) (c1-ix)) rfl rfl (b9e (x:=74) (y:=75) hti hd hs (by rfl) rfl (by exact rfl) (by exact rfl) (by omega) (by omega)) ?_;show wpList _ _ _ [_] _ _;refine A8 (v:=v) (w':=W1) rfl rfl (b4n (b:= .copy) (xs:= [73,76]) (vals:= [.slice (some ⟨g1,(ix+m)*esz,none⟩) (n1-(ix+m)) (c1-(ix+m)), .slice (some ⟨g1,ix*esz,none⟩) (n1-ix) (c1-ix)]) (by exact rfl) hs (by rfl) (by simp only [List.map_cons,List.map_nil];congr 1) (fun cs=>by simp only [builtin,Sem.run_bind,hcp,Result.andThen_ok,Sem.run_pure])) ?_;exact hQ
theorem c7H {T33 T34 T35 T36 T37 T38 T39 T40 T41 T42 T43 T44 T45 T46 T47 T48 T49 T50 T51 T52 T53 T54 T55 T56 T57 T58 T59 T60 T61 T62:TypeId} {p33 p34 p35 p36 p37 p38 p39 p40 p41 p42 p43 p44 p45 p46 p47 p48 p49 p50 p51 p52 p53 p54 p55 p56 p57 p58 p59 p60 p61 p62:String} {f33 f34 f35 f36 f37 f38 f39 f40 f41 f42 f43 f44 f45 f46 f56 f57 f58 f59 f60 f61 f62:Array Edge} {r13 r14 r15 r16 r17:Nat} {ov:FuncId} {rest:Code} (hP:POK X.P X.tt) (hti:I0 X.P t i) (hd:i.d= .slice e esz bytes) (hte:I0 X.P e ie) (hiz:ie.n=esz) (hA:b7W X a w t tI e esz bytes g n cap ix m mc sa ls cur) (hroom:n+m≤cap) (hov0:c5w X.P t ov)
 (hQ:∀a' W v',b8d w W g esz n m e (cur.take (ix*esz)++ls++(cur.take (n*esz)).drop (ix*esz)) v'→a'.defers=a.defers→a'.tmps[6]?=some v'→Q .ret a' W):
 (Code.seq (.region r13 #[{ dst:=some 56,op:= .move (.tmp 0),type:=T33,pos:=p33,after:=f33,guard:=none},
 { dst:=some 57,op:= .move (.tmp 8),type:=T34,pos:=p34,after:=f34,guard:=none},
 { dst:=some 58,op:= .move (.tmp 7),type:=T35,pos:=p35,after:=f35,guard:=none},
 { dst:=some 59,op:= .binOp .add tI (.tmp 57) (.tmp 58) tI,type:=T36,pos:=p36,after:=f36,guard:=none},
 { dst:=some 60,op:= .slice t (.tmp 56) none (some (.tmp 59)) none,type:=T37,pos:=p37,after:=f37,guard:=none},
 { dst:=some 0,op:= .assign (.tmp 60),type:=T38,pos:=p38,after:=f38,guard:=none}] false) (.seq (.seq (.region r14 #[{ dst:=some 61,op:= .move (.tmp 2),type:=T39,pos:=p39,after:=f39,guard:=none},
 { dst:=some 62,op:= .move (.tmp 0),type:=T40,pos:=p40,after:=f40,guard:=none},
 { dst:=some 63,op:= .move (.tmp 1),type:=T41,pos:=p41,after:=f41,guard:=none},
 { dst:=some 64,op:= .move (.tmp 7),type:=T42,pos:=p42,after:=f42,guard:=none},
 { dst:=some 65,op:= .binOp .add tI (.tmp 63) (.tmp 64) tI,type:=T43,pos:=p43,after:=f43,guard:=none},
 { dst:=some 66,op:= .slice t (.tmp 62) (some (.tmp 65)) none none,type:=T44,pos:=p44,after:=f44,guard:=none},
 { dst:=some 67,op:= .call { callee:= .value (.func ov),args:= #[.tmp 61, .tmp 66],argTypes:= #[t,t]},type:=T45,pos:=p45,after:=f45,guard:=none},
 { dst:=some 68,op:= .unOp .not tB (.tmp 67),type:=T46,pos:=p46,after:=f46,guard:=none}] false) (.cond (.tmp 68) (.seq (.region r15 #[{ dst:=some 69,op:= .move (.tmp 0),type:=T47,pos:=p47,after:= #[],guard:=none},
 { dst:=some 70,op:= .move (.tmp 1),type:=T48,pos:=p48,after:= #[],guard:=none},
 { dst:=some 71,op:= .move (.tmp 7),type:=T49,pos:=p49,after:= #[],guard:=none},
 { dst:=some 72,op:= .binOp .add tI (.tmp 70) (.tmp 71) tI,type:=T50,pos:=p50,after:= #[{ on:=1,ground:= .data}, { on:=2,ground:= .data}],guard:=none},
 { dst:=some 73,op:= .slice t (.tmp 69) (some (.tmp 72)) none none,type:=T51,pos:=p51,after:= #[{ on:=0,ground:= .data}, { on:=3,ground:= .data}],guard:=none},
 { dst:=some 74,op:= .move (.tmp 0),type:=T52,pos:=p52,after:= #[],guard:=none},
 { dst:=some 75,op:= .move (.tmp 1),type:=T53,pos:=p53,after:= #[],guard:=none},
 { dst:=some 76,op:= .slice t (.tmp 74) (some (.tmp 75)) none none,type:=T54,pos:=p54,after:= #[{ on:=5,ground:= .data}, { on:=6,ground:= .data}],guard:=none},
 { dst:=some 77,op:= .call { callee:= .builtin .copy,args:= #[.tmp 73, .tmp 76],argTypes:= #[t,t]},type:=T55,pos:=p55,after:= #[{ on:=4,ground:= .data}, { on:=7,ground:= .data}],guard:=none}] true) (.seq (.region r16 #[{ dst:=some 78,op:= .move (.tmp 0),type:=T56,pos:=p56,after:=f56,guard:=none},
 { dst:=some 79,op:= .move (.tmp 1),type:=T57,pos:=p57,after:=f57,guard:=none},
 { dst:=some 80,op:= .slice t (.tmp 78) (some (.tmp 79)) none none,type:=T58,pos:=p58,after:=f58,guard:=none},
 { dst:=some 81,op:= .move (.tmp 2),type:=T59,pos:=p59,after:=f59,guard:=none},
 { dst:=some 82,op:= .call { callee:= .builtin .copy,args:= #[.tmp 80, .tmp 81],argTypes:= #[t,t]},type:=T60,pos:=p60,after:=f60,guard:=none}] false) (.seq (.region r17 #[{ dst:=some 83,op:= .move (.tmp 0),type:=T61,pos:=p61,after:=f61,guard:=none},
 { dst:=some 6,op:= .assign (.tmp 83),type:=T62,pos:=p62,after:=f62,guard:=none}] false) (.ret)))) .skip)) rest):Code).wp X.P Q a w:=by
 have hs:=hA.sz;have h1:=hA.hi;have h2:=hA.hm;have h3:=hA.hn;have h4:=hA.hcm;have h5:=hA.hnm;simp only [maxLen]at h4 h5;obtain⟨_,_,_,hzz,_⟩:=hti.slice hd;have hu:=(hti.slice hd).1
 have hze:∀w:World,(sizeOf e).run X.P w= .ok esz w:=by
  obtain⟨_,inf,q1,q2,_⟩:=hti.slice hd;intro w;simp [sizeOf,typeInfo,q1,q2]
 have m1:(ix+m)*esz=ix*esz+m*esz:=Nat.add_mul _ _ _;have m2:(n+m)*esz=n*esz+m*esz:=Nat.add_mul _ _ _;have m3:n*esz=ix*esz+(n-ix)*esz:=by rw [←Nat.add_mul];congr 1;omega
 have m4:n*esz≤cur.length:=by rw [hA.hcs];exact Nat.mul_le_mul_right _ h3
 have hll:=hA.hll;have hcs:=hA.hcs;obtain⟨cs,hcsE⟩:∃cs,cs=(cur.take (n*esz)).drop (ix*esz):=⟨_,rfl⟩;have hcsl:cs.length=(n-ix)*esz:=by rw [hcsE];simp;omega
 have hcs1:∀v,v∈cs→v.oneCell'=true:=fun v hv=>hA.hc1 v (by rw [hcsE]at hv;exact List.mem_of_mem_drop hv)
 have hcg:∀j v,cs[j]?=some v→cur[ix*esz+j]?=some v:=by
  intro j v hj;rw [hcsE,List.getElem?_drop,List.getElem?_take]at hj;split at hj
  · exact hj
  · cases hj
 have m5:(n+m)*esz≤cur.length:=by rw [hA.hcs];exact Nat.mul_le_mul_right _ hroom
 have hzp:=hA.hz;have hne:=hA.hne
 have hov:∀lb cb,(callFunc ov #[.slice (some sa) m mc, .slice (some ⟨g,(ix+m)*esz,none⟩) lb cb]).run X.P w= .ok (.value (.bool false)) w:=by
  intro lb cb;obtain⟨fn,tR,q1,q2,q3,q4,q5⟩:=hov0.ex;obtain⟨cA,tA,fA,q6,q7⟩:=hA.hsl
  rw [run_callFunc_extern q1 q2 q3 q4 q5,a9f w t tR e hu esz hze sa ⟨g,(ix+m)*esz,none⟩ m mc lb cb hne q6 hA.hg q7 (by
   have:0<n*esz:=Nat.mul_pos (by omega) hzp;simp only [List.size_toArray];omega)]
  rfl
 obtain⟨Wd,hWd⟩:∃Wd:World,Wd= { w with drawn:=w.drawn+1}:=⟨_,rfl⟩
 have hWg:Wd.heap=w.heap:=by rw [hWd]
 obtain⟨C1,hC1⟩:∃C1,C1=cur.take ((ix+m)*esz)++cs++cur.drop ((ix+m)*esz+cs.length):=⟨_,rfl⟩;obtain⟨W1,hW1⟩:∃W1,W1=Wd.setRow g C1.toArray:=⟨_,rfl⟩
 have hcp1:∀ty,(Builtin.copy_ #[t,t] ty #[.slice (some ⟨g,(ix+m)*esz,none⟩) (n+m-(ix+m)) (cap-(ix+m)), .slice (some ⟨g,ix*esz,none⟩) (n+m-ix) (cap-ix)]).run X.P Wd= .ok (goInt (Nat.min (n+m-ix) (n+m-(ix+m)))) W1:=by
  intro ty;rw [hW1,hC1];refine b0s Wd t t ty g _ _ _ _ _ _ cur e cs hu hze (by rw [hWg];exact hA.hg) ?_ (fun j v hj=> ?_) (by omega) hcs1
  · rw [hcsl];congr 1;simp only [Nat.min_def];split<;>omega
  · rw [H4];have:=hcg j v hj;simp [World.cell?,hWg,hA.hg,this]
 have hg0:W1.heap[g]?=some (.cells C1.toArray e (0,0)):=by rw [hW1];exact setRow_heap _ _ _ _ _ _ (by rw [hWg];exact hA.hg)
 have hC1l:C1.length=cur.length:=by rw [hC1];simp;omega
 obtain⟨C2,hC2⟩:∃C2,C2=C1.take (ix*esz)++ls++C1.drop (ix*esz+ls.length):=⟨_,rfl⟩;obtain⟨W2,hW2⟩:∃W2,W2=W1.setRow g C2.toArray:=⟨_,rfl⟩;have hsaW:W1.heap[sa.block]?=w.heap[sa.block]?:=by rw [hW1,setRow_other _ _ _ _ hne,hWg]
 have hcp2:∀ty,(Builtin.copy_ #[t,t] ty #[.slice (some ⟨g,ix*esz,none⟩) (n+m-ix) (cap-ix), .slice (some sa) m mc]).run X.P W1= .ok (goInt (Nat.min m (n+m-ix))) W2:=by
  intro ty;rw [hW2,hC2];refine b0s W1 t t ty g _ _ _ _ _ _ C1 e ls hu hze hg0 ?_ (fun j v hj=>hA.hsv W1 hsaW j v hj) (by omega) hA.hl1;rw [hll];congr 1;simp only [Nat.min_def];split<;>omega
 have hg2:W2.heap[g]?=some (.cells C2.toArray e (0,0)):=by rw [hW2];exact setRow_heap _ _ _ _ _ _ hg0
 have hC2l:C2.length=cur.length:=by rw [hC2];simp;omega
 have hfin:C2.take ((n+m)*esz)=cur.take (ix*esz)++ls++(cur.take (n*esz)).drop (ix*esz):=by
  rw [hC2,m2,hll];refine c0B cur ls C1 _ _ _ (by omega) hll (by omega) ?_;rw [hC1,m1,hcsE,←hcsE,hcsl];congr 2;omega
 refine wp_seq (wp_region_list ?_);show wpList _ _ _ _ (puts a []) _;refine A8 (v:= .slice (some ⟨g,0,none⟩) (n) (cap)) (w':=w) rfl rfl (S8 hs (by rfl) (x:=0) rfl (by exact hA.t0)) ?_;refine A8 (v:= .int .i64 ((n:Nat):Int)) (w':=w) rfl rfl (S8 hs (by rfl) (x:=8) rfl (by exact hA.t8)) ?_;refine A8 (v:= .int .i64 ((m:Nat):Int)) (w':=w) rfl rfl (S8 hs (by rfl) (x:=7) rfl (by exact hA.t7)) ?_;refine A8 (v:= .int .i64 ((n+m:Nat):Int)) (w':=w) rfl rfl (b3N (x:=57) (y:=58) hs (by rfl) rfl (by exact rfl) (by exact rfl) (by omega)) ?_;refine A8 (v:= .slice (some ⟨g,0,none⟩) (n+m) (cap)) (w':=w) rfl rfl (c8n (x:=56) (y:=59) hti hd hs (by rfl) rfl (by exact rfl) (by exact rfl) (by omega)) ?_;refine A8 (v:= .slice (some ⟨g,0,none⟩) (n+m) (cap)) (w':=w) rfl rfl (c5J hs (by rfl) (x:=60) rfl (by exact rfl)) ?_;show Code.wp _ _ _ _ _;refine wp_seq (wp_seq (wp_region_list ?_));refine A8 (v:= .slice (some sa) m mc) (w':=w) rfl rfl (S8 hs (by rfl) (x:=2) rfl (by exact hA.t2)) ?_;refine A8 (v:= .slice (some ⟨g,0,none⟩) (n+m) (cap)) (w':=w) rfl rfl (S8 hs (by rfl) (x:=0) rfl (by exact rfl)) ?_;refine A8 (v:= .int .i64 ((ix:Nat):Int)) (w':=w) rfl rfl (S8 hs (by rfl) (x:=1) rfl (by exact hA.t1)) ?_;refine A8 (v:= .int .i64 ((m:Nat):Int)) (w':=w) rfl rfl (S8 hs (by rfl) (x:=7) rfl (by exact hA.t7)) ?_;refine A8 (v:= .int .i64 ((ix+m:Nat):Int)) (w':=w) rfl rfl (b3N (x:=63) (y:=64) hs (by rfl) rfl (by exact rfl) (by exact rfl) (by omega)) ?_;refine A8 (v:= .slice (some ⟨g,(ix+m)*esz,none⟩) (n+m-(ix+m)) (cap-(ix+m))) (w':=w) rfl rfl (b9e (x:=62) (y:=65) hti hd hs (by rfl) rfl (by exact rfl) (by exact rfl) (by omega) (by omega)) ?_;refine A8 (v:= .bool false) (w':=w) rfl rfl (c9K rfl hs (by rfl) (by exact rfl) (by exact rfl) (hov _ _)) ?_;refine A8 (v:= .bool true) (w':=w) rfl rfl (c7G (x:=67) (c:=false) hs (by rfl) rfl (by exact rfl)) ?_;show Code.wp _ _ _ _ _;refine wp_cond_true (B5 hs (by rfl) (by exact rfl)) ?_;refine wp_seq (c6G (W1:=W1) hP hti hd (by rw [a2n];exact hs) (by rw [N7 _ _ (by rw [hs];rfl)];rfl) (by rw [N7 _ _ (by rw [hs];rfl)];rfl) (by rw [N7 _ _ (by rw [hs];rfl)];exact hA.t1) (by rw [N7 _ _ (by rw [hs];rfl)];exact hA.t7) (by omega) (by omega) (by omega) (by omega) (by omega) (by rw [←hWd];exact hcp1) ?_);show Code.wp _ _ _ _ _;rw [b1l];refine wp_seq (wp_region_list ?_);show wpList _ _ _ _ (puts a (_::_::_::_::_::_::_::_::_::_)) _;refine A8 (v:= .slice (some ⟨g,0,none⟩) (n+m) (cap)) (w':=W1) rfl rfl (S8 hs (by rfl) (x:=0) rfl (by exact rfl)) ?_;refine A8 (v:= .int .i64 ((ix:Nat):Int)) (w':=W1) rfl rfl (S8 hs (by rfl) (x:=1) rfl (by exact hA.t1)) ?_;refine A8 (v:= .slice (some ⟨g,ix*esz,none⟩) (n+m-ix) (cap-ix)) (w':=W1) rfl rfl (b9e (x:=78) (y:=79) hti hd hs (by rfl) rfl (by exact rfl) (by exact rfl) (by omega) (by omega)) ?_;refine A8 (v:= .slice (some sa) m mc) (w':=W1) rfl rfl (S8 hs (by rfl) (x:=2) rfl (by exact hA.t2)) ?_;refine A8 (v:=goInt (Nat.min m (n+m-ix))) (w':=W2) rfl rfl (b4n (b:= .copy) (xs:= [80,81]) (vals:= [.slice (some ⟨g,ix*esz,none⟩) (n+m-ix) (cap-ix), .slice (some sa) m mc]) (by exact rfl) hs (by rfl) (by simp only [List.map_cons,List.map_nil];congr 1) (fun cs=>by simp only [builtin,Sem.run_bind,hcp2,Result.andThen_ok,Sem.run_pure])) ?_;show Code.wp _ _ _ _ _;refine wp_seq (wp_region_list ?_);refine A8 (v:= .slice (some ⟨g,0,none⟩) (n+m) (cap)) (w':=W2) rfl rfl (S8 hs (by rfl) (x:=0) rfl (by exact rfl)) ?_;refine A8 (v:= .slice (some ⟨g,0,none⟩) (n+m) (cap)) (w':=W2) rfl rfl (c5J hs (by rfl) (x:=83) rfl (by exact rfl)) ?_;show Code.wp _ _ _ _ _;refine wp_ret (hQ _ _ _ ?_ (by rw [a3P]) (by rw [N7 _ _ (by rw [hs];rfl)];rfl));refine⟨⟨g,cap,C2.toArray,rfl,hg2,hroom,hA.hcm,by simp [hC2l,hcs],by simpa using hfin, .inl rfl⟩, ?_⟩
 refine⟨by rw [hW2,hW1,hWd];rfl,by rw [hW2,hW1,hWd];rfl,by rw [hW2,hW1,hWd];rfl,by rw [hW2,setRow_size,hW1,setRow_size,hWg];exact Nat.le_refl _,fun k hk hn=> ?_⟩;have hkg:k≠g:=fun q=>hn g (by simp) q.symm
 rw [hW2,setRow_other _ _ _ _ hkg,hW1,setRow_other _ _ _ _ hkg,hWg]
theorem c7B {T7 T8 T9 T10 T11 T12 T13 T14 T15 T16 T17 T18 T19 T20 T21 T22 T23 T24 T25 T26 T27 T28 T29 T30 T31 T32:TypeId} {p7 p8 p9 p10 p11 p12 p13 p14 p15 p16 p17 p18 p19 p20 p21 p22 p23 p24 p25 p26 p27 p28 p29 p30 p31 p32:String} {f7 f8 f9 f10 f11 f12 f13 f14 f15 f16 f17 f18 f19 f20 f21 f31 f32:Array Edge} {r9 r10 r11 r12:Nat} (hP:POK X.P X.tt) (hti:I0 X.P t i) (hd:i.d= .slice e esz bytes) (hte:I0 X.P e ie) (hiz:ie.n=esz) (hA:b7W X a w t tI e esz bytes g n cap ix m mc sa ls cur) (hroom:cap<n+m)
 (hQ:∀a' W v',b8d w W g esz n m e (cur.take (ix*esz)++ls++(cur.take (n*esz)).drop (ix*esz)) v'→a'.defers=a.defers→a'.tmps[6]?=some v'→Q .ret a' W):
 (Code.seq (.region r9 #[{ dst:=some 32,op:= .move (.tmp 0),type:=T7,pos:=p7,after:=f7,guard:=none},
 { dst:=some 33,op:= .move (.tmp 1),type:=T8,pos:=p8,after:=f8,guard:=none},
 { dst:=some 34,op:= .slice t (.tmp 32) none (some (.tmp 33)) none,type:=T9,pos:=p9,after:=f9,guard:=none},
 { dst:=some 35,op:= .move (.tmp 8),type:=T10,pos:=p10,after:=f10,guard:=none},
 { dst:=some 36,op:= .move (.tmp 7),type:=T11,pos:=p11,after:=f11,guard:=none},
 { dst:=some 37,op:= .binOp .add tI (.tmp 35) (.tmp 36) tI,type:=T12,pos:=p12,after:=f12,guard:=none},
 { dst:=some 38,op:= .move (.tmp 1),type:=T13,pos:=p13,after:=f13,guard:=none},
 { dst:=some 39,op:= .binOp .sub tI (.tmp 37) (.tmp 38) tI,type:=T14,pos:=p14,after:=f14,guard:=none},
 { dst:=some 40,op:= .call { callee:= .builtin .append,args:= #[.tmp 34, .tmp 39],argTypes:= #[t,tI]},type:=T15,pos:=p15,after:=f15,guard:=none},
 { dst:=some 9,op:= .assign (.tmp 40),type:=T16,pos:=p16,after:=f16,guard:=none}] false) (.seq (.region r10 #[{ dst:=some 41,op:= .move (.tmp 9),type:=T17,pos:=p17,after:=f17,guard:=none},
 { dst:=some 42,op:= .move (.tmp 1),type:=T18,pos:=p18,after:=f18,guard:=none},
 { dst:=some 43,op:= .slice t (.tmp 41) (some (.tmp 42)) none none,type:=T19,pos:=p19,after:=f19,guard:=none},
 { dst:=some 44,op:= .move (.tmp 2),type:=T20,pos:=p20,after:=f20,guard:=none},
 { dst:=some 45,op:= .call { callee:= .builtin .copy,args:= #[.tmp 43, .tmp 44],argTypes:= #[t,t]},type:=T21,pos:=p21,after:=f21,guard:=none}] false) (.seq (.region r11 #[{ dst:=some 46,op:= .move (.tmp 9),type:=T22,pos:=p22,after:= #[],guard:=none},
 { dst:=some 47,op:= .move (.tmp 1),type:=T23,pos:=p23,after:= #[],guard:=none},
 { dst:=some 48,op:= .move (.tmp 7),type:=T24,pos:=p24,after:= #[],guard:=none},
 { dst:=some 49,op:= .binOp .add tI (.tmp 47) (.tmp 48) tI,type:=T25,pos:=p25,after:= #[{ on:=1,ground:= .data}, { on:=2,ground:= .data}],guard:=none},
 { dst:=some 50,op:= .slice t (.tmp 46) (some (.tmp 49)) none none,type:=T26,pos:=p26,after:= #[{ on:=0,ground:= .data}, { on:=3,ground:= .data}],guard:=none},
 { dst:=some 51,op:= .move (.tmp 0),type:=T27,pos:=p27,after:= #[],guard:=none},
 { dst:=some 52,op:= .move (.tmp 1),type:=T28,pos:=p28,after:= #[],guard:=none},
 { dst:=some 53,op:= .slice t (.tmp 51) (some (.tmp 52)) none none,type:=T29,pos:=p29,after:= #[{ on:=5,ground:= .data}, { on:=6,ground:= .data}],guard:=none},
 { dst:=some 54,op:= .call { callee:= .builtin .copy,args:= #[.tmp 50, .tmp 53],argTypes:= #[t,t]},type:=T30,pos:=p30,after:= #[{ on:=4,ground:= .data}, { on:=7,ground:= .data}],guard:=none}] true) (.seq (.region r12 #[{ dst:=some 55,op:= .move (.tmp 9),type:=T31,pos:=p31,after:=f31,guard:=none},
 { dst:=some 6,op:= .assign (.tmp 55),type:=T32,pos:=p32,after:=f32,guard:=none}] false) (.ret)))):Code).wp X.P Q a w:=by
 have hs:=hA.sz;have h1:=hA.hi;have h2:=hA.hm;have h3:=hA.hn;have h4:=hA.hcm;have h5:=hA.hnm;simp only [maxLen]at h4 h5;obtain⟨_,_,_,hzz,_⟩:=hti.slice hd;have hu:=(hti.slice hd).1
 have hze:∀w:World,(sizeOf e).run X.P w= .ok esz w:=by
  obtain⟨_,inf,q1,q2,_⟩:=hti.slice hd;intro w;simp [sizeOf,typeInfo,q1,q2]
 have m1:(ix+m)*esz=ix*esz+m*esz:=Nat.add_mul _ _ _;have m2:(n+m)*esz=n*esz+m*esz:=Nat.add_mul _ _ _;have m3:n*esz=ix*esz+(n-ix)*esz:=by rw [←Nat.add_mul];congr 1;omega
 have m4:n*esz≤cur.length:=by rw [hA.hcs];exact Nat.mul_le_mul_right _ h3
 have hll:=hA.hll;have hcs:=hA.hcs;obtain⟨cs,hcsE⟩:∃cs,cs=(cur.take (n*esz)).drop (ix*esz):=⟨_,rfl⟩;have hcsl:cs.length=(n-ix)*esz:=by rw [hcsE];simp;omega
 have hcs1:∀v,v∈cs→v.oneCell'=true:=fun v hv=>hA.hc1 v (by rw [hcsE]at hv;exact List.mem_of_mem_drop hv)
 have hcg:∀j v,cs[j]?=some v→cur[ix*esz+j]?=some v:=by
  intro j v hj;rw [hcsE,List.getElem?_drop,List.getElem?_take]at hj;split at hj
  · exact hj
  · cases hj
 have hgs:g<w.heap.size:=(Array.getElem?_eq_some_iff.1 hA.hg).1;obtain⟨cA,tA,fA,hsa0,_⟩:=hA.hsl;have hss:sa.block<w.heap.size:=(Array.getElem?_eq_some_iff.1 hsa0).1;have e1:ix+(n+m-ix)=n+m:=by omega
 obtain⟨C0,c',happ0,hC0l,hcc,hcx,hC0t⟩:=c0P (k:=n+m-ix) hti hd hte hiz hA.hz hA.hint hA.hg (by simpa using hcs) (show ix≤cap by omega) (by omega) (by omega) (by rw [e1];exact hA.hb) (by rw [e1];exact hA.hnm)
 rw [e1]at happ0 hcc;obtain⟨B,hB⟩:∃B,B=w.heap.size:=⟨_,rfl⟩;obtain⟨C1,hC1⟩:∃C1,C1=C0.toList:=⟨_,rfl⟩;have hC10:C0=C1.toArray:=by rw [hC1]
 obtain⟨W1,hW1⟩:∃W1,W1=w.drew.alloc (.cells C1.toArray e):=⟨_,rfl⟩
 have happ:∀ty,(Builtin.append_ #[t,tI] ty #[.slice (some ⟨g,0,none⟩) ix cap, .int .i64 ((n+m-ix:Nat):Int)]).run X.P w= .ok (.slice (some ⟨B,0,none⟩) (n+m) (c')) W1:=by
  intro ty;rw [happ0,hW1,hC10,hB]
 have hC1l:C1.length=c'*esz:=by rw [hC1];simpa using hC0l
 have m6:(n+m)*esz≤c'*esz:=Nat.mul_le_mul_right _ hcc;rw [List.toList_toArray,←hC1]at hC0t;have hg1:W1.heap[B]?=some (.cells C1.toArray e (0,0)):=by rw [hW1,hB];exact heap_alloc_new w.drew _
 have hold:∀k,k<w.heap.size→W1.heap[k]?=w.heap[k]?:=by
  intro k hk;rw [hW1];exact heap_alloc_old w.drew _ hk
 obtain⟨C2,hC2⟩:∃C2,C2=C1.take (ix*esz)++ls++C1.drop (ix*esz+ls.length):=⟨_,rfl⟩;have hC2l:C2.length=C1.length:=by rw [hC2];simp;omega
 obtain⟨W2,hW2⟩:∃W2,W2=W1.setRow B C2.toArray:=⟨_,rfl⟩
 have hcp1:∀ty,(Builtin.copy_ #[t,t] ty #[.slice (some ⟨B,ix*esz,none⟩) (n+m-ix) (c'-ix), .slice (some sa) m mc]).run X.P W1= .ok (goInt (Nat.min m (n+m-ix))) W2:=by
  intro ty;rw [hW2,hC2];refine b0s W1 t t ty B _ _ _ _ _ _ C1 e ls hu hze hg1 ?_ (fun j v hj=>hA.hsv W1 (hold _ hss) j v hj) (by omega) hA.hl1;rw [hll];congr 1;simp only [Nat.min_def];split<;>omega
 have hg2:W2.heap[B]?=some (.cells C2.toArray e (0,0)):=by rw [hW2];exact setRow_heap _ _ _ _ _ _ hg1
 have hold2:∀k,k<w.heap.size→W2.heap[k]?=w.heap[k]?:=by
  intro k hk;rw [hW2,setRow_other _ _ _ _ (by omega)];exact hold k hk
 obtain⟨Wd,hWd⟩:∃Wd:World,Wd= { W2 with drawn:=W2.drawn+1}:=⟨_,rfl⟩
 have hWg:Wd.heap=W2.heap:=by rw [hWd]
 obtain⟨C3,hC3⟩:∃C3,C3=C2.take ((ix+m)*esz)++cs++C2.drop ((ix+m)*esz+cs.length):=⟨_,rfl⟩;have hC3l:C3.length=C1.length:=by rw [hC3];simp;omega
 obtain⟨W3,hW3⟩:∃W3,W3=Wd.setRow B C3.toArray:=⟨_,rfl⟩
 have hcp2:∀ty,(Builtin.copy_ #[t,t] ty #[.slice (some ⟨B,(ix+m)*esz,none⟩) (n+m-(ix+m)) (c'-(ix+m)), .slice (some ⟨g,ix*esz,none⟩) (n-ix) (cap-ix)]).run X.P Wd= .ok (goInt (Nat.min (n-ix) (n+m-(ix+m)))) W3:=by
  intro ty;rw [hW3,hC3];refine b0s Wd t t ty B _ _ _ _ _ _ C2 e cs hu hze (by rw [hWg];exact hg2) ?_ (fun j v hj=> ?_) (by omega) hcs1
  · rw [hcsl];congr 1;simp only [Nat.min_def];split<;>omega
  · rw [H4];have:=hcg j v hj;simp [World.cell?,hWg,hold2 g hgs,hA.hg,this]
 have hg3:W3.heap[B]?=some (.cells C3.toArray e (0,0)):=by rw [hW3];exact setRow_heap _ _ _ _ _ _ (by rw [hWg];exact hg2)
 have hfin:C3.take ((n+m)*esz)=cur.take (ix*esz)++ls++(cur.take (n*esz)).drop (ix*esz):=by
  have:=c3D cur ls C1 C2 (ix*esz) (m*esz) (n*esz) (by omega) hll (by omega) hC0t (by omega) (by rw [hC2,hll]);rw [hC3,m2,m1,←this,hcsE,←hcsE,hcsl];congr 3;omega
 refine wp_seq (wp_region_list ?_);show wpList _ _ _ _ (puts a []) _;refine A8 (v:= .slice (some ⟨g,0,none⟩) (n) (cap)) (w':=w) rfl rfl (S8 hs (by rfl) (x:=0) rfl (by exact hA.t0)) ?_;refine A8 (v:= .int .i64 ((ix:Nat):Int)) (w':=w) rfl rfl (S8 hs (by rfl) (x:=1) rfl (by exact hA.t1)) ?_;refine A8 (v:= .slice (some ⟨g,0,none⟩) (ix) (cap)) (w':=w) rfl rfl (c8n (x:=32) (y:=33) hti hd hs (by rfl) rfl (by exact rfl) (by exact rfl) (by omega)) ?_;refine A8 (v:= .int .i64 ((n:Nat):Int)) (w':=w) rfl rfl (S8 hs (by rfl) (x:=8) rfl (by exact hA.t8)) ?_;refine A8 (v:= .int .i64 ((m:Nat):Int)) (w':=w) rfl rfl (S8 hs (by rfl) (x:=7) rfl (by exact hA.t7)) ?_;refine A8 (v:= .int .i64 ((n+m:Nat):Int)) (w':=w) rfl rfl (b3N (x:=35) (y:=36) hs (by rfl) rfl (by exact rfl) (by exact rfl) (by omega)) ?_;refine A8 (v:= .int .i64 ((ix:Nat):Int)) (w':=w) rfl rfl (S8 hs (by rfl) (x:=1) rfl (by exact hA.t1)) ?_;refine A8 (v:= .int .i64 ((n+m-ix:Nat):Int)) (w':=w) rfl rfl (c7D (x:=37) (y:=38) hs (by rfl) rfl (by exact rfl) (by exact rfl) (by omega) (by omega)) ?_;refine A8 (v:= .slice (some ⟨B,0,none⟩) (n+m) (c')) (w':=W1) rfl rfl (b4n (b:= .append) (xs:= [34,39]) (vals:= [.slice (some ⟨g,0,none⟩) (ix) (cap), .int .i64 ((n+m-ix:Nat):Int)]) (by exact rfl) hs (by rfl) (by simp only [List.map_cons,List.map_nil];congr 1) (fun cs=>by simp only [builtin,Sem.run_bind,happ,Result.andThen_ok,Sem.run_pure])) ?_;refine A8 (v:= .slice (some ⟨B,0,none⟩) (n+m) (c')) (w':=W1) rfl rfl (c5J hs (by rfl) (x:=40) rfl (by exact rfl)) ?_;show Code.wp _ _ _ _ _;refine wp_seq (wp_region_list ?_);refine A8 (v:= .slice (some ⟨B,0,none⟩) (n+m) (c')) (w':=W1) rfl rfl (S8 hs (by rfl) (x:=9) rfl (by exact rfl)) ?_;refine A8 (v:= .int .i64 ((ix:Nat):Int)) (w':=W1) rfl rfl (S8 hs (by rfl) (x:=1) rfl (by exact hA.t1)) ?_;refine A8 (v:= .slice (some ⟨B,ix*esz,none⟩) (n+m-ix) (c'-ix)) (w':=W1) rfl rfl (b9e (x:=41) (y:=42) hti hd hs (by rfl) rfl (by exact rfl) (by exact rfl) (by omega) (by omega)) ?_;refine A8 (v:= .slice (some sa) m mc) (w':=W1) rfl rfl (S8 hs (by rfl) (x:=2) rfl (by exact hA.t2)) ?_;refine A8 (v:=goInt (Nat.min m (n+m-ix))) (w':=W2) rfl rfl (b4n (b:= .copy) (xs:= [43,44]) (vals:= [.slice (some ⟨B,ix*esz,none⟩) (n+m-ix) (c'-ix), .slice (some sa) m mc]) (by exact rfl) hs (by rfl) (by simp only [List.map_cons,List.map_nil];congr 1) (fun cs=>by simp only [builtin,Sem.run_bind,hcp1,Result.andThen_ok,Sem.run_pure])) ?_;show Code.wp _ _ _ _ _;refine wp_seq (c7a (W1:=W3) hP hti hd (by rw [a2n];exact hs) (by rw [N7 _ _ (by rw [hs];rfl)];rfl) (by rw [N7 _ _ (by rw [hs];rfl)];exact hA.t0) (by rw [N7 _ _ (by rw [hs];rfl)];exact hA.t1) (by rw [N7 _ _ (by rw [hs];rfl)];exact hA.t7) (by omega) (by omega) (by omega) (by omega) (by omega) (by rw [←hWd];exact hcp2) ?_);show Code.wp _ _ _ _ _;rw [b1l];refine wp_seq (wp_region_list ?_);show wpList _ _ _ _ (puts a (_::_::_::_::_::_::_::_::_::_)) _;refine A8 (v:= .slice (some ⟨B,0,none⟩) (n+m) (c')) (w':=W3) rfl rfl (S8 hs (by rfl) (x:=9) rfl (by exact rfl)) ?_;refine A8 (v:= .slice (some ⟨B,0,none⟩) (n+m) (c')) (w':=W3) rfl rfl (c5J hs (by rfl) (x:=55) rfl (by exact rfl)) ?_;show Code.wp _ _ _ _ _;refine wp_ret (hQ _ _ _ ?_ (by rw [a3P]) (by rw [N7 _ _ (by rw [hs];rfl)];rfl));refine⟨⟨B,c',C3.toArray,rfl,hg3,hcc,hcx,by simp [hC3l,hC1l],by simpa using hfin, .inr (by omega)⟩, ?_⟩
 refine⟨by rw [hW3,hWd,hW2,hW1];rfl,by rw [hW3,hWd,hW2,hW1];rfl,by rw [hW3,hWd,hW2,hW1];rfl,by rw [hW3,setRow_size,hWg,hW2,setRow_size,hW1];simp,fun k hk hn=> ?_⟩;rw [hW3,setRow_other _ _ _ _ (by omega),hWg];exact hold2 k hk
theorem b7W.puts {L:List (Nat×Value)} (h:b7W X a w t tI e esz bytes g n cap ix m mc sa ls cur) (hb:inB 95 L=true) (k0:lk L 0=none) (k1:lk L 1=none) (k2:lk L 2=none) (k7:lk L 7=none) (k8:lk L 8=none):b7W X (puts a L) w t tI e esz bytes g n cap ix m mc sa ls cur:=by
 have q:∀d,lk L d=none→(Sx.puts a L).tmps[d]?=a.tmps[d]?:=fun d hd=>by rw [N7 L d (by rw [h.sz];exact hb)];simp [lkA,hd]
 exact⟨by rw [a2n];exact h.sz,by rw [q _ k0];exact h.t0,by rw [q _ k1];exact h.t1,by rw [q _ k2];exact h.t2,by rw [q _ k7];exact h.t7,by rw [q _ k8];exact h.t8,h.hi,h.hm,h.hn,h.hcm,h.hnm,h.hb,h.hg,h.hcs,h.hll,h.hl1,h.hc1,h.hne,h.hsl,h.hsv,h.hint,h.hz⟩
inductive a6d (t tI tB:TypeId) (ov:FuncId):Code→Prop
 |mk {T1 T2 T3 T4 T5 T6 T7 T8 T9 T10 T11 T12 T13 T14 T15 T16 T17 T18 T19 T20 T21 T22 T23 T24 T25 T26 T27 T28 T29 T30 T31 T32 T33 T34 T35 T36 T37 T38 T39 T40 T41 T42 T43 T44 T45 T46 T47 T48 T49 T50 T51 T52 T53 T54 T55 T56 T57 T58 T59 T60 T61 T62:TypeId} {p1 p2 p3 p4 p5 p6 p7 p8 p9 p10 p11 p12 p13 p14 p15 p16 p17 p18 p19 p20 p21 p22 p23 p24 p25 p26 p27 p28 p29 p30 p31 p32 p33 p34 p35 p36 p37 p38 p39 p40 p41 p42 p43 p44 p45 p46 p47 p48 p49 p50 p51 p52 p53 p54 p55 p56 p57 p58 p59 p60 p61 p62:String} {f1 f2 f3 f4 f5 f6 f7 f8 f9 f10 f11 f12 f13 f14 f15 f16 f17 f18 f19 f20 f21 f31 f32 f33 f34 f35 f36 f37 f38 f39 f40 f41 f42 f43 f44 f45 f46 f56 f57 f58 f59 f60 f61 f62:Array Edge} {r8 r9 r10 r11 r12 r13 r14 r15 r16 r17:Nat} {rest:Code}:a6d t tI tB ov (Code.seq (.seq (.region r8 #[{ dst:=some 26,op:= .move (.tmp 8),type:=T1,pos:=p1,after:=f1,guard:=none},
  { dst:=some 27,op:= .move (.tmp 7),type:=T2,pos:=p2,after:=f2,guard:=none},
  { dst:=some 28,op:= .binOp .add tI (.tmp 26) (.tmp 27) tI,type:=T3,pos:=p3,after:=f3,guard:=none},
  { dst:=some 29,op:= .move (.tmp 0),type:=T4,pos:=p4,after:=f4,guard:=none},
  { dst:=some 30,op:= .call { callee:= .builtin .cap,args:= #[.tmp 29],argTypes:= #[t]},type:=T5,pos:=p5,after:=f5,guard:=none},
  { dst:=some 31,op:= .binOp .gtr tI (.tmp 28) (.tmp 30) tI,type:=T6,pos:=p6,after:=f6,guard:=none}] false) (.cond (.tmp 31) (.seq (.region r9 #[{ dst:=some 32,op:= .move (.tmp 0),type:=T7,pos:=p7,after:=f7,guard:=none},
  { dst:=some 33,op:= .move (.tmp 1),type:=T8,pos:=p8,after:=f8,guard:=none},
  { dst:=some 34,op:= .slice t (.tmp 32) none (some (.tmp 33)) none,type:=T9,pos:=p9,after:=f9,guard:=none},
  { dst:=some 35,op:= .move (.tmp 8),type:=T10,pos:=p10,after:=f10,guard:=none},
  { dst:=some 36,op:= .move (.tmp 7),type:=T11,pos:=p11,after:=f11,guard:=none},
  { dst:=some 37,op:= .binOp .add tI (.tmp 35) (.tmp 36) tI,type:=T12,pos:=p12,after:=f12,guard:=none},
  { dst:=some 38,op:= .move (.tmp 1),type:=T13,pos:=p13,after:=f13,guard:=none},
  { dst:=some 39,op:= .binOp .sub tI (.tmp 37) (.tmp 38) tI,type:=T14,pos:=p14,after:=f14,guard:=none},
  { dst:=some 40,op:= .call { callee:= .builtin .append,args:= #[.tmp 34, .tmp 39],argTypes:= #[t,tI]},type:=T15,pos:=p15,after:=f15,guard:=none},
  { dst:=some 9,op:= .assign (.tmp 40),type:=T16,pos:=p16,after:=f16,guard:=none}] false) (.seq (.region r10 #[{ dst:=some 41,op:= .move (.tmp 9),type:=T17,pos:=p17,after:=f17,guard:=none},
  { dst:=some 42,op:= .move (.tmp 1),type:=T18,pos:=p18,after:=f18,guard:=none},
  { dst:=some 43,op:= .slice t (.tmp 41) (some (.tmp 42)) none none,type:=T19,pos:=p19,after:=f19,guard:=none},
  { dst:=some 44,op:= .move (.tmp 2),type:=T20,pos:=p20,after:=f20,guard:=none},
  { dst:=some 45,op:= .call { callee:= .builtin .copy,args:= #[.tmp 43, .tmp 44],argTypes:= #[t,t]},type:=T21,pos:=p21,after:=f21,guard:=none}] false) (.seq (.region r11 #[{ dst:=some 46,op:= .move (.tmp 9),type:=T22,pos:=p22,after:= #[],guard:=none},
  { dst:=some 47,op:= .move (.tmp 1),type:=T23,pos:=p23,after:= #[],guard:=none},
  { dst:=some 48,op:= .move (.tmp 7),type:=T24,pos:=p24,after:= #[],guard:=none},
  { dst:=some 49,op:= .binOp .add tI (.tmp 47) (.tmp 48) tI,type:=T25,pos:=p25,after:= #[{ on:=1,ground:= .data}, { on:=2,ground:= .data}],guard:=none},
  { dst:=some 50,op:= .slice t (.tmp 46) (some (.tmp 49)) none none,type:=T26,pos:=p26,after:= #[{ on:=0,ground:= .data}, { on:=3,ground:= .data}],guard:=none},
  { dst:=some 51,op:= .move (.tmp 0),type:=T27,pos:=p27,after:= #[],guard:=none},
  { dst:=some 52,op:= .move (.tmp 1),type:=T28,pos:=p28,after:= #[],guard:=none},
  { dst:=some 53,op:= .slice t (.tmp 51) (some (.tmp 52)) none none,type:=T29,pos:=p29,after:= #[{ on:=5,ground:= .data}, { on:=6,ground:= .data}],guard:=none},
  { dst:=some 54,op:= .call { callee:= .builtin .copy,args:= #[.tmp 50, .tmp 53],argTypes:= #[t,t]},type:=T30,pos:=p30,after:= #[{ on:=4,ground:= .data}, { on:=7,ground:= .data}],guard:=none}] true) (.seq (.region r12 #[{ dst:=some 55,op:= .move (.tmp 9),type:=T31,pos:=p31,after:=f31,guard:=none},
  { dst:=some 6,op:= .assign (.tmp 55),type:=T32,pos:=p32,after:=f32,guard:=none}] false) (.ret))))) .skip)) (.seq (.region r13 #[{ dst:=some 56,op:= .move (.tmp 0),type:=T33,pos:=p33,after:=f33,guard:=none},
  { dst:=some 57,op:= .move (.tmp 8),type:=T34,pos:=p34,after:=f34,guard:=none},
  { dst:=some 58,op:= .move (.tmp 7),type:=T35,pos:=p35,after:=f35,guard:=none},
  { dst:=some 59,op:= .binOp .add tI (.tmp 57) (.tmp 58) tI,type:=T36,pos:=p36,after:=f36,guard:=none},
  { dst:=some 60,op:= .slice t (.tmp 56) none (some (.tmp 59)) none,type:=T37,pos:=p37,after:=f37,guard:=none},
  { dst:=some 0,op:= .assign (.tmp 60),type:=T38,pos:=p38,after:=f38,guard:=none}] false) (.seq (.seq (.region r14 #[{ dst:=some 61,op:= .move (.tmp 2),type:=T39,pos:=p39,after:=f39,guard:=none},
  { dst:=some 62,op:= .move (.tmp 0),type:=T40,pos:=p40,after:=f40,guard:=none},
  { dst:=some 63,op:= .move (.tmp 1),type:=T41,pos:=p41,after:=f41,guard:=none},
  { dst:=some 64,op:= .move (.tmp 7),type:=T42,pos:=p42,after:=f42,guard:=none},
  { dst:=some 65,op:= .binOp .add tI (.tmp 63) (.tmp 64) tI,type:=T43,pos:=p43,after:=f43,guard:=none},
  { dst:=some 66,op:= .slice t (.tmp 62) (some (.tmp 65)) none none,type:=T44,pos:=p44,after:=f44,guard:=none},
  { dst:=some 67,op:= .call { callee:= .value (.func ov),args:= #[.tmp 61, .tmp 66],argTypes:= #[t,t]},type:=T45,pos:=p45,after:=f45,guard:=none},
  { dst:=some 68,op:= .unOp .not tB (.tmp 67),type:=T46,pos:=p46,after:=f46,guard:=none}] false) (.cond (.tmp 68) (.seq (.region r15 #[{ dst:=some 69,op:= .move (.tmp 0),type:=T47,pos:=p47,after:= #[],guard:=none},
  { dst:=some 70,op:= .move (.tmp 1),type:=T48,pos:=p48,after:= #[],guard:=none},
  { dst:=some 71,op:= .move (.tmp 7),type:=T49,pos:=p49,after:= #[],guard:=none},
  { dst:=some 72,op:= .binOp .add tI (.tmp 70) (.tmp 71) tI,type:=T50,pos:=p50,after:= #[{ on:=1,ground:= .data}, { on:=2,ground:= .data}],guard:=none},
  { dst:=some 73,op:= .slice t (.tmp 69) (some (.tmp 72)) none none,type:=T51,pos:=p51,after:= #[{ on:=0,ground:= .data}, { on:=3,ground:= .data}],guard:=none},
  { dst:=some 74,op:= .move (.tmp 0),type:=T52,pos:=p52,after:= #[],guard:=none},
  { dst:=some 75,op:= .move (.tmp 1),type:=T53,pos:=p53,after:= #[],guard:=none},
  { dst:=some 76,op:= .slice t (.tmp 74) (some (.tmp 75)) none none,type:=T54,pos:=p54,after:= #[{ on:=5,ground:= .data}, { on:=6,ground:= .data}],guard:=none},
  { dst:=some 77,op:= .call { callee:= .builtin .copy,args:= #[.tmp 73, .tmp 76],argTypes:= #[t,t]},type:=T55,pos:=p55,after:= #[{ on:=4,ground:= .data}, { on:=7,ground:= .data}],guard:=none}] true) (.seq (.region r16 #[{ dst:=some 78,op:= .move (.tmp 0),type:=T56,pos:=p56,after:=f56,guard:=none},
  { dst:=some 79,op:= .move (.tmp 1),type:=T57,pos:=p57,after:=f57,guard:=none},
  { dst:=some 80,op:= .slice t (.tmp 78) (some (.tmp 79)) none none,type:=T58,pos:=p58,after:=f58,guard:=none},
  { dst:=some 81,op:= .move (.tmp 2),type:=T59,pos:=p59,after:=f59,guard:=none},
  { dst:=some 82,op:= .call { callee:= .builtin .copy,args:= #[.tmp 80, .tmp 81],argTypes:= #[t,t]},type:=T60,pos:=p60,after:=f60,guard:=none}] false) (.seq (.region r17 #[{ dst:=some 83,op:= .move (.tmp 0),type:=T61,pos:=p61,after:=f61,guard:=none},
  { dst:=some 6,op:= .assign (.tmp 83),type:=T62,pos:=p62,after:=f62,guard:=none}] false) (.ret)))) .skip)) rest)))
theorem c4g {ov:FuncId} (hP:POK X.P X.tt) (hti:I0 X.P t i) (hd:i.d= .slice e esz bytes) (hte:I0 X.P e ie) (hiz:ie.n=esz) (hA:b7W X a w t tI e esz bytes g n cap ix m mc sa ls cur) (hov0:c5w X.P t ov) {tB:TypeId} {c:Code} (hc:a6d t tI tB ov c)
 (hQ:∀a' W v',b8d w W g esz n m e (cur.take (ix*esz)++ls++(cur.take (n*esz)).drop (ix*esz)) v'→a'.defers=a.defers→a'.tmps[6]?=some v'→Q .ret a' W):c.wp X.P Q a w:=by
 cases hc;have hs:=hA.sz;have h1:=hA.hi;have h2:=hA.hm;have h3:=hA.hn;have h4:=hA.hcm;have h5:=hA.hnm;simp only [maxLen]at h4 h5;have hu:=(hti.slice hd).1
 have hcap:∀ty,(Builtin.cap_ #[t] ty #[.slice (some ⟨g,0,none⟩) (n) (cap)]).run X.P w= .ok (.int .i64 ((cap:Nat):Int)) w:=by
  intro ty;simp [Builtin.cap_,u3 hu,goInt]
 refine wp_seq (wp_seq (wp_region_list ?_));show wpList _ _ _ _ (puts a []) _;refine A8 (v:= .int .i64 ((n:Nat):Int)) (w':=w) rfl rfl (S8 hs (by rfl) (x:=8) rfl (by exact hA.t8)) ?_;refine A8 (v:= .int .i64 ((m:Nat):Int)) (w':=w) rfl rfl (S8 hs (by rfl) (x:=7) rfl (by exact hA.t7)) ?_;refine A8 (v:= .int .i64 ((n+m:Nat):Int)) (w':=w) rfl rfl (b3N (x:=26) (y:=27) hs (by rfl) rfl (by exact rfl) (by exact rfl) (by omega)) ?_;refine A8 (v:= .slice (some ⟨g,0,none⟩) (n) (cap)) (w':=w) rfl rfl (S8 hs (by rfl) (x:=0) rfl (by exact hA.t0)) ?_;refine A8 (v:= .int .i64 ((cap:Nat):Int)) (w':=w) rfl rfl (b4n (b:= .cap) (xs:= [29]) (vals:= [.slice (some ⟨g,0,none⟩) (n) (cap)]) (by exact rfl) hs (by rfl) (by simp only [List.map_cons,List.map_nil];congr 1) (fun cs=>by simp only [builtin,Sem.run_bind,hcap,Result.andThen_ok,Sem.run_pure])) ?_;refine A8 (v:= .bool (decide (cap<n+m))) (w':=w) rfl rfl (c8o (x:=28) (y:=30) hs (by rfl) rfl (by exact rfl) (by exact rfl)) ?_;show Code.wp _ _ _ _ _;have hev:(puts a [(31,Value.bool (decide (cap<n+m))),(30, .int .i64 ((cap:Nat):Int)),(29, .slice (some ⟨g,0,none⟩) (n) (cap)),(28, .int .i64 ((n+m:Nat):Int)),(27, .int .i64 ((m:Nat):Int)),(26, .int .i64 ((n:Nat):Int))]).eval (.tmp 31)= .bool (decide (cap<n+m)):=B5 hs (by rfl) (by exact rfl);by_cases hroom:cap<n+m
 · rw [decide_eq_true hroom]at hev⊢;refine wp_cond_true hev ?_;exact c7B hP hti hd hte hiz (hA.puts rfl rfl rfl rfl rfl rfl) hroom fun a' W v' h1 h2 h3=>hQ a' W v' h1 (by rw [h2,a3P]) h3
 · rw [decide_eq_false hroom]at hev⊢;refine wp_cond_false hev (wp_skip ?_);show Code.wp _ _ _ _ _;exact c7H hP hti hd hte hiz (hA.puts rfl rfl rfl rfl rfl rfl) (by omega) hov0 fun a' W v' h1 h2 h3=>hQ a' W v' h1 (by rw [h2,a3P]) h3
end
end Go.Sx
namespace Go.Sx
open Go Go.RowKit
theorem c0A {w:World} {b o:Nat} {v:Value} (h:w.cell? ⟨b,o,none⟩=some v):∃cA tA fA,w.heap[b]?=some (.cells cA tA fA)∧cA.size≠0:=by
 cases hb:w.heap[b]? with
 |none=>
  have h1:w.cell? ⟨b,o,none⟩=none:=by simp [World.cell?,hb]
  rw [h1]at h;cases h
 |some ob=>
  cases ob with
  |cells c t f=>
   refine⟨c,t,f,rfl,fun h0=> ?_⟩;have h1:w.cell? ⟨b,o,none⟩=c[o]?:=by simp [World.cell?,hb]
   rw [h1,Array.getElem?_eq_none (by omega)]at h;cases h
  |_=>
   have h1:w.cell? ⟨b,o,none⟩=none:=by simp [World.cell?,hb]
   rw [h1]at h;cases h
structure c6K (z bytes:Nat) (l':List D) (n':Nat) (ty:TypeId) (sy:Sy):Prop where
 ex:∃l1 n i m lv,n9 sy.T 0=some (.row 0 z)∧n9 sy.T 1=some (.v (.int .i64 ((i:Nat):Int)))∧n9 sy.T 2=some (.lst z m lv)∧n9 sy.T 7=some (.v (.int .i64 ((m:Nat):Int)))∧n9 sy.T 8=some (.v (.int .i64 ((n:Nat):Int)))∧
  j7 sy.H 0=some (.row z n l1 ty)∧i<n∧0<m∧(n+m)*bytes≤140737488355328∧n+m≤maxLen∧l'=l1.take (i*z)++lv++l1.drop (i*z)∧n'=n+m
theorem c4w:∀(l:List Value),(vs l).length=l.length
 | []=>rfl
 |_::l=>by simp [vs,c4w l]
inductive a6h (t:TypeId) (c2:Code):Code→Prop
 |mk {T1 T2 T3 T4:TypeId} {p1 p2 p3 p4:String} {f1 f2 f3 f4:Array Edge} {r0 r1:Nat}:a6h t c2 (Code.seq (.region r0 #[{ dst:=some 6,op:= .assign (.const (.slice none 0 0)),type:=T1,pos:=p1,after:=f1,guard:=none}] false)
  (.seq (.region r1 #[{ dst:=some 10,op:= .move (.tmp 0),type:=T2,pos:=p2,after:=f2,guard:=none}, { dst:=some 11,op:= .move (.tmp 1),type:=T3,pos:=p3,after:=f3,guard:=none},
   { dst:=some 12,op:= .slice t (.tmp 10) (some (.tmp 11)) none none,type:=T4,pos:=p4,after:=f4,guard:=none}] false) c2))
theorem c2p {X:Cy} {Q:Exit→Act→World→Prop} {t e esz bytes B e':Nat} {i:TI} {a:Act} {w:World} {v:Value} {n ix:Nat} {xs:List Value} {c c2:Code} (hti:I0 X.P t i) (hd:i.d= .slice e esz bytes) (hc:a6h t c2 c)
 (hs:a.tmps.size=95) (h0:a.tmps[0]?=some v) (h1:a.tmps[1]?=some (.int .i64 (ix:Int))) (hown:w.ownsRow B e' esz v n xs) (hix:ix≤n)
 (hK:∀a':Act,a'.tmps.size=95→a'.defers=a.defers→(∀d,d<6→a'.tmps[d]?=a.tmps[d]?)→c2.wp X.P Q a' w):c.wp X.P Q a w:=by
 cases hc
 obtain⟨u,hu⟩:∃u,(Instr.sliceAt t v (some (.int .i64 (ix:Int))) none none).run X.P w= .ok u w:=by
  rcases hown.2 with⟨rfl,rfl⟩|⟨g,cap,cur,rfl,_,hg,hnc,_⟩
  · obtain rfl:ix=0:=by omega
    have hu:=(hti.slice hd).1
    have hsz:(sizeOf e).run X.P w= .ok esz w:=by
     obtain⟨_,inf,h1,h2,_⟩:=hti.slice hd;simp [sizeOf,typeInfo,h1,h2]
    exact⟨.slice none 0 0,by simp [Instr.sliceAt,Instr.slice,u3 hu,Instr.sliceBounds,run_sliceBound,hsz]⟩
  · obtain⟨o,h,_⟩:=b9c (X:=X) (g:=g) (cap:=cap) hti hd hix hnc w;exact⟨_,h⟩
 refine wp_seq (wp_region_list ?_);show wpList _ _ _ _ (puts a []) _;refine A8 (v:= .slice none 0 0) (w':=w) rfl rfl (by simp [execOp,Act.eval]) ?_;show Code.wp _ _ _ _ _;refine wp_seq (wp_region_list ?_);show wpList _ _ _ _ (puts a (_::_)) _;refine A8 (v:=v) (w':=w) rfl rfl (S8 hs (by rfl) (x:=0) rfl (by exact h0)) ?_;refine A8 (v:= .int .i64 (ix:Int)) (w':=w) rfl rfl (S8 hs (by rfl) (x:=1) rfl (by exact h1)) ?_
 refine A8 (v:=u) (w':=w) rfl rfl (by
  simp only [execOp,B5 (L:= [(11,Value.int .i64 (ix:Int)),(10,v),(6, .slice none 0 0)]) (e:=10) hs (by rfl) (by exact rfl),B5 (L:= [(11,Value.int .i64 (ix:Int)),(10,v),(6, .slice none 0 0)]) (e:=11) hs (by rfl) (by exact rfl),Option.map,Sem.run_bind,hu];rfl) ?_
 show Code.wp _ _ _ _ _;refine hK _ (by rw [a2n];exact hs) (by rw [a3P]) fun d hd=> ?_
 rw [N7 _ _ (by rw [hs];rfl)];have:d=0∨d=1∨d=2∨d=3∨d=4∨d=5:=by omega
 rcases this with rfl|rfl|rfl|rfl|rfl|rfl<;>rfl
theorem c3r {X:Cy} (hP:POK X.P X.tt) {f:FuncId} {fn:Func} {c:Code} {z n n':Nat} {l l':List D} {ty t tI tB:TypeId} {ov:FuncId} {args:List D} {i ie:TI} {bytes ix0:Nat} {c2:Code}
 (hf:X.P.funcs[f]?=some fn) (hb:fn.body=some c) (hn:X.nt=fn.ntmps) (hhd:a6h t c2 c) (htl:a6d t tI tB ov (a9R 4 c2)) (hal:args.length≤1) (hix0:ix0≤n) (hi:A4 X.tt t=some i) (hd:i.d= .slice ty z bytes) (hie:A4 X.tt ty=some ie) (hiz:ie.n=z) (h95:fn.ntmps=95) (hres:fn.results= #[.tmp 6])
 (hint:X.P.underlying tI=some (.int .i64)) (hov:c5w X.P t ov) (hz:0<z)
 (h:b6y X 4 c2 ⟨a0x 0 (.row 0 z:: .v (.int .i64 (ix0:Int))::args), [(0, .row z n l ty)],1⟩ (b1N X fn.results.toList z n' l' ty) (c6K z bytes l' n' ty)) (h0:X.dfs= []:=by rfl) (hg:fn.ntmps≤F8:=by exact Nat.le_of_ble_eq_true rfl):b2G X.P f z n l ty (.v (.int .i64 (ix0:Int))::args) z n' l':=by
 intro ok w v vl hrow hnok hrep hok hgi;have hg0:=hg;obtain⟨xs,hown,hrl,hfl,hlen⟩:=hrow;obtain⟨hsim,hrel⟩:=b2s (X:=X) hn (by simp only [List.length_cons];omega) hown hrl hfl hlen (fun b hb=>(hnok b hb).1) hrep hok h0 hg;have hA:=AG.lent hgi hnok;have hnok:=fun b hb=>(hnok b hb).1
 have q1:∃y,vl[0]?=some y∧y= .int .i64 (ix0:Int):=by
  cases vl with
  |nil=>simp [j3]at hrep
  |cons y r=>
   simp only [j3,Rep]at hrep;exact⟨y,rfl,hrep.1.1⟩
 obtain⟨y1,q1,rfl⟩:=q1;have hvl:vl.length≤2:=by rw [←hrep.length];simp;omega
 generalize hst0:(⟨a2B 0 (.row 0::vs vl), [(0, .row v n xs z ty)],1,w,w.heap.size, []⟩:St)=st0 at hsim hrel;refine calls_of_wp hf hb (c2p (hP.tt t i hi) hd hhd (by rw [hrel.size.1];show X.nt=95;omega) ?_ ?_ hown hix0 fun a1 s1 s2 s3=> ?_)
 · show((v::vl).toArray++_)[0]?=some v;rw [Array.getElem?_append_left (by simp)];simp
 · cases vl with
   |nil=>simp at q1
   |cons y r=>
    simp at q1;show((v::y::r).toArray++_)[1]?=_;rw [Array.getElem?_append_left (by simp)];simp [q1]
 have hrel1:Rel (cx X w (l8 v)) st0 a1 w:=by
  refine⟨⟨by rw [s1];show 95=X.nt;omega,hrel.size.2⟩,fun d s hs=> ?_,by rw [s2];exact hrel.dfs,hrel.cls,hrel.lo,hrel.iv⟩
  have hd6:d<6:=by
   subst hst0;obtain⟨_,h2⟩:=a1k (n:=0) hs;have h3:=(List.getElem?_eq_some_iff.1 h2).1;rw [List.length_cons,c4w]at h3;omega
  rcases hrel.T d s hs with h|h
  · exact .inl h
  · right;rw [G7,if_pos (by simp only [F8];omega)]at h⊢;rw [s3 d hd6];exact h
 refine(b1d (A:=fun b=>b<w.heap.size→ok b∨b∈l8 v) (w0:=w) (bor:=l8 v) hA hP 4 c2 _ _ _ w _ _ h hsim hrel1 (fun e st' sy' a' w' hp hk hs' hl'=> ?_) fun st' sy' a' w' hk hs' hl'=> ?_)
 · refine b4J hP hp hk hs' hl'.rel (fun v' hrow hbl=>⟨v',rfl,hbl, ?_, ?_⟩) h0
   · obtain⟨xs',g1,g2,g3,g4⟩:=hrow;refine⟨xs',g1,j3.mono (fun b hbk=>⟨⟨?_,hbk.2⟩,rfl⟩) _ _ g2,g3,g4⟩;by_cases hlt:b<w.heap.size
     · rcases hbk.1.1 hlt with h|h
       · exact .inl h
       · exact .inr (.inl h)
     · exact .inr (.inr ⟨by omega,hbk.1.2⟩)
   · exact hl'.rel.cls.fx0
 · obtain⟨l1,n2,ix,m,lv,k0,k1,k2,k7,k8,kH,hix,hm,hbb,hnm,rfl,rfl⟩:=hk.ex;generalize a9R 4 c2=tc at htl⊢;have hr:=hl'.rel;obtain⟨e',hf',hre⟩:=hs'.H _ _ kH;cases e' with
   |blk=>exact hre.elim
   |mp=>exact hre.elim
   |row v1 n1 xs1 z1 ty1=>
    obtain⟨rfl,rfl,rfl,hrp,hfl1,hlen1⟩:=hre;have hdv:den st'.H (.row 0)=v1:=by simp [den,l3,hf']
    have tv:∀d x,d<X.nt→n9 sy'.T d=some (.v x)→a'.tmps[d]?=some x:=by
     intro d x hd hx;rcases hs'.T _ _ hx with h|⟨s,h1,h2⟩
     · cases h
     · simp only [e9]at h2;obtain⟨rfl,_⟩:=h2;rcases hr.T _ _ h1 with h|h
       · cases h
       · rw [G7,if_pos (Nat.lt_of_lt_of_le hd (by rw [hn];exact hg0))]at h;rw [h];rfl
    have hnt:X.nt=95:=by omega
    have t0:a'.tmps[0]?=some v1:=by
     rcases hs'.T _ _ k0 with h|⟨s,h1,h2⟩
     · cases h
     · simp only [e9]at h2;obtain⟨rfl,_⟩:=h2;rcases hr.T _ _ h1 with h|h
       · cases h
       · rw [G7,if_pos (by decide)]at h;rw [h,hdv]
    have t1:=tv 1 _ (by omega) k1;have t7:=tv 7 _ (by omega) k7;have t8:=tv 8 _ (by omega) k8
    obtain⟨y,t2,hy⟩:∃y,a'.tmps[2]?=some y∧Rep (okS (fun b=>b<w.heap.size→ok b∨b∈l8 v) st') w' (.lst z m lv) y:=by
     rcases hs'.T _ _ k2 with h|⟨s,h1,h2⟩
     · cases h
     · simp only [e9]at h2;obtain⟨y,rfl,h2⟩:=h2;refine⟨y, ?_,Rep.mono (fun b hb=>⟨hb,(a2q hr.cls b hb).2⟩) _ _ h2⟩;rcases hr.T _ _ h1 with h|h
       · cases h
       · rw [G7,if_pos (by decide)]at h;rw [h];rfl
    have hrp':j3 (okS (fun b=>b<w.heap.size→ok b∨b∈l8 v) st') w' l1 xs1:=j3.mono (fun b hb=>⟨hb,(a2q hr.cls b hb).2⟩) _ _ hrp;simp only [Rep]at hy;obtain⟨sa0,mc,rfl,hmc,_,hlv,hflv,hyc⟩:=hy
    obtain⟨sb,so,ls,rfl,hokb,hrls,hcell⟩:∃b o xs,sa0=some ⟨b,o,none⟩∧okS (fun b=>b<w.heap.size→ok b∨b∈l8 v) st' b∧j3 (okS (fun b=>b<w.heap.size→ok b∨b∈l8 v) st') w' lv xs∧∀j,j<m*z→w'.cell? ⟨b,o+j,none⟩=xs[j]?:=by
     rcases hyc with h|h
     · omega
     · exact h
    have hown1:=hr.cls.row hf';obtain⟨hx1,hx2⟩:=hown1;rcases hx2 with⟨_,h0⟩|⟨g,cap,cur,rfl,_,hg,hnc,hcm,hcs,htk⟩
    · omega
    have hgb:g∈bs st'.H:=u0.2 ⟨0,_,l5 hf',by simp [bsE,l8]⟩;have hgl:=hr.cls.lb g hgb;have hlsl:ls.length=m*z:=by rw [←hrls.length,hlv]
    have hpos:0<m*z:=Nat.mul_pos hm hz;have one:∀ {l:List D} {r:List Value},j3 (okS (fun b=>b<w.heap.size→ok b∨b∈l8 v) st') w' l r→w6 l=true→∀x,x∈r→x.oneCell'=true:=fun hrr hff x hx=>by rw [←a6n];exact j3.one hrr hff x hx
    have hsb:∃cA tA fA,w'.heap[sb]?=some (.cells cA tA fA)∧cA.size≠0:=by
     have h1:=hcell 0 hpos;rw [List.getElem?_eq_getElem (by omega)]at h1;exact c0A h1
    have hIA:b7W X a' w' t tI ty z bytes g n2 cap ix m mc ⟨sb,so,none⟩ ls cur.toList:=by
     refine⟨by rw [hr.size.1];exact hnt,t0,t1,t2,t7,t8,hix,hm,hnc,hcm,hnm,hbb,by simpa using hg,by simpa using hcs,hlsl,one hrls hflv, ?_, ?_,hsb, ?_,hint,hz⟩
     · rw [htk];exact one hrp' hfl1
     · exact fun e=>hokb.2.2 g hgb e.symm
     · intro W hW j u hu;have hj:j<m*z:=by rw [←hlsl];exact(List.getElem?_eq_some_iff.1 hu).1
       rw [H4,←hu,←hcell j hj];simp only [World.cell?];rw [hW]
    refine c4g hP (hP.tt t i hi) hd (hP.tt ty ie hie) hiz hIA hov htl fun a'' W v' hO hdf h6=> ?_
    obtain⟨⟨g',c',C,rfl,hg',hc1,hc2,hCs,hCt,hgg⟩,hfx⟩:=hO;show bodyPost _ _ _ .ret _ _;have f0:=hr.cls.fx0
    have hgl':g'∈l8 v∨w.heap.size≤g':=by
     rcases hgg with rfl|h
     · exact hgl
     · exact .inr (Nat.le_trans f0.size h)
    refine⟨by rw [hdf];exact hr.dfs.trans h0, .slice (some ⟨g',0,none⟩) (n2+m) c', ?_,_,rfl, ?_, ?_, ?_⟩
    · rw [show results fn a''.tmps=_ from by unfold results;rw [hres]];simp [h6]
    · intro b hb;simp [l8]at hb;subst hb;exact hgl'
    · have hcx:cur.toList.take (ix*z)=xs1.take (ix*z):=by
       rw [←htk,List.take_take,Nat.min_eq_left (Nat.mul_le_mul_right _ (Nat.le_of_lt hix))]
      rw [hcx,htk]at hCt;have hl2:(n2+m)*z=n2*z+m*z:=Nat.add_mul _ _ _;have hl3:ix*z≤n2*z:=Nat.mul_le_mul_right _ (Nat.le_of_lt hix);refine⟨xs1.take (ix*z)++ls++xs1.drop (ix*z),⟨?_, .inr ⟨g',c',C,rfl,Nat.zero_le _,hg',hc1,hc2,hCs,hCt⟩⟩, ?_, ?_, ?_⟩
      · rw [List.length_append,List.length_append,List.length_take,List.length_drop,hx1,hlsl,hl2];omega
      · refine j3.mono (fun b hb=> ?_) _ _ (j3.app (j3.app (j3.take hrp' (ix*z)) hrls) (j3.drop hrp' (ix*z)));have hb2:=a2q hr.cls b hb;have hbw:b<w'.heap.size:=hb2.1.2.1;have hbg:b≠g:=fun e=>hb.2.2 g hgb e.symm
        have hbg':b≠g':=by
         rcases hgg with rfl|h
         · exact hbg
         · omega
        refine⟨⟨?_,by simpa [l8]using hbg'⟩,hfx.block b hbw fun c hc=>by simp at hc;subst hc;exact fun e=>hbg e.symm⟩
        by_cases hlt:b<w.heap.size
        · rcases hb.1.2 hlt with h|h
          · exact .inl h
          · exact .inr (.inl h)
        · exact .inr (.inr ⟨by omega,Nat.lt_of_lt_of_le hbw hfx.size⟩)
      · refine F6 fun d hd=> ?_
        rcases List.mem_append.1 hd with hd|hd
        · rcases List.mem_append.1 hd with hd|hd
          · exact u7 hfl1 (List.mem_of_mem_take hd)
          · exact u7 hflv hd
        · exact u7 hfl1 (List.mem_of_mem_drop hd)
      · rw [List.length_append,List.length_append,List.length_take,List.length_drop,hlen1,hlv,hl2];omega
    · refine⟨hfx.os.trans f0.os,hfx.tape.trans f0.tape,hfx.output.trans f0.output,Nat.le_trans f0.size hfx.size,fun k hk hn=> ?_⟩
      have hkg:∀c,c∈ [g]→c≠k:=by
       intro c hc e;simp at hc;subst hc;subst e;rcases hgl with h|h
       · exact hn _ h rfl
       · exact absurd hk (Nat.not_lt.2 h)
      rw [hfx.block k (Nat.lt_of_lt_of_le hk f0.size) hkg];exact f0.block k hk hn
theorem c1H {X:Cy} (hP:POK X.P X.tt) {f:FuncId} {fn:Func} {c:Code} {z n n':Nat} {l l':List D} {ty t tI tB:TypeId} {ov:FuncId} {args:List D} {i ie:TI} {bytes:Nat} {ix:Int} {c2:Code}
 (hf:X.P.funcs[f]?=some fn) (hb:fn.body=some c) (hn:X.nt=fn.ntmps) (hhd:a6h t c2 c) (htl:a6d t tI tB ov (a9R 4 c2)) (hal:args.length≤1) (hix0:0≤ix∧ix.toNat≤n) (hi:A4 X.tt t=some i) (hd:i.d= .slice ty z bytes) (hie:A4 X.tt ty=some ie) (hiz:ie.n=z) (h95:fn.ntmps=95) (hres:fn.results= #[.tmp 6])
 (hint:X.P.underlying tI=some (.int .i64)) (hov:c5w X.P t ov) (hz:0<z)
 (h:b5z X 4 c2 ⟨a0x 0 (.row 0 z::DI ix::args), [(0, .row z n l ty)],1⟩ (b1N X fn.results.toList z n' l' ty) (c6K z bytes l' n' ty)) (h0:X.dfs= []:=by rfl) (hg:fn.ntmps≤F8:=by exact Nat.le_of_ble_eq_true rfl):b2G X.P f z n l ty (DI ix::args) z n' l':=by
 obtain⟨k,rfl⟩:∃k:Nat,ix=(k:Int):=⟨ix.toNat,(Int.toNat_of_nonneg hix0.1).symm⟩;exact c3r hP hf hb hn hhd htl hal (by have:=hix0.2;simpa using this) hi hd hie hiz h95 hres hint hov hz (by rw [b4o]at h;exact h) h0 hg
theorem c7v {α:Type} {c:α→List D} {z bytes:Nat} {l lv:List α} {i:Int} {ty:TypeId} {T:List (Nat×D)} {H:Hy} {nk:Nat} (hc:∀x,(c x).length=z)
 (h:0≤i∧i.toNat<l.length∧0<lv.length∧(l.length+lv.length)*bytes≤140737488355328∧l.length+lv.length≤9223372036854775807)
 (h0:n9 T 0=some (.row 0 z):=by rfl) (h1:n9 T 1=some (DI i):=by rfl) (h2:n9 T 2=some (.lst z lv.length (lv.flatMap c)):=by rfl) (h7:n9 T 7=some (DI lv.length):=by rfl) (h8:n9 T 8=some (DI l.length):=by rfl)
 (hH:j7 H 0=some (.row z l.length (l.flatMap c) ty):=by rfl):c6K z bytes ((l.take i.toNat++lv++l.drop i.toNat).flatMap c) (l.take i.toNat++lv++l.drop i.toNat).length ty ⟨T,H,nk⟩:=by
 obtain⟨g1,g2,g3,g4,g5⟩:=h;refine⟨l.flatMap c,l.length,i.toNat,lv.length,lv.flatMap c,h0, ?_,h2,h7,h8,hH,g2,g3,g4,by simpa [maxLen]using g5, ?_, ?_⟩
 · rw [h1,Int.toNat_of_nonneg g1]
 · rw [List.flatMap_append,List.flatMap_append,a6e hc];congr 1;have h3:(l.take i.toNat).flatMap c++(l.drop i.toNat).flatMap c=l.flatMap c:=by rw [←List.flatMap_append,List.take_append_drop]
   have h4:((l.take i.toNat).flatMap c).length=i.toNat*z:=by
    rw [S7 hc,List.length_take,Nat.min_eq_left (Nat.le_of_lt g2)]
   rw [←h3,List.drop_left' h4]
 · simp;omega
end Go.Sx
namespace Go.Sx
open Go Go.RowKit
end Go.Sx
namespace Go.Sx
open Go Go.RowKit
abbrev a9X (x:Int):List D:= [.v (.int .u8 x)]
def E8 (s:ByteArray):List Int:=s.data.toList.map fun b=>(b.toNat:Int)
theorem b2e {s:ByteArray} {y:List Int} {c:Int→List D} (hc:∀x,c x= [.v (.int .u8 x)]) (h:some (E8 s)=some y):a8N s=y.flatMap c∧s.size=y.length:=by
 cases h;refine⟨?_,by simp [E8]⟩;unfold a8N E8
 induction s.data.toList with
 |nil=>rfl
 |cons b l ih=>rw [List.map_cons,ih,List.map_cons,List.flatMap_cons,hc];rfl
theorem c2N {c:Int→List D} (hc:∀x,c x= [.v (.int .u8 x)]):∀(y:List Int),y.flatMap c=y.map fun x=> .v (.int .u8 x)
 | []=>rfl
 |x::y=>by rw [List.flatMap_cons,hc,c2N hc y];rfl
section
variable {K V : Type}
def mpE (ag:Bool) (kc:K→List Value) (ev:V→Value) (l:List (K×V)):List (Value×Value):=l.map fun p=>(D2 ag (kc p.1),ev p.2)
variable [DecidableEq K]
def A7:List (K×V)→K→Option V
 | [],_=>none
 |(a,v)::r,k=>if k=a then some v else A7 r k
def a5d:List (K×V)→K→V→List (K×V)
 | [],k,v=> [(k,v)]
 |(a,x)::r,k,v=>if k=a then(k,v)::r else(a,x)::a5d r k v
variable {ag : Bool} {kc : K → List Value} {ev : V → Value}
theorem b8i (hk:∀a b,P7 (kc a) (A3 (D2 ag (kc b)))=decide (a=b)) (k:K):∀(l:List (K×V)),a8o (mpE ag kc ev l) (kc k)=(A7 l k).map ev
 | []=>rfl
 |(a,v)::r=>by
  have:=b8i hk k r;simp only [mpE,List.map_cons,a8o,hk,A7]at this⊢;by_cases h:k=a
  · simp [h]
  · simp [h,this]
theorem a2Q (hk:∀a b,P7 (kc a) (A3 (D2 ag (kc b)))=decide (a=b)) {k:K} {l:List (K×V)} {z:Value} {z':V} (hz:z=ev z'):(a8o (mpE ag kc ev l) (kc k)).getD z=ev ((A7 l k).getD z'):=by
 rw [b8i hk,hz];cases A7 l k<;>rfl
theorem a2u (hk:∀a b,P7 (kc a) (A3 (D2 ag (kc b)))=decide (a=b)) {k:K} {l:List (K×V)}:(a8o (mpE ag kc ev l) (kc k)).isSome=(A7 l k).isSome:=by
 rw [b8i hk];cases A7 l k<;>rfl
theorem b5j (hk:∀a b,P7 (kc a) (A3 (D2 ag (kc b)))=decide (a=b)) {k:K} {v:V}:∀ {l:List (K×V)},a5B (D2 ag (kc k)) (ev v) (mpE ag kc ev l) (kc k)=mpE ag kc ev (a5d l k v)
 | []=>rfl
 |(a,x)::r=>by
  have:=b5j hk (k:=k) (v:=v) (l:=r);simp only [mpE,List.map_cons,a5B,hk,a5d]at this⊢;by_cases h:k=a
  · simp [h]
  · simp [h,this]
end
end Go.Sx
namespace Go.Sx
open Go Go.RowKit
def P8 (n:Int):ByteArray:=⟨(Lib.itoa n).toArray⟩
structure a5y (P:Program) (nm:String) (b:Nat):Prop where
 at_:(P.globals[b]?).map (·.name)=some nm
 nm:P.globalNamed nm=some b
theorem a5y.get {P:Program} {nm:String} {b:Nat} (h:a5y P nm b):∃g,P.globals[b]?=some g∧g.name=nm:=by
 have:=h.at_;cases hg:P.globals[b]? with
 |none=>simp [hg]at this
 |some g=>simp [hg]at this;exact⟨g,rfl,this⟩
theorem GIW.tab {P:Program} {w:World} (h:GIW P w) {b:Nat} (hg:a5y P "internal/strconv.uint64pow10" b):Lib.TabIs P w "internal/strconv.uint64pow10" .u64 Lib.pow10Tab:=by
 obtain⟨g,h1,h2⟩:=hg.get;unfold Lib.TabIs;rw [h.pow10 h1 h2 hg.nm];rfl
theorem GIW.errs {P:Program} {w:World} (h:GIW P w) {b:Nat} (hg:a5y P "strconv.ErrSyntax" b∨a5y P "strconv.ErrRange" b):∃tp p,w.cell? ⟨b,0,none⟩=some (.iface tp p):=by
 rcases hg with hg|hg
 · obtain⟨g,h1,h2⟩:=hg.get;exact h.err h1 (.inl h2)
 · obtain⟨g,h1,h2⟩:=hg.get;exact h.err h1 (.inr h2)
theorem c5U {ok:Nat→Prop} {w:World} {x:Value} {vs:List Value} (h:j3 ok w [.v x] vs):vs= [x]:=by
 match vs,h with
 | [v],h=>simp only [j3,Rep]at h;rw [h.1.1]
 | [],h=>simp [j3]at h
 |_::_::_,h=>simp [j3]at h
theorem c6e {ok:Nat→Prop} {w:World} {x y:Value} {vs:List Value} (h:j3 ok w [.v x, .v y] vs):vs= [x,y]:=by
 match vs,h with
 | [a,b],h=>simp only [j3,Rep]at h;rw [h.1.1,h.2.1.1]
 | [],h=>simp [j3]at h
 | [_],h=>simp [j3]at h
 |_::_::_::_,h=>simp [j3]at h
section
variable {P : Program} {ρ : Go.Shelf.Ren}
theorem b6x (L:Go.Proofs.LaysM.n316 P ρ) (s:ByteArray) (h:s.size≤281474976710656):o9 P (ρ.f 316) [.v (.string s)] fun x=>x= .v (.string s):=by
 intro ok w vs hr _ _;rw [c5U hr];exact(Go.Proofs.Any.stringslite_Clone L s w h).mono fun e w' ⟨he,hb⟩=>⟨_,_,he,rfl,by simp [Rep,a1v],hb⟩
theorem b6K (L:Go.Proofs.Lays.n219 P ρ) (s:ByteArray) (c:UInt8):o9 P (ρ.f 219) [.v (.string s), .v (.string ⟨#[c]⟩)] fun x=>x= .v (.int .i64 (Lib.indexByte s.data.toList c)):=by
 intro ok w vs hr _ _;rw [c6e hr];refine(Go.Proofs.Any.stringslite_Index_one L s c w).mono fun e w' ⟨he,hw⟩=> ?_
 subst hw;exact⟨_,_,he,rfl,by simp [Rep,a1v],⟨rfl,rfl,rfl,Nat.le_refl _,fun _ _=>rfl⟩⟩
theorem b4Q (L:Go.Proofs.Lays.n219 P ρ) (s sep:ByteArray) (h:sep.size=1):o9 P (ρ.f 219) [.v (.string s), .v (.string sep)] fun x=>x= .v (.int .i64 (Lib.indexByte s.data.toList (sep.data.toList.headD 0))):=by
 obtain⟨⟨l⟩⟩:=sep
 match l,h with
 | [c],_=>exact b6K L s c
end
theorem o9.contract {P:Program} {f:FuncId} {ds:List D} {r:D} (h:o9 P f ds fun x=>x=r) {w:World} {vs:List Value} (hr:j3 (fun _=>False) w ds vs) (hg:GIW P w):
 Calls P f vs.toArray w fun e w'=>∃v,e= .returned v∧Rep (fun b=>w.heap.size≤b∧b<w'.heap.size) w' r v∧Below w.heap.size w w':=by
 refine(h (fun _=>False) w vs hr (fun _ hb=>hb.elim) hg).mono fun e w' ⟨v,r',he,hq,hrep,hb⟩=> ?_
 subst hq;exact⟨v,he,Rep.mono (fun b hb=>⟨by simpa using hb,rfl⟩) _ _ hrep,hb⟩
theorem b5E {P:Program} {w:World} {nm:String} {b:Nat} {cs:Array Value} (hg:P.globalNamed nm=some b) (h:w.var? P nm=some cs):∃ty fr,w.heap[b]?=some (.cells cs ty fr):=by
 unfold World.var? at h;rw [hg,Option.bind_some]at h;cases hb:w.heap[b]? with
 |none=>rw [hb]at h;cases h
 |some o=>
  rw [hb]at h;cases o with
  |cells c ty fr=>cases h;exact⟨ty,fr,rfl⟩
  |_=>cases h
theorem GIW.ofLaid {P:Program} {w:World} {last:String} {b:Nat} {cs:Array Value} {tp tp':TypeId} {p p':Value} (hn:P.globals.size=b+1) (hlast:P.globalNamed last=some b) (hv:w.var? P last=some cs)
 (h10:Lib.TabIs P w "internal/strconv.uint64pow10" .u64 Lib.pow10Tab) (hs:w.var? P "strconv.ErrSyntax" =some #[.iface tp p]) (hr:w.var? P "strconv.ErrRange" =some #[.iface tp' p'])
 (hu:∀(b:Nat) (g:Global),P.globals[b]?=some g→P.globalNamed g.name=some b):GIW P w:=by
 refine⟨?_,fun b g hg=>⟨fun e=> ?_,fun e=> ?_⟩⟩
 · obtain⟨ty,fr,h⟩:=b5E hlast hv;have:=(Array.getElem?_eq_some_iff.1 h).1;omega
 · have hb:=hu b g hg;rw [e]at hb;obtain⟨ty,fr,h⟩:=b5E hb h10;exact⟨ty,fr,by rw [h];rfl⟩
 · have hb:=hu b g hg;rcases e with e|e
   · rw [e]at hb;obtain⟨ty,fr,h⟩:=b5E hb hs;exact⟨_,_,ty,fr,h⟩
   · rw [e]at hb;obtain⟨ty,fr,h⟩:=b5E hb hr;exact⟨_,_,ty,fr,h⟩
end Go.Sx
namespace Go.Sx
open Go Go.RowKit
def InK (k:IntKind) (x:Int):Prop:=k.min≤x∧x≤k.max
structure D4 (P:Program) (t:TypeId) {X:Type} (c:X→List D) (G:X→Prop):Prop where
 op:∀ {H:Type} (enc:TypeId×Value→H) (w:World) (fuel:Nat) (cs:List Value) (d:DataW H) (ps:List MemPlace),DataW.trod enc P w 0 (fun _=>true) true fuel t cs=some (d,ps)→(∀n,n∈d.weights P t→n≤reachBytes)→
  ∃x,j3 (fun b=>b<w.heap.size) w (c x) cs∧G x
structure a0g (P:Program) (fs:List Field) (o n:Nat) {X:Type} (c:X→List D) (G:X→Prop):Prop where
 op:∀ {H:Type} (enc:TypeId×Value→H) (w:World) (fuel:Nat) (cs:List Value) (xs:List (DataW H×List MemPlace)),cs.length=n→(fs.mapM fun f=>DataW.trod enc P w 0 (fun _=>true) true fuel f.type ((cs.drop f.offset).take (P.cellsOf f.type)))=some xs→
  (∀m,m∈DataW.weightsEach P (fs.map (·.type)) (xs.map (·.1))→m≤reachBytes)→∃x,j3 (fun b=>b<w.heap.size) w (c x) (cs.drop o)∧G x
structure a2N (P:Program) (e:TypeId) (is:List Nat) (o n:Nat) {X:Type} (c:X→List D) (G:X→Prop):Prop where
 op:∀ {H:Type} (enc:TypeId×Value→H) (w:World) (fuel:Nat) (cs:List Value) (xs:List (DataW H×List MemPlace)),cs.length=n→(is.mapM fun i=>DataW.trod enc P w 0 (fun _=>true) true fuel e ((cs.drop (i*P.cellsOf e)).take (P.cellsOf e)))=some xs→
  (∀m,m∈DataW.weightsAll P e (xs.map (·.1))→m≤reachBytes)→∃x,j3 (fun b=>b<w.heap.size) w (c x) (cs.drop o)∧G x
section
variable {P : Program} {t e : TypeId}
theorem c1U {α β:Type} {f:α→Option β}:∀ {l:List α} {r:List β},l.mapM f=some r→r.length=l.length∧∀(i:Nat) (a:α),l[i]?=some a→∃b,r[i]?=some b∧f a=some b:=by
 intro l
 induction l with
 |nil=>intro r h;simp at h;subst h;simp
 |cons a l ih=>
  intro r h;rw [List.mapM_cons]at h;cases ha:f a with
  |none=>rw [ha]at h;cases h
  |some b=>
   rw [ha]at h;cases hl:l.mapM f with
   |none=>rw [hl]at h;cases h
   |some s=>
    rw [hl]at h;cases h;obtain⟨h1,h2⟩:=ih hl;refine⟨by simp [h1],fun i x hx=> ?_⟩;cases i with
    |zero=>simp at hx;subst hx;exact⟨b,by simp,ha⟩
    |succ i=>simp at hx;simpa using h2 i x hx
theorem a2M {α β:Type} {f:α→Option β} {a:α} {l:List α} {r:List β} (h:(a::l).mapM f=some r):∃b s,f a=some b∧l.mapM f=some s∧r=b::s:=by
 rw [List.mapM_cons]at h;cases ha:f a with
 |none=>rw [ha]at h;cases h
 |some b=>
  rw [ha]at h;cases hl:l.mapM f with
  |none=>rw [hl]at h;cases h
  |some s=>rw [hl]at h;cases h;exact⟨b,s,rfl,rfl,rfl⟩
theorem D4.int {k:IntKind} (hu:P.underlying t=some (.int k)):D4 P t (fun x:Int=> [.v (.int k x)]) (fun x=>InK k x):=by
 refine⟨fun enc w fuel cs d ps h _=> ?_⟩;obtain⟨n,rfl,_,hwf⟩:=DataW.trod_int hu h;exact⟨n,⟨⟨rfl,rfl⟩,trivial⟩,by simpa [Lit.wf,InK]using hwf⟩
theorem D4.bool (hu:P.underlying t=some .bool):D4 P t (fun x:Bool=> [.v (.bool x)]) (fun _=>True):=by
 refine⟨fun enc w fuel cs d ps h _=> ?_⟩;obtain⟨b,rfl,_⟩:=DataW.trod_bool hu h;exact⟨b,⟨⟨rfl,rfl⟩,trivial⟩,trivial⟩
theorem D4.str (hu:P.underlying t=some .string):D4 P t (fun x:ByteArray=> [.v (.string x)]) (fun x=>x.size≤reachBytes):=by
 refine⟨fun enc w fuel cs d ps h hw=> ?_⟩;obtain⟨s,rfl,hx,_⟩:=DataW.trod_string hu h;cases hx;refine⟨s,⟨⟨rfl,rfl⟩,trivial⟩, ?_⟩;have:=hw s.data.toList.length (by simp [DataW.weights]);simpa using this
theorem D4.iso {X Y:Type} {c:X→List D} {G:X→Prop} {c':Y→List D} {G':Y→Prop} (h:D4 P t c G) (f:X→Y) (hc:∀x,c x=c' (f x)) (hG:∀x,G x→G' (f x)):D4 P t c' G':=
 ⟨fun enc w fuel cs d ps ht hw=>by obtain⟨x,h1,h2⟩:=h.op enc w fuel cs d ps ht hw;exact⟨f x,hc x▸h1,hG x h2⟩⟩
theorem a0g.nil {o:Nat}:a0g P [] o o (fun _:Unit=> []) (fun _=>True):=
 ⟨fun enc w fuel cs xs hl _ _=>⟨(),by rw [List.drop_of_length_le (by omega)];trivial,trivial⟩⟩
theorem a0g.cons {f:Field} {fs:List Field} {o s n:Nat} {X Y:Type} {c:X→List D} {G:X→Prop} {c':Y→List D} {G':Y→Prop} (h:D4 P f.type c G) (hk:a0g P fs (o+s) n c' G') (ho:f.offset=o) (hs:P.cellsOf f.type=s):
 a0g P (f::fs) o n (fun x:X×Y=>c x.1++c' x.2) (fun x=>G x.1∧G' x.2):=by
 refine⟨fun enc w fuel cs xs hl hm hw=> ?_⟩;obtain⟨b,r,h1,h2,rfl⟩:=a2M hm;obtain⟨d,ps⟩:=b;simp only [List.map_cons,DataW.weightsEach]at hw;obtain⟨x,g1,g2⟩:=h.op enc w fuel _ d ps h1 fun n hn=>hw n (List.mem_append_left _ hn)
 obtain⟨y,g3,g4⟩:=hk.op enc w fuel cs r hl h2 fun n hn=>hw n (List.mem_append_right _ hn)
 rw [ho,hs]at g1;refine⟨(x,y), ?_,g2,g4⟩;have:cs.drop o=(cs.drop o).take s++cs.drop (o+s):=by rw [←List.drop_drop,List.take_append_drop]
 rw [this];exact j3.app g1 g3
theorem a0g.last {f:Field} {o s n:Nat} {X:Type} {c:X→List D} {G:X→Prop} (h:D4 P f.type c G) (ho:f.offset=o) (hs:P.cellsOf f.type=s) (hn:o+s=n):a0g P [f] o n c G:=by
 subst hn;refine⟨fun enc w fuel cs xs hl hm hw=> ?_⟩;obtain⟨x,h1,h2⟩:=(a0g.cons h (a0g.nil (P:=P) (o:=o+s)) ho hs).op enc w fuel cs xs hl hm hw;exact⟨x.1,by simpa using h1,h2.1⟩
theorem D4.struct {F:Array Field} {n:Nat} {X:Type} {c:X→List D} {G:X→Prop} (hu:P.underlying t=some (.struct F)) (h:a0g P F.toList 0 n c G) (hn:P.cellsOf t=n):D4 P t c G:=by
 refine⟨fun enc w fuel cs d ps ht hw=> ?_⟩;cases fuel with
 |zero=>simp [DataW.trod]at ht
 |succ fuel=>
  simp only [DataW.trod,hu]at ht;split at ht
  · rename_i hl;rw [Option.map_eq_some_iff]at ht;obtain⟨xs,hx,he⟩:=ht;cases he;simp only [DataW.weights,hu]at hw;obtain⟨x,h1,h2⟩:=h.op enc w fuel cs xs (by omega) hx hw;exact⟨x,by simpa using h1,h2⟩
  · cases ht
theorem a2N.last {i o s n:Nat} {X:Type} {c:X→List D} {G:X→Prop} (h:D4 P e c G) (ho:i*s=o) (hs:P.cellsOf e=s) (hn:o+s=n):a2N P e [i] o n c G:=by
 refine⟨fun enc w fuel cs xs hl hm hw=> ?_⟩;obtain⟨b,r,h1,h2,rfl⟩:=a2M hm;obtain⟨d,ps⟩:=b;simp only [List.map_cons,DataW.weightsAll]at hw;obtain⟨x,g1,g2⟩:=h.op enc w fuel _ d ps h1 fun n hn=>hw n (List.mem_append_left _ hn)
 rw [hs,ho]at g1;refine⟨x, ?_,g2⟩;rwa [List.take_of_length_le (by simp;omega)]at g1
theorem a2N.cons {i:Nat} {is:List Nat} {o s n:Nat} {X Y:Type} {c:X→List D} {G:X→Prop} {c':Y→List D} {G':Y→Prop} (h:D4 P e c G) (hk:a2N P e is (o+s) n c' G') (ho:i*s=o) (hs:P.cellsOf e=s):
 a2N P e (i::is) o n (fun x:X×Y=>c x.1++c' x.2) (fun x=>G x.1∧G' x.2):=by
 refine⟨fun enc w fuel cs xs hl hm hw=> ?_⟩;obtain⟨b,r,h1,h2,rfl⟩:=a2M hm;obtain⟨d,ps⟩:=b;simp only [List.map_cons,DataW.weightsAll]at hw;obtain⟨x,g1,g2⟩:=h.op enc w fuel _ d ps h1 fun n hn=>hw n (List.mem_append_left _ hn)
 obtain⟨y,g3,g4⟩:=hk.op enc w fuel cs r hl h2 fun n hn=>hw n (List.mem_append_right _ hn)
 rw [hs,ho]at g1;refine⟨(x,y), ?_,g2,g4⟩;have:cs.drop o=(cs.drop o).take s++cs.drop (o+s):=by rw [←List.drop_drop,List.take_append_drop]
 rw [this];exact j3.app g1 g3
theorem D4.arr {m n:Nat} {X:Type} {c:X→List D} {G:X→Prop} (hu:P.underlying t=some (.array m e)) (h:a2N P e (List.range m) 0 n c G) (hn:P.cellsOf t=n):D4 P t c G:=by
 refine⟨fun enc w fuel cs d ps ht hw=> ?_⟩;cases fuel with
 |zero=>simp [DataW.trod]at ht
 |succ fuel=>
  simp only [DataW.trod,hu]at ht;split at ht
  · rename_i hl;rw [Option.map_eq_some_iff]at ht;obtain⟨xs,hx,he⟩:=ht;cases he;simp only [DataW.weights,hu]at hw;obtain⟨x,h1,h2⟩:=h.op enc w fuel cs xs (by omega) hx hw;exact⟨x,by simpa using h1,h2⟩
  · cases ht
theorem a7l {w:World} {a:Addr} {n:Nat} {cs:List Value} (h:w.cells? 0 a n=some cs):cs.length=n∧∀i,i<n→w.cell? (a.add i)=cs[i]?:=by
 unfold World.cells? at h;rw [if_pos (Nat.zero_le _)]at h;obtain⟨h1,h2⟩:=c1U h;refine⟨by simpa using h1,fun i hi=> ?_⟩
 obtain⟨b,h3,h4⟩:=h2 i i (by simp [hi]);rw [h4,h3]
theorem a5C {H:Type} {e:TypeId}:∀ {l:List (DataW H)} {d:DataW H},d∈l→∀n,n∈d.weights P e→n∈DataW.weightsAll P e l
 |x::l,d,h,n,hn=>by
  simp only [DataW.weightsAll];rcases List.mem_cons.1 h with rfl|h
  · exact List.mem_append_left _ hn
  · exact List.mem_append_right _ (a5C h n hn)
 | [],_,h,_,_=>by cases h
theorem b4b {X:Type} {c:X→List D} {G:X→Prop} {ok:Nat→Prop} {w:World} {b o z:Nat} (hc:∀x,(c x).length=z):∀(n k:Nat),(∀i,i<n→∃x cs,j3 ok w (c x) cs∧G x∧∀j,j<z→w.cell? ⟨b,o+((k+i)*z+j),none⟩=cs[j]?)→
 ∃(l:List X) (vs:List Value),l.length=n∧(∀x,x∈l→G x)∧j3 ok w (l.flatMap c) vs∧∀j,j<n*z→w.cell? ⟨b,o+(k*z+j),none⟩=vs[j]?
 |0,k,h=>⟨[], [],rfl,by simp,trivial,fun j hj=>by simp at hj⟩
 |n+1,k,h=>by
  obtain⟨x,cs,h1,h2,h3⟩:=h 0 (by omega)
  obtain⟨l,vs,g1,g2,g3,g4⟩:=b4b hc n (k+1) fun i hi=>by
   obtain⟨x,cs,h1,h2,h3⟩:=h (i+1) (by omega);exact⟨x,cs,h1,h2,fun j hj=>by rw [←h3 j hj];congr 3;rw [show k+1+i=k+(i+1) from by omega]⟩
  have hl:=h1.length;rw [hc]at hl;refine⟨x::l,cs++vs,by simp [g1], ?_, ?_,fun j hj=> ?_⟩
  · intro y hy;rcases List.mem_cons.1 hy with rfl|hy
    · exact h2
    · exact g2 y hy
  · rw [List.flatMap_cons];exact j3.app h1 g3
  · by_cases hlt:j<z
    · rw [List.getElem?_append_left (by omega),←h3 j hlt];simp
    · rw [List.getElem?_append_right (by omega),←hl,←g4 (j-z) (by rw [Nat.add_mul]at hj;omega)];congr 3;rw [Nat.add_mul];omega
theorem c1A {X:Type} {c:X→List D} (h:∀x,w6 (c x)=true) (l:List X):w6 (l.flatMap c)=true:=by
 refine F6 fun d hd=> ?_
 obtain⟨x,_,hx⟩:=List.mem_flatMap.1 hd;exact u7 (h x) hx
theorem D4.slice {z bytes:Nat} {X:Type} {c:X→List D} {G:X→Prop} (hu:P.underlying t=some (.slice e)) (h:D4 P e c G) (hz:P.cellsOf e=z) (hb:P.bytesOf e=bytes) (hc:∀x,(c x).length=z) (hfl:∀x,w6 (c x)=true) (hpos:0<z):
 D4 P t (fun l:List X=> [.lst z l.length (l.flatMap c)]) (fun l=>l.length*bytes≤reachBytes∧l.length≤maxLen∧∀x,x∈l→G x):=by
 refine⟨fun enc w fuel cs d ps ht hw=> ?_⟩;rcases DataW.trod_slice hu ht with⟨rfl,_⟩|⟨a,n,cap,elems,rest,fuel',rfl,rfl,hx,_,hnc,hcm,e1,e2,hrest,_⟩
 · refine⟨[],⟨?_,trivial⟩,by simp,by simp,by simp⟩;simp only [Rep];exact⟨none,0,rfl,Nat.le_refl _,by simp,by simp,rfl, .inl rfl⟩
 · obtain⟨r1,r2⟩:=hrest rfl;obtain⟨rfl,rfl⟩:=Prod.mk.inj hx;simp only [DataW.weights,hu]at hw
   have hbytes:(n+(cap-n))*bytes≤reachBytes:=by
    have:=hw _ List.mem_cons_self;simpa [e1,r1,hb]using this
   have hnb:n*bytes≤reachBytes:=Nat.le_trans (Nat.mul_le_mul_right _ (by omega)) hbytes;by_cases hc0:cap=0
   · obtain rfl:n=0:=by omega
     refine⟨[],⟨?_,trivial⟩,by simp,by simp,by simp⟩;simp only [Rep];exact⟨some a,cap,rfl,hnc,by simp,by simp,rfl, .inl hc0⟩
   · --the first place lies in memory
     have hspot:a.spot=none∧a.block<w.heap.size:=by
      have hcell:∃v,w.cell? a=some v:=by
       by_cases hn0:0<n
       · have h4:=e2 0 hn0;rw [List.getElem?_eq_getElem (by omega),Option.bind_eq_some_iff]at h4;obtain⟨cs,h5,_⟩:=h4;obtain⟨h6,h7⟩:=a7l h5;have:=h7 0 (by omega);simp only [Nat.zero_mul,Addr.add,if_true]at this;exact⟨cs[0]'(by omega),by rw [this];simp [h6,hz,hpos]⟩
       · have h4:=r2 0 (by omega);rw [List.getElem?_eq_getElem (by omega),Option.bind_eq_some_iff]at h4;obtain⟨cs,h5,_⟩:=h4;obtain⟨h6,h7⟩:=a7l h5;have:=h7 0 (by omega);have hn0':n=0:=by omega
         simp only [hn0',Nat.add_zero,Nat.zero_mul,Addr.add,if_true]at this;exact⟨cs[0]'(by omega),by rw [this];simp [h6,hz,hpos]⟩
      obtain⟨v,hv⟩:=hcell;unfold World.cell? at hv;split at hv
      · rename_i c t fr hcl;split at hv
        · cases hv
        · rename_i hs;exact⟨by simpa using hs,(Array.getElem?_eq_some_iff.1 hcl).1⟩
      · cases hv
     obtain⟨b,o,sp⟩:=a;obtain⟨hsp,hblk⟩:=hspot;simp only at hsp hblk;subst hsp
     have haddr:∀k j:Nat,((⟨b,o,none⟩:Addr).add k).add j=⟨b,o+(k+j),none⟩:=by
      intro k j;unfold Addr.add;by_cases hk:k=0<;>by_cases hj:j=0<;>simp [hk,hj]<;>omega
     obtain⟨l,vs,g1,g2,g3,g4⟩:=b4b (ok:=fun b=>b<w.heap.size) (G:=G) (w:=w) (b:=b) (o:=o) hc n 0 fun i hi=>by
      have h4:=e2 i hi;have h3:elems[i]?=some (elems[i]'(by omega)):=List.getElem?_eq_getElem (by omega);rw [h3,Option.bind_eq_some_iff]at h4;obtain⟨cs,h5,h6⟩:=h4;obtain⟨h7,h8⟩:=a7l h5;obtain⟨x,x1,x2⟩:=h.op enc w fuel' cs _ _ h6 fun n hn=>hw n (List.mem_cons_of_mem _ (List.mem_append_left _ (a5C (List.mem_map.2 ⟨_,List.mem_of_getElem? h3,rfl⟩) n hn)))
      refine⟨x,cs,x1,x2,fun j hj=> ?_⟩;rw [←h8 j (by omega),haddr,hz,Nat.zero_add]
     refine⟨l,⟨?_,trivial⟩,by rw [g1];exact hnb,by omega,g2⟩;simp only [Rep];refine⟨some ⟨b,o,none⟩,cap,by rw [g1],by omega,by rw [g1];simp only [maxLen]at hcm;omega,by rw [S7 hc],c1A hfl l, .inr ⟨b,o,vs,rfl,hblk,g3,fun j hj=> ?_⟩⟩;have:=g4 j (by rw [←g1];exact hj);simpa using this
theorem D4.arg_agg {X:Type} {c:X→List D} {G:X→Prop} (h:D4 P t c G) (hfl:∀x,w6 (c x)=true) {H:Type} {enc:TypeId×Value→H} {w:World} {r:Reach} {b0:Nat} {v:Value} {d:DataW H} {ps:List MemPlace}
 (hu:(match P.underlying t with|some (.struct _)=>true|some (.array _ _)=>true|_=>false)=true) (hval:Value.okWide P w r b0 t v) (ht:DataW.Trod enc P w 0 (fun _=>true) true t v d ps) (hw:∀n,n∈d.weights P t→n≤reachBytes):
 ∃x,Rep (fun b=>b<w.heap.size) w (.agg (c x)) v∧G x:=by
 obtain⟨fuel,ht⟩:=ht;obtain⟨x,h1,h2⟩:=h.op enc w fuel _ d ps ht hw;refine⟨x, ?_,h2⟩;unfold Value.okWide at hval;split at hval
 · obtain⟨cs,rfl,_⟩:=hval;simp only [Rep];exact⟨cs,rfl,h1,hfl x⟩
 · obtain⟨cs,rfl,_⟩:=hval;simp only [Rep];exact⟨cs,rfl,h1,hfl x⟩
 · rename_i h3 h4;split at hu
   · rename_i hx;exact absurd hx (h3 _)
   · rename_i hx;exact absurd hx (h4 _ _)
   · cases hu
theorem D4.arg_one {X:Type} {f:X→D} {G:X→Prop} (h:D4 P t (fun x=> [f x]) G) {H:Type} {enc:TypeId×Value→H} {w:World} {r:Reach} {b0:Nat} {v:Value} {d:DataW H} {ps:List MemPlace}
 (hu:(match P.underlying t with|some .bool=>true|some .string=>true|some (.int _)=>true|some (.slice _)=>true|_=>false)=true) (hval:Value.okWide P w r b0 t v) (ht:DataW.Trod enc P w 0 (fun _=>true) true t v d ps) (hw:∀n,n∈d.weights P t→n≤reachBytes):
 ∃x,Rep (fun b=>b<w.heap.size) w (f x) v∧G x:=by
 obtain⟨fuel,ht⟩:=ht;obtain⟨x,h1,h2⟩:=h.op enc w fuel _ d ps ht hw;refine⟨x, ?_,h2⟩
 have hc:v.cells= #[v]:=by
  cases v with
  |agg cs=>
   exfalso;unfold Value.okWide Cell.okWide Cell.ok at hval;split at hu<;>rename_i hx<;>first|(rw [hx]at hval;simp at hval;done)|(cases hu;done)|skip
  |_=>rfl
 rw [hc]at h1;simpa [j3]using h1
theorem a6P {H:Type} {enc:TypeId×Value→H} (hl:laidOutB P=true) {W W':World} (hb:Below W.heap.size W W'):∀ {ts:List TypeId} {vs:List Value} {ds:List (DataW H)} {ps:List MemPlace},(∀t,t∈ts→P.readableRec t=true∧t<P.types.size)→
 DataW.TrodAll enc P W 0 (fun _=>true) true ts vs ds ps→(∀x,x∈ps→x.block<W.heap.size)→DataW.TrodAll enc P W' 0 (fun b=>decide (b<W.heap.size)) true ts vs ds ps
 | [], [], [],ps,_,h,_=>h
 |t::ts,v::vs,d::ds,ps,hr,h,hlt=>by
  obtain⟨p,q,h1,h2,rfl⟩:=h;exact⟨p,q,Below.trod hl (hr t List.mem_cons_self).1 (hr t List.mem_cons_self).2 h1 hb fun x hx=>hlt x (List.mem_append_left _ hx),a6P hl hb (fun t ht=>hr t (List.mem_cons_of_mem _ ht)) h2 fun x hx=>hlt x (List.mem_append_right _ hx),rfl⟩
 | [],_::_,_,_,_,h,_=>by simp [DataW.TrodAll]at h
 | [], [],_::_,_,_,h,_=>by simp [DataW.TrodAll]at h
 |_::_, [],_,_,_,h,_=>by simp [DataW.TrodAll]at h
 |_::_,_::_, [],_,_,h,_=>by simp [DataW.TrodAll]at h
theorem c3j {H:Type} {enc:TypeId×Value→H} {f:Func} {n:FuncId} {s:ChangeSpec} {W:World} {args:Array Value} {ds gs:List (DataW H)} {before:List MemPlace} {Ds:List D} {tb:TypeId}
 (hl:laidOutB P=true) (hr:∀t,t∈f.params.toList→P.readableRec t=true∧t<P.types.size) (hvars:s.vars= []) (hrt:f.resultTypes= #[tb]) (htb:P.underlying tb=some .bool)
 (hfn:(s.fn H (ds++gs)).results= [.lit (.bool true)]) (hfa:(s.fn H (ds++gs)).args=ds) (hfv:(s.fn H (ds++gs)).vars= [])
 (hW:DataW.Whole enc P f.params.toList s.vars false W args.toList ds gs before) (hrep:j3 (fun b=>b<W.heap.size) W Ds args.toList) (hd:o9 P n Ds fun x=>x= .v (.bool true)) (hgi:GIW P W):
 Calls P n args W fun e W'=>∃v,e= .returned v∧s.post enc P f false true false false W args v W':=by
 refine(hd (fun b=>b<W.heap.size) W args.toList hrep (fun _ h=>h) hgi).mono fun e W' ⟨v,r,he,hq,hrp,hb⟩=> ?_
 subst he;subst hq;simp only [Rep]at hrp;obtain⟨rfl,_⟩:=hrp;refine⟨_,rfl, ?_⟩;have hW':=hW;have hlt:=hW.lt;obtain⟨p,q,hA,hV,rfl,hfz,hnd⟩:=hW;rw [hvars]at hV
 obtain⟨rfl,rfl⟩:gs= []∧q= []:=by
  cases gs with
  |nil=>exact⟨rfl,hV⟩
  |cons=>simp [DataW.TrodVars]at hV
 refine⟨ds, [],_, [],p, [],hW', ?_, ?_, ?_, ?_,fun h=>by cases h⟩
 · rw [hfn,hrt];exact⟨[], [],shut_bool htb true,rfl,rfl⟩
 · rw [hfa];exact a6P hl hb hr hA fun x hx=>hlt x (by simpa using hx)
 · rw [hvars,hfv];rfl
 · refine⟨hb.os,hb.output,fun i hi=> ?_⟩;rw [hb.block i hi];split<;>simp_all
structure J7 (P:Program) (ts:List TypeId) {X:Type} (c:X→List D) (G:X→Prop):Prop where
 op:∀ {H:Type} (enc:TypeId×Value→H) (w:World) (r:Reach) (b0:Nat) (vs:List Value) (ds:List (DataW H)) (ps:List MemPlace),DataW.TrodAll enc P w 0 (fun _=>true) true ts vs ds ps→(∀(j:Nat) t v,ts[j]?=some t→vs[j]?=some v→Value.okWide P w r b0 t v)→
  (∀n,n∈DataW.weightsEach P ts ds→n≤reachBytes)→∃x,j3 (fun b=>b<w.heap.size) w (c x) vs∧G x
theorem J7.nil:J7 P [] (fun _:Unit=> []) (fun _=>True):=by
 refine⟨fun enc w r b0 vs ds ps h _ _=> ?_⟩;cases vs with
 |nil=>exact⟨(),trivial,trivial⟩
 |cons=>cases ds<;>simp [DataW.TrodAll]at h
theorem J7.agg {ts:List TypeId} {X Y:Type} {c:X→List D} {G:X→Prop} {c':Y→List D} {G':Y→Prop} (h:D4 P t c G) (hfl:∀x,w6 (c x)=true) (hu:(match P.underlying t with|some (.struct _)=>true|some (.array _ _)=>true|_=>false)=true) (hk:J7 P ts c' G'):
 J7 P (t::ts) (fun x:X×Y=> .agg (c x.1)::c' x.2) (fun x=>G x.1∧G' x.2):=by
 refine⟨fun enc w r b0 vs ds ps h0 hval hw=> ?_⟩;obtain⟨v,vs',d,ds',p,q,rfl,rfl,rfl,h1,h2⟩:=Go.ChangeShapes.trodAll_cons h0;simp only [DataW.weightsEach]at hw;obtain⟨x,g1,g2⟩:=h.arg_agg hfl hu (hval 0 t v rfl rfl) h1 fun n hn=>hw n (List.mem_append_left _ hn)
 obtain⟨y,g3,g4⟩:=hk.op enc w r b0 vs' ds' q h2 (fun j t v ht hv=>hval (j+1) t v (by simpa using ht) (by simpa using hv)) fun n hn=>hw n (List.mem_append_right _ hn)
 exact⟨(x,y),⟨g1,g3⟩,g2,g4⟩
theorem J7.one {ts:List TypeId} {X Y:Type} {f:X→D} {G:X→Prop} {c':Y→List D} {G':Y→Prop} (h:D4 P t (fun x=> [f x]) G) (hu:(match P.underlying t with|some .bool=>true|some .string=>true|some (.int _)=>true|some (.slice _)=>true|_=>false)=true) (hk:J7 P ts c' G'):
 J7 P (t::ts) (fun x:X×Y=>f x.1::c' x.2) (fun x=>G x.1∧G' x.2):=by
 refine⟨fun enc w r b0 vs ds ps h0 hval hw=> ?_⟩;obtain⟨v,vs',d,ds',p,q,rfl,rfl,rfl,h1,h2⟩:=Go.ChangeShapes.trodAll_cons h0;simp only [DataW.weightsEach]at hw;obtain⟨x,g1,g2⟩:=h.arg_one hu (hval 0 t v rfl rfl) h1 fun n hn=>hw n (List.mem_append_left _ hn)
 obtain⟨y,g3,g4⟩:=hk.op enc w r b0 vs' ds' q h2 (fun j t v ht hv=>hval (j+1) t v (by simpa using ht) (by simpa using hv)) fun n hn=>hw n (List.mem_append_right _ hn)
 exact⟨(x,y),⟨g1,g3⟩,g2,g4⟩
theorem b2S {X:Type} {c:X→List D} {G B:X→Prop} {H:Type} {enc:TypeId×Value→H} {f:Func} {n:FuncId} {s:ChangeSpec} {W:World} {base:Nat} {args:Array Value} {ds gs:List (DataW H)} {before:List MemPlace} {tb:TypeId} {ts:List TypeId}
 (hop:J7 P ts c G) (hlaw:∀x,G x→B x→o9 P n (c x) fun y=>y= .v (.bool true)) (hts:f.params.toList=ts)
 (hl:laidOutB P=true) (hr:(ts.all fun t=>P.readableRec t&&Nat.blt t P.types.size)=true) (hvars:s.vars= []) (hrt:f.resultTypes= #[tb]) (htb:P.underlying tb=some .bool)
 (hfn:∀ds:List (DataW H),ds.length=ts.length→(s.fn H ds).results= [.lit (.bool true)]∧(s.fn H ds).args=ds∧(s.fn H ds).vars= [])
 (hval:∀(j:Nat) t v,f.params[j]?=some t→args[j]?=some v→Value.okWide P W .any base t v) (hW:DataW.Whole enc P f.params.toList s.vars false W args.toList ds gs before)
 (hwt:(DataW.weightsEach P (f.params.toList++s.plain.varTypes P) (ds++gs)).all (· ≤reachBytes)=true) (hgi:GIW P W)
 (hB:∀x ps,j3 (fun b=>b<W.heap.size) W (c x) args.toList→DataW.TrodAll enc P W 0 (fun _=>true) true ts args.toList ds ps→B x):
 Calls P n args W fun e W'=>∃v,e= .returned v∧s.post enc P f false true false false W args v W':=by
 have hW0:=hW;obtain⟨p,q,hA,hV,rfl,hfz,hnd⟩:=hW;rw [hvars]at hV
 obtain⟨rfl,rfl⟩:gs= []∧q= []:=by
  cases gs with
  |nil=>exact⟨rfl,hV⟩
  |cons=>simp [DataW.TrodVars]at hV
 rw [hts]at hA
 have hlen:ds.length=ts.length:=by
  have:∀ {ts:List TypeId} {vs:List Value} {ds:List (DataW H)} {ps:List MemPlace},DataW.TrodAll enc P W 0 (fun _=>true) true ts vs ds ps→ds.length=ts.length:=by
   intro ts
   induction ts with
   |nil=>intro vs ds ps h;cases vs<;>cases ds<;>simp_all [DataW.TrodAll]
   |cons t ts ih=>
    intro vs ds ps h;obtain⟨v,vs',d,ds',p,q,rfl,rfl,rfl,h1,h2⟩:=Go.ChangeShapes.trodAll_cons h;simp [ih h2]
  exact this hA
 have hwt':∀m,m∈DataW.weightsEach P ts ds→m≤reachBytes:=by
  intro m hm
  have key:∀(ts r:List TypeId) (ds:List (DataW H)),m∈DataW.weightsEach P ts ds→m∈DataW.weightsEach P (ts++r) ds:=by
   intro ts r
   induction ts with
   |nil=>intro ds h;simp [DataW.weightsEach]at h
   |cons t ts ih=>
    intro ds h;cases ds with
    |nil=>simp [DataW.weightsEach]at h
    |cons d ds=>
     simp only [List.cons_append,DataW.weightsEach]at h⊢;rcases List.mem_append.1 h with h|h
     · exact List.mem_append_left _ h
     · exact List.mem_append_right _ (ih ds h)
  rw [hts,List.append_nil]at hwt;simpa using List.all_eq_true.1 hwt m (key ts _ ds hm)
 obtain⟨x,h1,h2⟩:=hop.op enc W .any base args.toList ds p hA (fun j t v ht hv=>hval j t v (by rw [←hts]at ht;simpa using ht) (by simpa using hv)) hwt'
 obtain⟨f1,f2,f3⟩:=hfn (ds++ []) (by simpa using hlen)
 refine c3j (Ds:=c x) hl (fun t ht=> ?_) hvars hrt htb f1 (by simpa using f2) f3 hW0 h1 (hlaw x h2 (hB x p h1 hA)) hgi
 rw [hts]at ht;have:=List.all_eq_true.1 hr t ht;simp only [Bool.and_eq_true,Nat.blt_eq]at this;exact this
theorem b4R {X:Type} {c:X→List D} {G:X→Prop} {H:Type} {enc:TypeId×Value→H} {f:Func} {n:FuncId} {s:ChangeSpec} {W:World} {base:Nat} {args:Array Value} {ds gs:List (DataW H)} {before:List MemPlace} {tb:TypeId} {ts:List TypeId}
 (hop:J7 P ts c G) (hlaw:∀x,G x→o9 P n (c x) fun y=>y= .v (.bool true)) (hts:f.params.toList=ts)
 (hl:laidOutB P=true) (hr:(ts.all fun t=>P.readableRec t&&Nat.blt t P.types.size)=true) (hvars:s.vars= []) (hrt:f.resultTypes= #[tb]) (htb:P.underlying tb=some .bool)
 (hfn:∀ds:List (DataW H),ds.length=ts.length→(s.fn H ds).results= [.lit (.bool true)]∧(s.fn H ds).args=ds∧(s.fn H ds).vars= [])
 (hval:∀(j:Nat) t v,f.params[j]?=some t→args[j]?=some v→Value.okWide P W .any base t v) (hW:DataW.Whole enc P f.params.toList s.vars false W args.toList ds gs before)
 (hwt:(DataW.weightsEach P (f.params.toList++s.plain.varTypes P) (ds++gs)).all (· ≤reachBytes)=true) (hgi:GIW P W):
 Calls P n args W fun e W'=>∃v,e= .returned v∧s.post enc P f false true false false W args v W':=
 b2S (B:=fun _=>True) hop (fun x h _=>hlaw x h) hts hl hr hvars hrt htb hfn hval hW hwt hgi fun _ _ _ _=>trivial
end
end Go.Sx
namespace Go.Sx
open Go Go.RowKit
theorem a3J {S E:Type} {body:S→Option (Sum S E)} (P:S→Prop) (μ:S→Nat) (Q:E→Prop) (h:∀s,P s→(∃e,body s=some (.inr e)∧Q e)∨(∃s',body s=some (.inl s')∧P s'∧μ s'<μ s)) (s0:S) (h0:P s0) (hf:μ s0<a2h):∃e,q8 body s0=some e∧Q e:=by
 have key:∀(n:Nat) (s:S),P s→μ s<n→∃e,Q6 body n s=some e∧Q e:=by
  intro n
  induction n with
  |zero=>intro s _ hn;omega
  |succ n ih=>
   intro s hs hn;rcases h s hs with⟨e,h1,h2⟩|⟨s',h1,h2,h3⟩
   · exact⟨e,by simp only [Q6,h1],h2⟩
   · obtain⟨e,h4,h5⟩:=ih s' h2 (by omega);exact⟨e,by simp only [Q6,h1,h4],h5⟩
 exact key a2h s0 h0 hf
theorem c0a {n:Nat} (h:n≤9223372036854775807):n<a2h:=by unfold a2h;omega
theorem V3 {α:Type} {l:List α} {k:Nat} (h:k<l.length):idx l (k:Int)=some l[k]:=by
 unfold idx;simp [h]
theorem b5x {z:Int} (h: -9223372036854775808≤z∧z≤9223372036854775807):IntKind.i64.wrap z=z:=IntWalk.i64_in z h
theorem a4z {k:Nat} (h:k<9223372036854775807):IntKind.i64.wrap ((k:Int)+1)=((k+1:Nat):Int):=by rw [b5x (by omega)];rfl
section
variable {α : Type} (pr : α → Option Bool)
def c6H (s:List α):Int→Option (Sum Int (Sum Int Int)):=fun v=>
 if(decide (v<(s.length:Int)))=true then
  Option.bind (idx s v) fun e=>
  Option.bind (pr e) fun x=>
  if x=true then some (.inr (.inr v))else some (.inl (IntKind.i64.wrap (v+1)))
 else some (.inr (.inl v))
def c6t (s:List α):Option Int:=
 Option.bind (q8 (c6H pr s) 0) fun e=>
 match e with
 | .inl _=>some (-1)
 | .inr r=>some r
theorem c5I {p:α→Bool} (s:List α) (hp:∀x,x∈s→pr x=some (p x)) (hl:s.length≤9223372036854775807):c6t pr s=some (match s.findIdx? p with|some i=>(i:Int)|none=> -1):=by
 have h:∃e,q8 (c6H pr s) 0=some e∧((e= .inl (s.length:Int)∧∀x,x∈s→p x=false)∨∃(i:Nat) (h:i<s.length),e= .inr (i:Int)∧p s[i]=true∧∀j (hj:j<i),p s[j]=false):=by
  refine a3J (fun v:Int=>∃k:Nat,v=k∧k≤s.length∧∀j (hj:j<s.length),j<k→p s[j]=false) (fun v:Int=>s.length-v.toNat) _ ?_ 0 ⟨0,rfl,by omega,by omega⟩ (c0a (by omega));rintro v ⟨k,rfl,hk,hno⟩;unfold c6H;by_cases hlt:k<s.length
  · have h1:(k:Int)<(s.length:Int):=by omega
    simp only [h1,decide_true,if_true,V3 hlt,Option.bind_some,hp _ (List.getElem_mem hlt)];by_cases hx:p s[k]=true
    · left;exact⟨.inr (k:Int),by simp only [hx,if_true], .inr ⟨k,hlt,rfl,hx,fun j hj=>hno j (by omega) hj⟩⟩
    · right;refine⟨_,by simp only [hx,if_false,Bool.false_eq_true],⟨k+1,a4z (by omega),by omega,fun j hj hjk=> ?_⟩,by rw [a4z (by omega)];omega⟩;by_cases e:j=k
      · subst e;simpa using hx
      · exact hno j hj (by omega)
  · left;have h1:¬(k:Int)<(s.length:Int):=by omega
    obtain rfl:k=s.length:=by omega
    refine⟨.inl _,by simp, .inl ⟨rfl,fun x hx=> ?_⟩⟩;obtain⟨j,hj,rfl⟩:=List.mem_iff_getElem.1 hx;exact hno j hj hj
 obtain⟨e,h1,h2⟩:=h;unfold c6t;rw [h1,Option.bind_some];rcases h2 with⟨rfl,hn⟩|⟨i,hi,rfl,hy,hn⟩
 · have:s.findIdx? p=none:=List.findIdx?_eq_none_iff.2 fun x hx=>hn x hx
   rw [this]
 · have:s.findIdx? p=some i:=List.findIdx?_eq_some_iff_getElem.2 ⟨hi,hy,fun j hj=>by simpa using hn j hj⟩
   rw [this]
def c6I:(Int×Int×(List α))→Option (Sum (Int×Int×(List α)) (Int×Int×(List α))):=fun(i,j,v)=>
 if(decide (j<(v.length:Int)))=true then
  Option.bind (idx v j) fun _=>
  Option.bind (idx v j) fun e=>
  Option.bind (pr e) fun x=>
  if(!x)=true then
   Option.bind (idx v i) fun _=>
   Option.bind (idx v i) fun _=>
   some (.inl ((IntKind.i64.wrap (i+1)),(IntKind.i64.wrap (j+1)),(v.set i.toNat e)))
  else some (.inl (i,(IntKind.i64.wrap (j+1)),v))
 else some (.inr (i,j,v))
def c8t (s:List α):Option (List α):=
 Option.bind (c6t pr s) fun x1=>
 if(x1==(-1))=true then some s
 else
  Option.bind (q8 (c6I pr) (x1,(IntKind.i64.wrap (x1+1)),s)) fun(i,_,v)=>
  gd (0≤i∧i.toNat≤v.length∧0<v.length) (some (v.take i.toNat))
theorem c5f {p:α→Bool} (s:List α) (hp:∀x,x∈s→pr x=some (p x)) (hl:s.length≤9223372036854775806):c8t pr s=some (s.filter fun x=> !p x):=by
 unfold c8t;rw [c5I pr s hp (by omega)];cases hf:s.findIdx? p with
 |none=>
  have hn:=List.findIdx?_eq_none_iff.1 hf;simp only [Option.bind_some,beq_self_eq_true,if_true];rw [List.filter_eq_self.2 fun x hx=>by simp [hn x hx]]
 |some i0=>
  obtain⟨hi,hy,hn⟩:=List.findIdx?_eq_some_iff_getElem.1 hf
  have hne:((i0:Int)== -1)=false:=by
   simp
  simp only [Option.bind_some,hne,Bool.false_eq_true,if_false];rw [a4z (by omega)]
  have h0:(s.take i0).filter (fun x=> !p x)=s.take i0:=List.filter_eq_self.2 fun x hx=>by
   obtain⟨j,hj,rfl⟩:=List.mem_iff_getElem.1 hx;simp only [List.length_take]at hj;rw [List.getElem_take];have:=hn j (by omega);simpa using this
  obtain⟨e,h1,h2⟩:=a3J (body:=c6I pr) (fun st:Int×Int×List α=>∃i j:Nat,st.1=i∧st.2.1=j∧i<j∧j≤s.length∧st.2.2.length=s.length∧st.2.2.drop j=s.drop j∧st.2.2.take i=(s.take j).filter fun x=> !p x) (fun st=>s.length-st.2.1.toNat)
   (fun st=>∃i:Nat,st.1=i∧i<s.length∧st.2.2.length=s.length∧st.2.2.take i=s.filter fun x=> !p x) (by
   rintro⟨i',j',v⟩ ⟨i,j,rfl,rfl,hij,hj,hv,hd,ht⟩;simp only at hv hd ht⊢;unfold c6I;by_cases hlt:j<s.length
   · have h1:(j:Int)<(v.length:Int):=by omega
     have hjv:j<v.length:=by omega
     have he:v[j]=s[j]:=by
      have:v[j]?=s[j]?:=by
       have a:(v.drop j)[0]?=(s.drop j)[0]?:=by rw [hd]
       simpa using a
      rw [List.getElem?_eq_getElem hjv,List.getElem?_eq_getElem hlt]at this;exact Option.some.inj this
     right;have htk:s.take (j+1)=s.take j++ [s[j]]:=by rw [List.take_add_one,List.getElem?_eq_getElem hlt];rfl
     have hdr:v.drop (j+1)=s.drop (j+1):=by
      have:(v.drop j).drop 1=(s.drop j).drop 1:=by rw [hd]
      simpa [List.drop_drop]using this
     simp only [h1,decide_true,if_true,V3 hjv,Option.bind_some,he,hp _ (List.getElem_mem hlt)];by_cases hx:p s[j]=true
     · refine⟨_,by simp only [hx,Bool.not_true,Bool.false_eq_true,if_false];rfl,⟨i,j+1,rfl,a4z (k:=j) (by omega),by omega,by omega,hv,hdr, ?_⟩,by simp only;rw [a4z (by omega)];omega⟩;rw [ht,htk,List.filter_append];simp [hx]
     · have hx':p s[j]=false:=by simpa using hx
       have hiv:i<v.length:=by omega
       refine⟨_,by simp only [hx',Bool.not_false,if_true,V3 hiv,Option.bind_some];rfl,⟨i+1,j+1,a4z (k:=i) (by omega),a4z (k:=j) (by omega),by omega,by omega,by simp [hv], ?_, ?_⟩,by simp only;rw [a4z (by omega)];omega⟩
       · simp only [Int.toNat_natCast];rw [List.drop_set_of_lt (by omega)];exact hdr
       · simp only [Int.toNat_natCast];rw [htk,List.filter_append,←ht,List.take_add_one,List.take_set_of_le (by omega),List.getElem?_set_self (by omega)];simp [hx']
   · left;have h1:¬(j:Int)<(v.length:Int):=by omega
     obtain rfl:j=s.length:=by omega
     refine⟨_,by simp only [h1,decide_false,Bool.false_eq_true,if_false];rfl,i,rfl,by omega,hv, ?_⟩;rw [ht,List.take_of_length_le (Nat.le_refl _)]) ((i0:Int),((i0+1:Nat):Int),s) ⟨i0,i0+1,rfl,rfl,by omega,by omega,rfl,rfl,by
     rw [List.take_add_one,List.getElem?_eq_getElem hi,List.filter_append,h0];simp [hy]⟩ (c0a (by omega))
  obtain⟨i',j',v⟩:=e;obtain⟨i,rfl,hi2,hv,ht⟩:=h2;rw [h1];simp only [Option.bind_some,Int.toNat_natCast];have hg:0≤(i:Int)∧i≤v.length∧0<v.length:=by simp only at hv;omega
  simp only at ht;simp [gd,hg,ht]
end
end Go.Sx
