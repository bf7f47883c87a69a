/- The walk over pure data: its definitions, that it is sound, and what may be read at a type. -/
import Derived.Test.YtggdlgclohnbaaaGreatDoorB2
import Derived.Lib.AppendZerosOnto
import Derived.Laws.Externs
import Derived.StillTail
import Derived.Shelf.Strconv.Itoa3
import Derived.Shelf.Strconv.AtoiAll
import Derived.Shelf.Strconv.Clone
import Derived.Shelf.Strings.Search2
import Derived.Shelf.Strings.Builder1
import Derived.Lib.AppendIntMem
import Derived.ProofKit
import Derived.SizedLaws
set_option linter.unusedVariables false
set_option linter.unusedSimpArgs false
namespace Go.Sx
open Go Go.RowKit
def J5 {S E α:Type} (m:S→α→Option (Sum S E)):List α→S→Option (Sum S E)
 | [],s=>some (.inl s)
 |x::xs,s=>match m s x with
  |none=>none
  |some (.inl s')=>J5 m xs s'
  |some (.inr e)=>some (.inr e)
def emit {α R:Type} (x:α) (m:Option (List α×R)):Option (List α×R):=match m with|none=>none|some (l,r)=>some (x::l,r)
def b2U {α E R:Type} (m:Option (List α×E)) (f:E→Option (List α×R)):Option (List α×R):=match m with
 |none=>none
 |some (l,e)=>match f e with
  |none=>none
  |some (l',r)=>some (l++l',r)
def a2T {S E α:Type} (body:S→Option (List α×Sum S E)):Nat→S→Option (List α×E)
 |0,_=>none
 |n+1,s=>match body s with
  |none=>none
  |some (l, .inl s')=>match a2T body n s' with
   |none=>none
   |some (l',e)=>some (l++l',e)
  |some (l, .inr e)=>some (l,e)
def b1b {S E α:Type} (body:S→Option (List α×Sum S E)) (s:S):Option (List α×E):=a2T body a1K s
theorem b2Q {α R:Type} {x:α} {m:Option (List α×R)} {r:List α×R} (h:emit x m=some r):∃r',m=some r'∧r.1=x::r'.1∧r.2=r'.2:=by
 unfold emit at h;split at h
 · cases h
 · cases h;exact⟨_,rfl,rfl,rfl⟩
theorem b2i {α E R:Type} {m:Option (List α×E)} {f:E→Option (List α×R)} {r:List α×R} (h:b2U m f=some r):∃e r',m=some e∧f e.2=some r'∧r.1=e.1++r'.1∧r.2=r'.2:=by
 unfold b2U at h;split at h
 · cases h
 · split at h
   · cases h
   · rename_i l' r' hf;cases h;exact⟨_,_,rfl,hf,rfl,rfl⟩
theorem b1g {S E α:Type} {body:S→Option (List α×Sum S E)} {n:Nat} {s:S} {e:List α×E} (h:a2T body n s=some e):∃m b t,n=m+1∧body s=some b∧e.1=b.1++t∧(match b.2 with
 | .inl s'=>∃e',a2T body m s'=some e'∧t=e'.1∧e.2=e'.2
 | .inr x=>t= []∧e.2=x):=by
 cases n with
 |zero=>cases h
 |succ n=>
  simp only [a2T]at h;split at h
  · cases h
  · rename_i l s' hb;split at h
    · cases h
    · rename_i l' e' he;cases h;exact⟨n,_,_,rfl,hb,rfl,_,he,rfl,rfl⟩
  · rename_i l x hb;cases h;exact⟨n,_, [],rfl,hb,by simp,rfl,rfl⟩
structure Hp3 {α:Type} (enc:α→List D) (q:List (List D)) (l:List α) (post xs:List (List D)):Prop where
 eq:q++l.map enc++post=xs
section
variable {α : Type} {enc : α → List D} {q post xs : List (List D)} {l l' : List α} {x : α}
theorem Hp3.emit (h:Hp3 enc q l post xs) (hl:l=x::l'):Hp3 enc (q++ [enc x]) l' post xs:=⟨by rw [←h.eq,hl];simp⟩
theorem Hp3.pre (h:Hp3 enc q l post xs) (hl:l=x::l'):q++ [enc x]<+:xs:=⟨l'.map enc++post,by rw [←h.eq,hl];simp⟩
theorem Hp3.in1 {l1 l2:List α} (h:Hp3 enc q l post xs) (hl:l=l1++l2):Hp3 enc q l1 (l2.map enc++post) xs:=⟨by rw [←h.eq,hl];simp⟩
theorem Hp3.out (h:Hp3 enc q l (l'.map enc++post) xs) (hl:l= []):Hp3 enc q l' post xs:=⟨by rw [←h.eq,hl];simp⟩
theorem Hp3.done (h:Hp3 enc q l [] xs) (hl:l= []):q=xs:=by rw [←h.eq,hl];simp
end
theorem a8T.of {body:Sy→Pre→(Exit→Sy→Pre→Prop)→Prop} {st:Sy} {q:List (List D)} {K:Exit→Sy→Pre→Prop} {α:Type} (f:α→Sy) (inv:α→List (List D)→Prop) (μ:α→Nat) (x0:α) (hi:inv x0 q) (h0:F6 st (f x0))
 (h:∀x q,inv x q→body (f x) (some q) fun e st2 p2=>match e with
  | .normal=>∃y q',F6 st2 (f y)∧p2=some q'∧inv y q'∧μ y<μ x
  |e=>K e st2 p2):a8T body st (some q) K:=by
 refine⟨⟨α×List (List D),fun x=>f x.1,fun x=>x.2,fun x=>inv x.1 x.2,fun x=>μ x.1,⟨(x0,q),h0,rfl,hi⟩,fun x hx=> ?_⟩⟩;have:=h x.1 x.2 hx
 have mono:(fun(e:Exit) (st2:Sy) (p2:Pre)=>match e with
  | .normal=>∃y q',F6 st2 (f y)∧p2=some q'∧inv y q'∧μ y<μ x.1
  |e=>K e st2 p2)=fun e st2 p2=>match e with
  | .normal=>∃y:α×List (List D),F6 st2 (f y.1)∧p2=some y.2∧inv y.1 y.2∧μ y.1<μ x.1
  |e=>K e st2 p2:=by
  funext e st2 p2;cases e<;>simp
 exact(mono▸this:_)
theorem a8N.of {X:Cy} {l:Nat} {xs:List (List D)} {st:Sy} {o:Oper} {args:List Operand} {q:List (List D)} {K:Sy→Pre→Prop} {x x':List D} (h1:b0r st o=some (.v (.func (.yield l) #[] #[]))) (h2:a6N st args=some x) (h3:a1b st (.tup x) fun y=>y= .tup x') (h4:q++ [x']<+:xs)
 (h5:F8 X ⟨b2x st.T, [],st.nk⟩ o.dst (.v (.bool true)) fun st=>K st (some (q++ [x']))) (h6:F8 X ⟨b7E st.T, [],st.nk⟩ o.dst (.v (.bool false)) fun st=>K st none):a8N X l xs st o args (some q) K:=⟨⟨q,x,x',h1,rfl,h2,h3,h4,h5,h6⟩⟩
theorem a2X.of {X:Cy} {l:Nat} {xs:List (List D)} {st:Sy} {o:Oper} {args:List Operand} {q:List (List D)} {K:Sy→Pre→Prop} {x x':List D} (h1:b0r st o=some (.v (.func (.yield l) #[] #[]))) (h2:a6N st args=some x) (h3:a1b st (.tup x) fun y=>y= .tup x') (h4:q++ [x']<+:xs)
 (h5:F8 X ⟨b2x st.T, [],st.nk⟩ o.dst (.v (.bool true)) fun st=>K st (some (q++ [x']))) (h6:F8 X ⟨b7E st.T, [],st.nk⟩ o.dst (.v (.bool false)) fun st=>K st none):a2X X l xs st o args (some q) K:=⟨[],st,rfl,a8N.of h1 h2 h3 h4 h5 h6⟩
theorem a2X.fz {X:Cy} {l:Nat} {xs:List (List D)} {st st0:Sy} {o:Oper} {args:List Operand} {p:Pre} {K:Sy→Pre→Prop} (ks:List Nat) (h:a2F ks st []=some (st0, [])) (hz:a8N X l xs st0 o args p K):a2X X l xs st o args p K:=⟨ks,st0,h,hz⟩
theorem b6J {P:Program} {tt:List (Nat×TI)} (hP:POK P tt) {g:Nat} {fn:Func} {c:Code} (hfn:P.funcs[g]?=some fn) (hb:fn.body=some c):∀args w,(callFunc g args).run P w= .ok (.enter g args) w:=by
 intro args w;have hng:=hP.ng g fn hfn;simp only [callFunc,Sem.run_bind,run_program,hfn,Result.andThen_ok];simp [hng,hb]
def b8P (fz:List Nat):List (Nat×D)→Bool
 | []=>true
 |(d,_)::T=>match F2 d fz with|true=>b8P fz T|false=>false
theorem a7A {fz:List Nat} {d:Nat} {x:D}:∀ {T:List (Nat×D)},b8P fz T=true→o4 T d=some x→d∈fz
 | [],_,h=>by cases h
 |(e,y)::T,h,hx=>by
  simp only [b8P]at h;simp only [o4]at hx;split at h
  · rename_i hm;split at hx
    · rename_i hb;obtain rfl:=r6 hb;exact y9.1 hm
    · exact a7A h hx
  · cases h
theorem b5w {S E α:Type} {m:S→α→Option (Sum S E)}:∀(l:List α) (x:α) (r:List α) (s:S) {s1:S} {ev:Sum S E},J5 m l s=some (.inl s1)→J5 m (l++x::r) s=some ev→∃b,m s1 x=some b∧J5 m (l++ [x]) s=some b:=by
 intro l x r s s1 ev h1 h2
 induction l generalizing s with
 |nil=>
  simp only [J5]at h1;cases h1;simp only [Y7,J5]at h2⊢;cases hm:m s1 x with
  |none=>rw [hm]at h2;cases h2
  |some b=>refine⟨b,rfl, ?_⟩;cases b<;>rfl
 |cons y l ih=>
  simp only [J5,S0]at h1 h2⊢;cases hm:m s y with
  |none=>rw [hm]at h1;cases h1
  |some b=>
   rw [hm]at h1 h2;cases b with
   |inl s'=>exact ih s' h1 h2
   |inr e=>cases h1
theorem a3f.of {X:Cy} {g:Operand} {ps:Array Tmp} {assign body:Code} {st:Sy} {K:Exit→Sy→Prop} {α S E:Type} {gf:FuncId} {caps:List D} (enc:α→List D) (xs:List α) (m:S→α→Option (Sum S E)) (f:S→Sy) (fe:E→Sy) (ex:E→Exit) (s0:S) (ev:Sum S E)
 (fz:List Nat) (hit:a5w X.P gf caps (xs.map enc)) (hm:J5 m xs s0=some ev) (heg:∀args w,(callFunc gf args).run X.P w= .ok (.enter gf args) w)
 (hg:evY st g=some (.fn gf [] caps)) (hcl:J7 caps=true) (hps:∀x,(enc x).length=ps.size) (hasg:H4 fz assign=true) (hr:H4 fz body=true) (hf:a6L fz ps.toList=true) (hdom:∀s,b8P fz (f s).T=true) (hdome:∀e,b8P fz (fe e).T=true)
 (hsub:F6 st (f s0)) (hdone:∀s,ev= .inl s→K .normal (f s)) (hstop:∀s,ev= .inr s→K (ex s) (fe s)) (hex:∀e,ex e= .ret∨∃id,ex e= .exit id)
 (hround:∀s x b,m s x=some b→b2T { X with dfs:= []} ps.toList (enc x) (f s) fun st1=>I9 { X with dfs:= []} assign st1<|a9Y { X with dfs:= []} body fun e sy=>match e with
  | .normal=>∃s',b= .inl s'∧F6 sy (f s')
  | .ret=>∃s',b= .inr s'∧ex s'= .ret∧F6 sy (fe s')
  | .exit id=>∃s',b= .inr s'∧ex s'= .exit id∧F6 sy (fe s')
  |_=>False):a3f X g ps assign body st K:=by
 have key:∀(pre:List (List D)) (x:List D),pre++ [x]<+:xs.map enc→∃y r,x=enc y∧xs=xs.take pre.length++y::r∧xs.take (pre.length+1)=xs.take pre.length++ [y]:=by
  rintro pre x ⟨t,ht⟩
  have hlt:pre.length<xs.length:=by
   have:=l8 List.length ht;simp at this;omega
  refine⟨xs[pre.length],xs.drop (pre.length+1), ?_, ?_, ?_⟩
  · have h1:(xs.map enc)[pre.length]?=some x:=by rw [←ht];simp
    rw [List.getElem?_map,M6 hlt]at h1;exact(D6 h1).symm
  · rw [←b3T hlt,b3R]
  · rw [List.take_add_one,M6 hlt];rfl
 --a round that stops:its way out is the whole's
 have stop:∀(l:List α) (y:α) (r:List α) (e:E) (s:S),J5 m (l++ [y]) s=some (.inr e)→J5 m (l++y::r) s=some (.inr e):=by
  intro l y r e s
  induction l generalizing s with
  |nil=>
   intro h;simp only [Y7,J5]at h⊢;cases hb:m s y with
   |none=>rw [hb]at h;cases h
   |some b=>
    rw [hb]at h;cases b with
    |inl s'=>cases h
    |inr e'=>exact h
  |cons z l ih=>
   intro h;simp only [S0,J5]at h⊢;cases hb:m s z with
   |none=>rw [hb]at h;cases h
   |some b=>
    rw [hb]at h;cases b with
    |inl s'=>exact ih s' h
    |inr e'=>exact h
 refine⟨⟨gf,caps,xs.map enc,fz,Sum S E,fun s=>match s with| .inl s=>f s| .inr e=>fe e,fun _ s=>match s with| .inl s=>f s| .inr e=>fe e,
  fun pre s=>∃s',s= .inl s'∧J5 m (xs.take pre.length) s0=some (.inl s'),fun e _ s=>∃s',s= .inr s'∧ex s'=e∧ev= .inr s', .inl s0,hg,hcl,hit,heg, ?_,hasg,hr,hf,hsub,⟨s0,rfl,rfl⟩, ?_, ?_, ?_, ?_, ?_⟩⟩
 · intro x hx;obtain⟨y,_,rfl⟩:=E8.1 hx;exact hps y
 · intro s d x hx;cases s with
   |inl s=>exact a7A (hdom s) hx
   |inr s=>exact a7A (hdome s) hx
 · intro e s d x hx;cases s with
   |inl s=>exact a7A (hdom s) hx
   |inr s=>exact a7A (hdome s) hx
 · rintro pre s x hpre ⟨s',rfl,hl⟩;obtain⟨y,r,rfl,e2,e3⟩:=key _ _ hpre;obtain⟨b,hb,hb2⟩:=b5w _ y r s0 hl (e2▸hm);have hlen:(pre++ [enc y]).length=pre.length+1:=by simp
   refine⟨_,fun e sy h=> ?_,hround s' y b hb⟩
   ·
     have hout:∀s',b= .inr s'→ev= .inr s':=by
      intro s' hbs;subst hbs;have:=stop _ y r s' s0 hb2;rw [←e2,hm]at this;exact D6 this
     cases e with
     |normal=>
      obtain⟨s2,rfl,h2⟩:=h;exact⟨.inl s2,⟨s2,rfl,by rw [hlen,e3];exact hb2⟩,h2⟩
     |ret=>
      obtain⟨s2,h1,h2,h3⟩:=h;exact⟨.inr s2,⟨s2,rfl,h2,hout s2 h1⟩,h3⟩
     |exit id=>
      obtain⟨s2,h1,h2,h3⟩:=h;exact⟨.inr s2,⟨s2,rfl,h2,hout s2 h1⟩,h3⟩
     |_=>exact h.elim
 · rintro s ⟨s',rfl,hr⟩;rw [a9c,a6n]at hr;rw [hm]at hr;exact hdone s' (D6 hr)
 · rintro e pre s hpre ⟨s',rfl,rfl,h2⟩ he;exact hstop s' h2
def c3d (X:Cy) (ops:List Oper) (l:List Oper):Sy→(Sy→Prop)→Prop:=by
 induction l with
 |nil=>exact fun st K=>K st
 |cons o rest ih=>exact fun st K=>a0D ops o.guard st (fun st=>a9d X st o fun st=>ih st K) (fun st=>F8 X st o.dst .und fun st=>ih st K)
theorem c4b (X:Cy) (ops l:List Oper):c3d X ops l=fun st K=>b5b X ops l st K:=by
 induction l with
 |nil=>rfl
 |cons o rest ih=>
  funext st K;show a0D ops o.guard st (fun st=>a9d X st o fun st=>c3d X ops rest st K) (fun st=>F8 X st o.dst .und fun st=>c3d X ops rest st K)=_;rw [ih];rfl
def a8d (X:Cy) (ops:List Oper) (p:PT):Sy→List (Nat×Option Nat)→(Sy→Prop)→Prop:=by
 induction p with
 |nil=>exact fun st _ K=>K st
 |op i S fl rest ih=>exact fun st pr K=>match a9S ops i with
  |some o=>a0D ops o.guard st
   (fun st=>b3k X ops rest i S fl pr o st fun st pr=>ih st pr K)
   (fun st=>F8 X st o.dst .und fun st=>ih st pr K)
  |none=>False
 |fork a b iha ihb=>exact fun st pr K=>iha st pr K∧ihb st pr K
theorem b7b (X:Cy) (ops:List Oper) (p:PT):a8d X ops p=fun st pr K=>a4o X ops p st pr K:=by
 induction p with
 |nil=>rfl
 |op i S fl rest ih=>
  funext st pr K
  show(match a9S ops i with
   |some o=>a0D ops o.guard st (fun st=>b3k X ops rest i S fl pr o st fun st pr=>a8d X ops rest st pr K) (fun st=>F8 X st o.dst .und fun st=>a8d X ops rest st pr K)
   |none=>False)=_
  rw [ih];rfl
 |fork a b iha ihb=>
  funext st pr K;show(a8d X ops a st pr K∧a8d X ops b st pr K)=_;rw [iha,ihb];rfl
def G5 (X:Cy) (c:Code):Sy→(Exit→Sy→Prop)→Prop:=by
 induction c with
 |skip=>exact fun st K=>K .normal st
 |region id ops draw=>exact fun st K=>match draw with
  |false=>c3d X ops.toList ops.toList st (K .normal)
  |true=>match b7R X.pl id with
   |some p=>a4R X.tt X.nt ops p=true∧(match st with|⟨T,H,nk⟩=>a4Y ops.toList T fun T=>a8d X ops.toList p ⟨T,H,nk⟩ [] (K .normal))
   |none=>False
 |seq a b iha ihb=>exact fun st K=>iha st fun e st'=>match e with
  | .normal=>ihb st' K
  |e=>K e st'
 |cond c t e iht ihe=>exact fun st K=>match evY st c with
  |some (.v (.bool b))=>VIf b (iht st K) (ihe st K)
  |_=>False
 |block id c ih=>exact fun st K=>ih st fun e st'=>match e with
  | .exit j=>match Nat.beq j id with
   |true=>K .normal st'
   |false=>K (.exit j) st'
  |e=>K e st'
 |loop c ih=>exact fun st K=>E5 ih st K
 |exit id=>exact fun st K=>K (.exit id) st
 |ret=>exact fun st K=>K .ret st
 |scope c ih=>exact fun st K=>ih st K
 |label _=>exact fun st K=>K .normal st
 |_=>exact fun _ _=>False
theorem R7 (X:Cy) (c:Code):G5 X c=fun st K=>I9 X c st K:=by
 induction c with
 |region id ops draw=>
  funext st K;show(match draw with
  |false=>c3d X ops.toList ops.toList st (K .normal)
  |true=>match b7R X.pl id with
   |some p=>a4R X.tt X.nt ops p=true∧(match st with|⟨T,H,nk⟩=>a4Y ops.toList T fun T=>a8d X ops.toList p ⟨T,H,nk⟩ [] (K .normal))
   |none=>False)=_
  simp only [c4b,b7b,a8B];rfl
 |seq a b iha ihb=>
  funext st K;show(G5 X a st fun e st'=>match e with| .normal=>G5 X b st' K|e=>K e st')=_
  rw [iha,ihb];rfl
 |cond c t e iht ihe=>
  funext st K;show(match evY st c with|some (.v (.bool b))=>VIf b (G5 X t st K) (G5 X e st K)|_=>False)=_
  rw [iht,ihe];rfl
 |block id c ih=>
  funext st K;show(G5 X c st fun e st'=>match e with| .exit j=>(match Nat.beq j id with|true=>K .normal st'|false=>K (.exit j) st')|e=>K e st')=_
  rw [ih];rfl
 |loop c ih=>
  funext st K;show E5 (G5 X c) st K=_;rw [ih];rfl
 |scope c ih=>
  funext st K;show G5 X c st K=_;rw [ih];rfl
 |_=>rfl
theorem b0b {X:Cy} {c:Code} {st:Sy} {K:Exit→Sy→Prop} (h:G5 X c st K):I9 X c st K:=by rw [R7]at h;exact h
def b9D (X:Cy) (body:Code) (K:Exit→Sy→Prop):Exit→Sy→Prop
 | .normal,st=>G5 X body st K
 |_,_=>False
theorem b8d (X:Cy) (body:Code) (K:Exit→Sy→Prop):b9D X body K=a9Y X body K:=by
 funext e st;cases e<;>first|rfl|(show G5 X body st K=_;rw [R7];rfl)
def a5k (X:Cy) (c:Code):Sy→(Exit→Sy→Prop)→Prop:=by
 induction c with
 |seq a b iha ihb=>exact fun st K=>iha st fun e st'=>match e with
  | .normal=>ihb st' K
  |e=>K e st'
 |block id c ih=>exact fun st K=>ih st fun e st'=>match e with
  | .exit j=>(match Nat.beq j id with|true=>K .normal st'|false=>K (.exit j) st')
  |e=>K e st'
 |cond c t e iht ihe=>exact fun st K=>match evY st c with
  |some (.v (.bool b))=>VIf b (iht st K) (ihe st K)
  |_=>False
 |scope c ih=>exact fun st K=>ih st K
 |rangeFunc g ps assign body=>exact fun st K=>a3f X g ps assign body st K
 |skip=>exact fun st K=>∀ds,G5 { X with dfs:=ds} .skip st K
 |region id ops draw=>exact fun st K=>∀ds,G5 { X with dfs:=ds} (.region id ops draw) st K
 |loop c=>exact fun st K=>∀ds,G5 { X with dfs:=ds} (.loop c) st K
 |exit id=>exact fun st K=>∀ds,G5 { X with dfs:=ds} (.exit id) st K
 |ret=>exact fun st K=>∀ds,G5 { X with dfs:=ds} .ret st K
 |label l=>exact fun st K=>∀ds,G5 { X with dfs:=ds} (.label l) st K
 |_=>exact fun st K=>List Deferred→False
theorem c0S (X:Cy) (c:Code):a5k X c=fun st K=>a4M X c st K:=by
 induction c with
 |seq a b iha ihb=>
  funext st K;show(a5k X a st fun e st'=>match e with| .normal=>a5k X b st' K|e=>K e st')=_
  rw [iha,ihb];rfl
 |cond c t e iht ihe=>
  funext st K;show(match evY st c with|some (.v (.bool b))=>VIf b (a5k X t st K) (a5k X e st K)|_=>False)=_
  rw [iht,ihe];rfl
 |block id c ih=>
  funext st K;show(a5k X c st fun e st'=>match e with| .exit j=>(match Nat.beq j id with|true=>K .normal st'|false=>K (.exit j) st')|e=>K e st')=_
  rw [ih];rfl
 |scope c ih=>
  funext st K;show a5k X c st K=_;rw [ih];rfl
 |rangeFunc=>rfl
 |skip=>funext st K;show(∀ds,G5 { X with dfs:=ds} .skip st K)=_;simp only [R7];rfl
 |region id ops draw=>funext st K;show(∀ds,G5 { X with dfs:=ds} (.region id ops draw) st K)=_;simp only [R7];rfl
 |loop c=>funext st K;show(∀ds,G5 { X with dfs:=ds} (.loop c) st K)=_;simp only [R7];rfl
 |exit id=>funext st K;show(∀ds,G5 { X with dfs:=ds} (.exit id) st K)=_;simp only [R7];rfl
 |ret=>funext st K;show(∀ds,G5 { X with dfs:=ds} .ret st K)=_;simp only [R7];rfl
 |label l=>funext st K;show(∀ds,G5 { X with dfs:=ds} (.label l) st K)=_;simp only [R7];rfl
 |_=>rfl
def a9H (X:Cy) (l:Nat) (xs:List (List D)) (ops:List Oper) (r:List Oper):Sy→Pre→(Sy→Pre→Prop)→Prop:=by
 induction r with
 |nil=>exact fun st p K=>K st p
 |cons o rest ih=>exact fun st p K=>match a4g st o with
  |some args=>a0D ops o.guard st (fun st=>a2X X l xs st o args p fun st p=>ih st p K) (fun st=>F8 X st o.dst .und fun st=>ih st p K)
  |none=>c4J X ops o st fun st=>ih st p K
theorem c2h (X:Cy) (l:Nat) (xs:List (List D)) (ops:List Oper) (r:List Oper):a9H X l xs ops r=fun st p K=>b5x X l xs ops r st p K:=by
 induction r with
 |nil=>rfl
 |cons o rest ih=>
  funext st p K
  show(match a4g st o with
   |some args=>a0D ops o.guard st (fun st=>a2X X l xs st o args p fun st p=>a9H X l xs ops rest st p K) (fun st=>F8 X st o.dst .und fun st=>a9H X l xs ops rest st p K)
   |none=>c4J X ops o st fun st=>a9H X l xs ops rest st p K)=_
  rw [ih];rfl
def a4i (X:Cy) (l:Nat) (xs:List (List D)) (yl:List (Nat×Nat)) (c:Code):Sy→Pre→(Exit→Sy→Pre→Prop)→Prop:=by
 induction c with
 |skip=>exact fun st p K=>K .normal st p
 |region id ops draw=>exact fun st p K=>match draw with
  |false=>a9H X l xs ops.toList ops.toList st p (K .normal)
  |true=>match b7R X.pl id with
   |some pl=>match c4Y yl id with
    |some j=>a5Y ops j=true∧a4R X.tt X.nt (ops.toList.take j).toArray pl=true∧(match st with|⟨T,H,nk⟩=>a4Y (ops.toList.take j) T fun T=>a8d X (ops.toList.take j) pl ⟨T,H,nk⟩ [] fun st=>a9H X l xs ops.toList (ops.toList.drop j) st p (K .normal))
    |none=>G5 X (.region id ops true) st fun e st=>K e st p
   |none=>False
 |seq a b iha ihb=>exact fun st p K=>iha st p fun e st' p'=>match e with
  | .normal=>ihb st' p' K
  |e=>K e st' p'
 |cond c t e iht ihe=>exact fun st p K=>match evY st c with
  |some (.v (.bool b))=>VIf b (iht st p K) (ihe st p K)
  |_=>False
 |block id c ih=>exact fun st p K=>ih st p fun e st' p'=>match e with
  | .exit j=>match Nat.beq j id with
   |true=>K .normal st' p'
   |false=>K (.exit j) st' p'
  |e=>K e st' p'
 |loop c ih=>exact fun st p K=>a8T ih st p K
 |exit id=>exact fun st p K=>K (.exit id) st p
 |ret=>exact fun st p K=>K .ret st p
 |scope c ih=>exact fun st p K=>ih st p K
 |label _=>exact fun st p K=>K .normal st p
 |_=>exact fun _ _ _=>False
theorem c0j (X:Cy) (l:Nat) (xs:List (List D)) (yl:List (Nat×Nat)) (c:Code):a4i X l xs yl c=fun st p K=>a3t X l xs yl c st p K:=by
 induction c with
 |region id ops draw=>
  funext st p K;show(match draw with
  |false=>a9H X l xs ops.toList ops.toList st p (K .normal)
  |true=>match b7R X.pl id with
   |some pl=>match c4Y yl id with
    |some j=>a5Y ops j=true∧a4R X.tt X.nt (ops.toList.take j).toArray pl=true∧(match st with|⟨T,H,nk⟩=>a4Y (ops.toList.take j) T fun T=>a8d X (ops.toList.take j) pl ⟨T,H,nk⟩ [] fun st=>a9H X l xs ops.toList (ops.toList.drop j) st p (K .normal))
    |none=>G5 X (.region id ops true) st fun e st=>K e st p
   |none=>False)=_
  simp only [c2h,b7b,R7,a8B];rfl
 |seq a b iha ihb=>
  funext st p K;show(a4i X l xs yl a st p fun e st' p'=>match e with| .normal=>a4i X l xs yl b st' p' K|e=>K e st' p')=_
  rw [iha,ihb];rfl
 |cond c t e iht ihe=>
  funext st p K;show(match evY st c with|some (.v (.bool b))=>VIf b (a4i X l xs yl t st p K) (a4i X l xs yl e st p K)|_=>False)=_
  rw [iht,ihe];rfl
 |block id c ih=>
  funext st p K;show(a4i X l xs yl c st p fun e st' p'=>match e with| .exit j=>(match Nat.beq j id with|true=>K .normal st' p'|false=>K (.exit j) st' p')|e=>K e st' p')=_
  rw [ih];rfl
 |loop c ih=>
  funext st p K;show a8T (a4i X l xs yl c) st p K=_;rw [ih];rfl
 |scope c ih=>
  funext st p K;show a4i X l xs yl c st p K=_;rw [ih];rfl
 |_=>rfl
def b7F (X:Cy) (n:Nat):Code→Sy→(Exit→Sy→Prop)→(Sy→Prop)→Prop:=by
 induction n with
 |zero=>exact fun _ st _ KT=>KT st
 |succ n ih=>exact fun c st K KT=>match c with
  | .seq a b=>G5 X a st fun e st'=>match e with
   | .normal=>ih b st' K KT
   |e=>K e st'
  |_=>False
theorem c0J (X:Cy) (n:Nat):b7F X n=fun c st K KT=>b9e X n c st K KT:=by
 induction n with
 |zero=>rfl
 |succ n ih=>
  funext c st K KT;cases c with
  |seq a b=>
   show(G5 X a st fun e st'=>match e with| .normal=>b7F X n b st' K KT|e=>K e st')=_
   rw [ih,R7];rfl
  |_=>rfl
theorem c4L {X:Cy} (hP:POK X.P X.tt) {f:FuncId} {fn:Func} {c:Code} (args:List D) {Qr:D→Prop} (hf:X.P.funcs[f]?=some fn) (hb:fn.body=some c) (hn:X.nt=fn.ntmps) (hl:args.length≤fn.ntmps)
 (h:G5 X c ⟨a0t 0 args, [],0⟩ (c0x X fn.results.toList Qr)) (h0:X.dfs= []:=by rfl) (hg:fn.ntmps≤E7:=by exact F7 rfl):q8 X.P f args Qr:=
 c5H hP args hf hb hn hl (b0b h) h0 hg
theorem b9t {X:Cy} (hP:POK X.P X.tt) {f:FuncId} {fn:Func} {c:Code} (args:List D) {Qr:D→Prop} (hf:X.P.funcs[f]?=some fn) (hb:fn.body=some c) (hn:X.nt=fn.ntmps) (hl:args.length≤fn.ntmps)
 (h:a5k X c ⟨a0t 0 args, [],0⟩ (c0x X fn.results.toList Qr)) (hg:fn.ntmps≤E7:=by exact F7 rfl):q8 X.P f args Qr:=
 c5F hP args hf hb hn hl (by rw [c0S]at h;exact h) hg
theorem b9T {X:Cy} (hP:POK X.P X.tt) {f:FuncId} {fn:Func} {c:Code} (args:List D) {rows:List (Nat×Nat×List D×TypeId)} {cells:List D} (hf:X.P.funcs[f]?=some fn) (hb:fn.body=some c) (hn:X.nt=fn.ntmps) (hl:args.length≤fn.ntmps) (hfl:u7 cells=true)
 (h:G5 X c ⟨a0t 0 args, [],0⟩ (c1Y X fn.results.toList rows cells)) (h0:X.dfs= []:=by rfl) (hg:fn.ntmps≤E7:=by exact F7 rfl):b6O X.P f args rows cells:=
 c6k hP args hf hb hn hl hfl (b0b h) h0 hg
theorem b9Q {X:Cy} (hP:POK X.P X.tt) {f:FuncId} {fn:Func} {c:Code} (args:List D) {z n:Nat} {l:List D} {ty:TypeId} (hf:X.P.funcs[f]?=some fn) (hb:fn.body=some c) (hn:X.nt=fn.ntmps) (hl:args.length≤fn.ntmps)
 (h:G5 X c ⟨a0t 0 args, [],0⟩ (b6D X fn.results.toList z n l ty)) (h0:X.dfs= []:=by rfl) (hg:fn.ntmps≤E7:=by exact F7 rfl):b3j X.P f args z n l ty:=
 c6d hP args hf hb hn hl (b0b h) h0 hg
theorem a6F.ofZ {X:Cy} {f:FuncId} {args:List D} {dst:Option Nat} {st:Sy} {K:Sy→Prop} (hP:POK X.P X.tt) (st0 st1:Sy) (pl:List (Nat×PT)) (ln un inl:List Nat) {fn:Func} {c:Code} (hf:X.P.funcs[f]?=some fn) (hb:fn.body=some c)
 (hg:Nat.ble fn.ntmps 1000000=true) (hl:Nat.ble args.length fn.ntmps=true) (hs:F6 ⟨a0t 0 args++O6 X.nt st.T,st.H,st.nk⟩ st0)
 (hbody:∀sv,G5 ⟨X.P,X.tt,fn.ntmps,pl,ln,un, [],inl,sv⟩ c st0 (c3r X ⟨X.P,X.tt,fn.ntmps,pl,ln,un, [],inl, []⟩ fn.results.toList dst fun sy=>F6 sy st1)) (hk:K st1):a6F X f args dst st K:=
 a6F.ofP hP st0 st1 pl ln un inl hf hb hg hl hs (fun sv=>b0b (hbody sv)) hk
theorem a3f.ofZ {X:Cy} {g:Operand} {ps:Array Tmp} {assign body:Code} {st:Sy} {K:Exit→Sy→Prop} {α S E:Type} {gf:FuncId} {caps:List D} (enc:α→List D) (xs:List α) (m:S→α→Option (Sum S E)) (f:S→Sy) (fe:E→Sy) (ex:E→Exit) (s0:S) (ev:Sum S E)
 (fz:List Nat) (hit:a5w X.P gf caps (xs.map enc)) (hm:J5 m xs s0=some ev) (heg:∀args w,(callFunc gf args).run X.P w= .ok (.enter gf args) w)
 (hg:evY st g=some (.fn gf [] caps)) (hcl:J7 caps=true) (hps:∀x,(enc x).length=ps.size) (hasg:H4 fz assign=true) (hr:H4 fz body=true) (hf:a6L fz ps.toList=true) (hdom:∀s,b8P fz (f s).T=true) (hdome:∀e,b8P fz (fe e).T=true)
 (hsub:F6 st (f s0)) (hdone:∀s,ev= .inl s→K .normal (f s)) (hstop:∀s,ev= .inr s→K (ex s) (fe s)) (hex:∀e,ex e= .ret∨∃id,ex e= .exit id)
 (hround:∀s x b,m s x=some b→b2T { X with dfs:= []} ps.toList (enc x) (f s) fun st1=>G5 { X with dfs:= []} assign st1<|b9D { X with dfs:= []} body fun e sy=>match e with
  | .normal=>∃s',b= .inl s'∧F6 sy (f s')
  | .ret=>∃s',b= .inr s'∧ex s'= .ret∧F6 sy (fe s')
  | .exit id=>∃s',b= .inr s'∧ex s'= .exit id∧F6 sy (fe s')
  |_=>False):a3f X g ps assign body st K:=
 a3f.of enc xs m f fe ex s0 ev fz hit hm heg hg hcl hps hasg hr hf hdom hdome hsub hdone hstop hex fun s x b hb=>by
  have h:=hround s x b hb;simp only [R7,b8d]at h;exact h
theorem b6l {X:Cy} (hP:POK X.P X.tt) {f:FuncId} {fn:Func} {c:Code} (caps:List D) (xs:List (List D)) (yl:List (Nat×Nat)) (hf:X.P.funcs[f]?=some fn) (hb:fn.body=some c) (hn:X.nt=fn.ntmps) (hl:caps.length+1≤fn.ntmps) (hres:fn.results= #[])
 (h:∀l,a4i X l xs yl c ⟨a0t 0 (.v (.func (.yield l) #[] #[])::caps), [],0⟩ (some []) (c7s xs)) (h0:X.dfs= []:=by rfl) (hg:fn.ntmps≤E7:=by exact F7 rfl):a5w X.P f caps xs:=
 c4w hP caps xs yl hf hb hn hl hres (fun l=>by have h:=h l;rw [c0j]at h;exact h) h0 hg
theorem vb {α:Type} {b:Bool} {p q:Prop} {x y r:Option α} (h:(if b=true then x else y)=r) (h1:b=true→x=r→p) (h2:b=false→y=r→q):VIf b p q:=VIf.b h1 h2 h
theorem cy {α β:Type} {P:Program} {f:FuncId} {args:List D} {st:Sy} {K:Sy→D→Prop} {o:Option α} {k:α→Option β} {r:β} {c:α→D} (h:Option.bind o k=some r) (hd:∀x,o=some x→q8 P f args fun y=>y=c x) (hk:∀x,k x=some r→K st (c x)):a6l P f args st K:=by
 obtain⟨x,hx,hm⟩:=j0 h;exact a6l.det (hd x hx) (hk x hm)
theorem co {α β:Type} {P:Program} {seq:Bool} {f:FuncId} {fa:List D} {st st':Sy} {K:Sy→D→Prop} {o:Option α} {k:α→Option β} {r:β} {c:α→D} (h:Option.bind o k=some r) (hd:∀x,o=some x→q8 P f fa fun y=>y=c x) (hk:∀x,k x=some r→match a3c (c x),seq with
 |true,_=>K st (c x)
 |false,true=>K st' (c x)
 |false,false=>False):a7o P seq f fa st st' K:=by
 obtain⟨x,hx,hm⟩:=j0 h;exact a7o.det (hd x hx) (hk x hm)
theorem _root_.Eq.rl {α:Type} {a r:α} {f:α→D} {x:D} (hm:some a=some r) (h:leD x (f a)):y0 x fun y=>y=f r:=by
 cases hm;exact c9n h
theorem _root_.Eq.rr {α:Type} {a r:α} {f:α→D} {x:D} (hm:some a=some r) (h:x=f a:=by rfl):y0 x fun y=>y=f r:=hm.rl (h▸c9l _)
def lkL (T:List (Nat×D)):List (Nat×D)→Option (List D)
 | []=>some []
 |(d,_)::r=>match o4 T d,lkL T r with
  |some x,some l=>some (x::l)
  |_,_=>none
def bkL (n:Nat):List (Nat×D)→List D
 | []=> []
 |(_,s)::r=>a0i n s::bkL n r
theorem tA {n:Nat} {T:List (Nat×D)}:∀ {r:List (Nat×D)},lkL T r=some (bkL n r)→b1q n T r
 | [],_=>trivial
 |(d,s)::r,h=>by
  simp only [lkL,bkL]at h;split at h
  · rename_i x l h1 h2;simp only [M9,a2I]at h;obtain⟨rfl,rfl⟩:=h;exact⟨tR h1,tA h2⟩
  · cases h
def lkH (n:Nat) (H:Hy):Hy→Option Hy
 | []=>some []
 |(k, .row z m l ty)::r=>match Nat.blt k n,lkH n H r with
  |true,some q=>match j7 H k with|some e=>some ((k,e)::q)|none=>none
  |false,some q=>some ((k, .row z 0 [] ty)::q)
  |_,none=>none
 |(k, .blk _ _)::r=>match j7 H k,lkH n H r with
  |some e,some q=>some ((k,e)::q)
  |_,_=>none
 |(k, .mp _ _)::r=>match j7 H k,lkH n H r with
  |some e,some q=>some ((k,e)::q)
  |_,_=>none
def bkH (n:Nat):Hy→Hy
 | []=> []
 |(k, .blk cs ty)::r=>(k, .blk (a0s n cs) ty)::bkH n r
 |(k,e)::r=>(k,e)::bkH n r
theorem hA {n:Nat} {H:Hy}:∀ {r:Hy},lkH n H r=some (bkH n r)→a9r n H r
 | [],_=>trivial
 |(k, .row z m l ty)::r,h=>by
  simp only [lkH,bkH]at h;cases hq:lkH n H r with
  |none=>rw [hq]at h;split at h<;>simp_all
  |some q=>
   rw [hq]at h;cases hb:Nat.blt k n with
   |true=>
    rw [hb]at h;cases hf:j7 H k with
    |none=>rw [hf]at h;cases h
    |some e=>
     rw [hf]at h;simp only [M9,a2I,a2a,P1]at h;obtain⟨rfl,rfl⟩:=h;exact⟨by simp only [b3K,hb];exact⟨m,l,hf,rfl,rfl⟩,hA hq⟩
   |false=>
    rw [hb]at h;simp only [M9,a2I,a2a,P1,E.row.injEq,and_true]at h;obtain⟨⟨rfl,rfl⟩,rfl⟩:=h;exact⟨by unfold b3K;rw [hb];exact⟨rfl,rfl⟩,hA hq⟩
 |(k, .blk cs ty)::r,h=>by
  simp only [lkH,bkH]at h;split at h
  · rename_i e q h1 h2;simp only [M9,a2I,a2a,P1]at h;obtain⟨rfl,rfl⟩:=h;exact⟨⟨_,h1,a7O.refl _⟩,hA h2⟩
  · cases h
 |(k, .mp es ty)::r,h=>by
  simp only [lkH,bkH]at h;split at h
  · rename_i e q h1 h2;simp only [M9,a2I,a2a,P1]at h;obtain⟨rfl,rfl⟩:=h;exact⟨⟨_,h1,rfl⟩,hA h2⟩
  · cases h
theorem sb {st st':Sy} (n:Nat) (h1:a7U n st'=true:=by exact rfl) (h2:lkL st.T st'.T=some (bkL n st'.T):=by exact rfl) (h3:a9r n st.H st'.H:=by first|exact hA rfl|repeat' (first|exact hR rfl|exact hW rfl|exact⟨rfl,rfl⟩|exact trivial|refine⟨?_, ?_⟩)):F6 st st':= .of n h1 (tA h2) h3
theorem er {α β:Type} {c:α→List D} {z:Nat} {l:List α} {i:Int} {k:α→Option β} {r:β} {P:List D→Prop} (h:Option.bind (idx l i) k=some r) (hk:∀x,k x=some r→P (c x)) (hc:∀x,(c x).length=z:=by exact fun _=>rfl):∃cs,(el (l.flatMap c) z i.toNat=cs∧i.toNat<l.length)∧P cs:=by
 obtain⟨x,hx,hm⟩:=j0 h;exact⟨_,c2q hc hx,hk x hm⟩
theorem ei {α β:Type} {c:α→List D} {z:Nat} {l:List α} {i:Int} {k:α→Option β} {r:β} {P:List D→Prop} (h:Option.bind (idx l i) k=some r) (hk:∀x,k x=some r→P (c x)) (hc:∀x,(c x).length=z:=by exact fun _=>rfl):∃cs,(el (l.flatMap c) z i.toNat=cs∧0≤i∧i<l.length)∧P cs:=by
 obtain⟨x,hx,hm⟩:=j0 h;exact⟨_,c5z hc hx,hk x hm⟩
theorem eb {α β:Type} {l:List α} {i:Int} {k:α→Option β} {r:β} {P:Prop} (h:Option.bind (idx l i) k=some r) (hk:∀x,k x=some r→P):(0≤i∧i<l.length)∧P:=by
 obtain⟨x,hx,hm⟩:=j0 h;exact⟨a5r hx,hk x hm⟩
theorem b4c {S:List D}:∀ {n:Nat} {m r:List D},takeD n m=some r→takeD n (m++S)=some r
 |0,_,_,h=>h
 |n+1, [],_,h=>by simp [takeD]at h
 |n+1,x::m,r,h=>by
  cases x<;>simp only [takeD,S0]at h⊢<;>first|exact h|(cases ht:takeD n m with
   |none=>rw [ht]at h;cases h
   |some q=>rw [ht]at h;rw [b4c ht];exact h)
theorem b3V {S:List D} {n:Nat} {r:List D}:∀ {off:Nat} {m:List D},takeD n (dropD off m)=some r→takeD n (dropD off (m++S))=some r
 |0,_,h=>b4c h
 |off+1, [],h=>by
  cases n with
  |zero=>exact h
  |succ n=>simp [dropD,takeD]at h
 |off+1,_::m,h=>b3V (off:=off) (m:=m) h
theorem b3o {off:Nat} {m:List D}:∀(P:List D),dropD (P.length+off) (P++m)=dropD off m
 | []=>by rw [show([]:List D).length+off=off by simp];rfl
 |x::P=>by rw [show(x::P).length+off=(P.length+off)+1 by simp;omega];exact b3o P
theorem b0y {S:List D}:∀ {off:Nat} {l m r:List D},over off l m=some r→over off l (m++S)=some (r++S)
 |0, [],_,_,h=>by simp only [over,M9]at h⊢;rw [h]
 |0,x::l, [],_,h=>by simp [over]at h
 |0,x::l,y::m,r,h=>by
  simp only [over,S0]at h⊢;cases ht:over 0 l m with
  |none=>rw [ht]at h;cases h
  |some q=>rw [ht]at h;cases h;rw [b0y ht];rfl
 |off+1,l, [],_,h=>by simp [over]at h
 |off+1,l,y::m,r,h=>by
  simp only [over,S0]at h⊢;cases ht:over off l m with
  |none=>rw [ht]at h;cases h
  |some q=>rw [ht]at h;cases h;rw [b0y ht];rfl
theorem b6Q {off:Nat} {l m r:List D} (h:over off l m=some r):∀(P:List D),over (P.length+off) l (P++m)=some (P++r)
 | []=>by rw [show([]:List D).length+off=off by simp];exact h
 |x::P=>by
  rw [show(x::P).length+off=(P.length+off)+1 by simp;omega];simp only [over,S0,b6Q h P]
theorem a3M {α:Type} {c:α→List D} {z:Nat} (hc:∀x,(c x).length=z):∀(l:List α),(l.flatMap c).length=l.length*z
 | []=>by simp
 |x::l=>by simp only [L3,N0,P0,hc,a3M hc l,J3];omega
theorem b3d {α:Type} {xs:List α} {i:Int} {e:α} (h:idx xs i=some e):∃A B,xs=A++e::B∧A.length=i.toNat∧∀y,xs.set i.toNat y=A++y::B:=by
 obtain⟨h1,h2⟩:=a2l h;obtain⟨h3,h4⟩:=I5.1 h2;refine⟨xs.take i.toNat,xs.drop (i.toNat+1), ?_,by simp;omega,fun y=> ?_⟩
 · rw [←h4];simp
 · rw [List.set_eq_take_append_cons_drop,e9 h3]
theorem ldx {α:Type} {c:α→List D} {z n:Nat} {xs:List α} {i:Int} {e:α} {pre post cs r:List D} {b off o:Nat} (hz:∀x,(c x).length=z) (hx:idx xs i=some e) (hb:pre.length=b) (hcs:cs=pre++(xs.flatMap c++post)) (ho:o=b+i.toNat*z+off) (hr:takeD n (dropD off (c e))=some r):takeD n (dropD o cs)=some r:=by
 obtain⟨A,B,rfl,hA,_⟩:=b3d hx;have hl:(pre++A.flatMap c).length=b+i.toNat*z:=by rw [N0,a3M hz,hA,hb]
 rw [hcs,ho,←hl,show pre++((A++e::B).flatMap c++post)=(pre++A.flatMap c)++(c e++(B.flatMap c++post)) by simp,b3o];exact b3V hr
theorem stx {α:Type} {c:α→List D} {z:Nat} {xs ys:List α} {i:Int} {e y:α} {pre post cs cs' l:List D} {b off o:Nat} (hz:∀x,(c x).length=z) (hx:idx xs i=some e) (hb:pre.length=b) (hcs:cs=pre++(xs.flatMap c++post)) (ho:o=b+i.toNat*z+off) (hl:over off l (c e)=some (c y)) (hcs':cs'=pre++(ys.flatMap c++post)) (hy:xs.set i.toNat y=ys):over o l cs=some cs':=by
 obtain⟨A,B,rfl,hA,hs⟩:=b3d hx;have hn:(pre++A.flatMap c).length=b+i.toNat*z:=by rw [N0,a3M hz,hA,hb]
 rw [hs]at hy;subst hy;rw [hcs,hcs',ho,←hn,show pre++((A++e::B).flatMap c++post)=(pre++A.flatMap c)++(c e++(B.flatMap c++post)) by simp,show pre++((A++y::B).flatMap c++post)=(pre++A.flatMap c)++(c y++(B.flatMap c++post)) by simp];exact b6Q (b0y hl) _
def c2L {α:Type} (i:Int) (y:α):Nat→List α→List α
 |_, []=> []
 |k,x::l=>(if(i==(k:Int))=true then y else x)::c2L i y (k+1) l
theorem b9U {α:Type} {i:Int} {y:α}:∀(l:List α) (k:Nat),0≤i→c2L i y k l=if i<k then l else l.set (i.toNat-k) y
 | [],k,_=>by simp [c2L]
 |x::l,k,h=>by
  simp only [c2L];rw [b9U l (k+1) h];by_cases h1:i<(k:Int)
  · rw [i6 (by rw [P6];omega),e9 (by omega),e9 h1]
  · by_cases h2:i=(k:Int)
    · rw [e9 (by rw [P6];exact h2),e9 (by omega),i6 h1,show i.toNat-k=0 by omega];rfl
    · rw [i6 (by rw [P6];exact h2),i6 (by omega),i6 h1,show i.toNat-k=(i.toNat-(k+1))+1 by omega];rfl
theorem b5R {α:Type} {xs:List α} {i:Int} {e y:α} (hx:idx xs i=some e):xs.set i.toNat y=c2L i y 0 xs:=by
 have h:=(a5r hx).1;rw [b9U xs 0 h,i6 (by omega)];rfl
theorem a8Z {P:Program} {e esz:Nat} (w:World) (dT sT ty:TypeId) (g o dLen dCap:Nat) (a:Addr) (sLen sCap:Nat) (cur:Array Value) (t:TypeId) (cs:List Value)
 (hu:P.underlying dT=some (.slice e)) (hs:∀w:World,(sizeOf e).run P w= .ok esz w)
 (hg:w.heap[g]?=some (.cells cur t (0,0))) (hn:cs.length=Nat.min sLen dLen*esz)
 (hsrc:∀j v,cs[j]?=some v→w.cell? (a.add j)=some v) (hfit:o+cs.length≤cur.size) (h1:∀v∈cs,v.oneCell'=true):
 (Builtin.copy_ #[dT,sT] ty #[.slice (some ⟨g,o,none⟩) dLen dCap, .slice (some a) sLen sCap]).run P w=
  .ok (goInt (Nat.min sLen dLen)) (w.setRow g (cur.toList.take o++cs++cur.toList.drop (o+cs.length)).toArray):=by
 have hl:=run_loadCells_list (P:=P) w a cs hsrc;have hst:=run_storeCells_at (P:=P) g o t cs 0 cur w hg (by simpa using hfit) h1
 rw [hn]at hl;simp [Builtin.copy_,run_underlying hu,Builtin.lenOf,Builtin.firstCells,hs,hl,hst]
theorem a8n {P:Program} (w:World) (tS tR e:TypeId) (ht:P.underlying tS=some (.slice e)) (size:Nat) (hz:∀w,(Go.sizeOf e).run P w= .ok size w)
 (a b:Addr) (la ca lb cb:Nat) (hne:a.block≠b.block) {cA cB:Array Value} {tA tB:TypeId} {fA:Nat×Nat}
 (hsa:w.heap[a.block]?=some (.cells cA tA fA)) (hsb:w.heap[b.block]?=some (.cells cB tB (0,0))) (hkA:cA.size≠0) (hkB:cB.size≠0):
 (Extern.SlicesOverlaps.overlaps #[tS,tS] #[tR] #[.slice (some a) la ca, .slice (some b) lb cb]).run P w= .ok (.bool false) w:=by
 have hnb:(a.block !=b.block)=true:=by simpa using hne
 have hnb':(a.block==b.block)=false:=by simpa using hne
 have sa:w.shape? a.block=some (tA,cA.size):=by simp [World.shape?,hsa]
 have sb:w.shape? b.block=some (tB,cB.size):=by simp [World.shape?,hsb]
 have fb:w.frozen? b=false:=by simp [World.frozen?,hsb]
 have fe:w.frozen? { block:=b.block,off:=cB.size}=false:=by simp [World.frozen?,hsb]
 change Sem.run P (α:=Value) (do
  let some t:=(#[tS,tS]:Array TypeId)[0]?|stuck "slices.overlaps: no parameter types"
  let .slice elem←underlying t|stuck "slices.overlaps: slice type expected"
  let size←sizeOf elem
  match(some a:Option Addr),(some b:Option Addr)with
  |some a,some b=>
   if la=0∨lb=0∨size=0 then pure (Value.bool false)
   else if a.block !=b.block&&(←frozen a)&&(←frozen b)then unsupported .addressObserved
   else do
    if a.block !=b.block then do
     noView a;noView b
     if←mayBeOne a b then return Value.bool ((←choose (.extern "sameAddr.stringBytes" 2))==1)
    pure (Value.bool (a.block==b.block&&a.off<b.off+lb*size&&b.off<a.off+la*size))
  |_,_=>pure (Value.bool false)) w=_
 by_cases h0:la=0∨lb=0∨size=0
 · simp [run_underlying ht,hz,h0]
 · obtain⟨k,hk⟩:∃k,cB.size=k+1:=⟨cB.size-1,by omega⟩;obtain⟨k',hk'⟩:∃k,cA.size=k+1:=⟨cA.size-1,by omega⟩;rw [hk]at sb fe;rw [hk']at sa
   cases hfa:w.frozen? a<;>cases hfe:w.frozen? { block:=a.block,off:=k'+1}<;>
    simp [run_underlying ht,hz,h0,hnb,hnb',frozen,noView,viewAt,mayBeOne,stringish,shape,Sem.run,sa,sb,fb,fe,hfa,hfe]
def puts (a:Act):List (Nat×Value)→Act
 | []=>a
 |(d,v)::L=>(puts a L).put (some d) v
def lk:List (Nat×Value)→Nat→Option Value
 | [],_=>none
 |(d,v)::L,e=>if Nat.beq d e then some v else lk L e
def lkA (a:Act) (L:List (Nat×Value)) (e:Nat):Option Value:=match lk L e with
 |some v=>some v
 |none=>a.tmps[e]?
def inB (n:Nat):List (Nat×Value)→Bool
 | []=>true
 |(d,_)::L=>Nat.blt d n&&inB n L
theorem a1W {a:Act}:∀(L:List (Nat×Value)),(puts a L).tmps.size=a.tmps.size
 | []=>rfl
 |(d,v)::L=>by rw [puts,c2f,a1W L]
theorem a3x {a:Act}:∀(L:List (Nat×Value)),(puts a L).defers=a.defers
 | []=>rfl
 |(d,v)::L=>by rw [puts,c4N,a3x L]
theorem L0 {a:Act}:∀(L:List (Nat×Value)) (e:Nat),inB a.tmps.size L=true→(puts a L).tmps[e]?=lkA a L e
 | [],e,_=>rfl
 |(d,v)::L,e,h=>by
  simp only [inB,y6]at h;have hd:d<a.tmps.size:=by simpa [a1h]using h.1
  rw [puts];unfold lkA lk;cases hb:Nat.beq d e with
  |true=>
   have:=Nat.eq_of_beq_eq_true hb;subst this;simp only [C6];exact c4D (by rw [a1W];exact hd)
  |false=>
   have:d≠e:=Nat.ne_of_beq_eq_false hb;rw [b8J this,L0 L e h.2];simp [lkA]
theorem A7 {a:Act} {L:List (Nat×Value)} {e N:Nat} {v:Value} (hs:a.tmps.size=N) (hb:inB N L=true) (h:lkA a L e=some v):(puts a L).eval (.tmp e)=v:=c2I (by rw [L0 L e (hs▸hb),h])
theorem A0 {P:Program} {ops:Array Oper} {Q:Exit→Act→World→Prop} {o:Oper} {rest:List Oper} {a:Act} {L:List (Nat×Value)} {w w':World} {v:Value} {d:Nat} (hg:o.guard=none) (hd:o.dst=some d) (h:(execOp (puts a L).eval o).run P w= .ok (.value v) w')
 (hn:wpList P ops Q rest (puts a ((d,v)::L)) w'):wpList P ops Q (o::rest) (puts a L) w:=by
 refine b8U hg h ?_;rw [hd];exact hn
theorem a1F {P:Program} {ops:Array Oper} {Q:Act→Prop} {o:Oper} {rest:List Oper} {a:Act} {L:List (Nat×Value)} {w:World} {v:Value} {d:Nat} (hg:o.guard=none) (hd:o.dst=some d) (h:(execOp (puts a L).eval o).run P w= .ok (.value v) w)
 (hn:wpStill P ops w Q rest (puts a ((d,v)::L))):wpStill P ops w Q (o::rest) (puts a L):=by
 have hw:Region.wanted o (yielded ops (puts a L).tmps)=true:=by simp [Region.wanted,hg]
 simp only [wpStill,hw,C6,Oper.still,h,Oper.stillUpon_value,hd];exact hn
section
variable {P : Program} {a : Act} {L : List (Nat × Value)} {o : Oper} {w : World} {x y N : Nat} {u v : Value}
theorem S3 (hs:a.tmps.size=N) (hb:inB N L=true) (ho:o.op= .move (.tmp x)) (hx:lkA a L x=some v):(execOp (puts a L).eval o).run P w= .ok (.value v) w:=by
 simp [execOp,ho,A7 hs hb hx]
theorem c4U (hs:a.tmps.size=N) (hb:inB N L=true) (ho:o.op= .assign (.tmp x)) (hx:lkA a L x=some v):(execOp (puts a L).eval o).run P w= .ok (.value v) w:=by
 simp [execOp,ho,A7 hs hb hx]
theorem b3r {t t':TypeId} {p q:Nat} (hs:a.tmps.size=N) (hb:inB N L=true) (ho:o.op= .binOp .add t (.tmp x) (.tmp y) t') (hx:lkA a L x=some (.int .i64 (p:Int))) (hy:lkA a L y=some (.int .i64 (q:Int))) (h:p+q≤9223372036854775807):
 (execOp (puts a L).eval o).run P w= .ok (.value (.int .i64 ((p+q:Nat):Int))) w:=by
 have e:IntKind.i64.wrap ((p:Int)+(q:Int))=((p+q:Nat):Int):=by rw [IntKind.wrap_i64];omega
 simp [execOp,ho,A7 hs hb hx,A7 hs hb hy,eqGuard,binOp,Op.intArith,e]
theorem c7y {t t':TypeId} {p q:Nat} (hs:a.tmps.size=N) (hb:inB N L=true) (ho:o.op= .binOp .sub t (.tmp x) (.tmp y) t') (hx:lkA a L x=some (.int .i64 (p:Int))) (hy:lkA a L y=some (.int .i64 (q:Int))) (hq:q≤p) (h:p≤9223372036854775807):
 (execOp (puts a L).eval o).run P w= .ok (.value (.int .i64 ((p-q:Nat):Int))) w:=by
 have e:IntKind.i64.wrap ((p:Int)-(q:Int))=((p-q:Nat):Int):=by rw [IntKind.wrap_i64];omega
 simp [execOp,ho,A7 hs hb hx,A7 hs hb hy,eqGuard,binOp,Op.intArith,e]
theorem c7a {t t':TypeId} {p q:Nat} (hs:a.tmps.size=N) (hb:inB N L=true) (ho:o.op= .binOp .gtr t (.tmp x) (.tmp y) t') (hx:lkA a L x=some (.int .i64 (p:Int))) (hy:lkA a L y=some (.int .i64 (q:Int))):
 (execOp (puts a L).eval o).run P w= .ok (.value (.bool (decide (q<p)))) w:=by
 simp [execOp,ho,A7 hs hb hx,A7 hs hb hy,eqGuard,binOp,Op.intCmp]
theorem c8a {t:TypeId} {c:Bool} (hs:a.tmps.size=N) (hb:inB N L=true) (ho:o.op= .unOp .not t (.tmp x)) (hx:lkA a L x=some (.bool c)):
 (execOp (puts a L).eval o).run P w= .ok (.value (.bool (!c))) w:=by
 simp [execOp,ho,A7 hs hb hx,Op.unary]
section
variable {t e esz bytes : Nat} {i : TI} {g n cap m : Nat}
theorem b7J (hi:I8 P t i) (hd:i.d= .slice e esz bytes) (hs:a.tmps.size=N) (hb:inB N L=true) (ho:o.op= .slice t (.tmp x) (some (.tmp y)) none none) (hx:lkA a L x=some (.slice (some ⟨g,0,none⟩) n cap)) (hy:lkA a L y=some (.int .i64 (m:Int))) (hm:m<n) (hnc:n≤cap):
 (execOp (puts a L).eval o).run P w= .ok (.value (.slice (some ⟨g,m*esz,none⟩) (n-m) (cap-m))) w:=by
 obtain⟨off,h1,h2⟩:=c2O (X:=⟨P, [],0, [], [], [], [], [], []⟩) (g:=g) hi hd (show m≤n by omega) hnc w;obtain rfl:off=m*esz:=by omega
 simp only [execOp,ho,A7 hs hb hx,A7 hs hb hy,Option.map,Sem.run_bind,h1]
 try rfl
theorem c7K (hi:I8 P t i) (hd:i.d= .slice e esz bytes) (hs:a.tmps.size=N) (hb:inB N L=true) (ho:o.op= .slice t (.tmp x) none (some (.tmp y)) none) (hx:lkA a L x=some (.slice (some ⟨g,0,none⟩) n cap)) (hy:lkA a L y=some (.int .i64 (m:Int))) (hm:m≤cap):
 (execOp (puts a L).eval o).run P w= .ok (.value (.slice (some ⟨g,0,none⟩) m cap)) w:=by
 have h1:=c5M (X:=⟨P, [],0, [], [], [], [], [], []⟩) (g:=g) (n:=n) hi hd hm w;simp only [execOp,ho,A7 hs hb hx,A7 hs hb hy,Option.map,Sem.run_bind,h1];rfl
theorem b3W {b:Builtin} {tys:Array TypeId} {xs:List Nat} {vals:List Value} {v:Value} {w':World} (ho:o.op= .call { callee:= .builtin b,args:=(xs.map Operand.tmp).toArray,argTypes:=tys}) (hs:a.tmps.size=N) (hb:inB N L=true)
 (hx:xs.map (fun x=>lkA a L x)=vals.map some) (h:∀cs,(builtin b tys o.type cs vals.toArray).run P w= .ok (.value v) w'):(execOp (puts a L).eval o).run P w= .ok (.value v) w':=by
 have he:(xs.map Operand.tmp).toArray.map (puts a L).eval=vals.toArray:=by
  apply F9;simp only [List.map_toArray,List.map_map];clear ho h
  induction xs generalizing vals with
  |nil=>cases vals with
   |nil=>rfl
   |cons=>simp at hx
  |cons x xs ih=>cases vals with
   |nil=>simp at hx
   |cons u us=>
    simp only [C4,a2I]at hx;simp only [C4,Function.comp,A7 hs hb hx.1];rw [←ih hx.2]
 obtain⟨cs,hr⟩:=L6 (X:=cx (⟨P, [],0, [], [], [], [], [], []⟩:Cy) w []) (a:=puts a L) ho he w;have hr':(execOp (puts a L).eval o).run P w=_:=hr;rw [hr'];exact h cs
theorem c8C {f:FuncId} {tys:Array TypeId} {x1 x2:Nat} {v1 v2 v:Value} {w':World} (ho:o.op= .call { callee:= .value (.func f),args:= #[.tmp x1, .tmp x2],argTypes:=tys}) (hs:a.tmps.size=N) (hb:inB N L=true)
 (h1:lkA a L x1=some v1) (h2:lkA a L x2=some v2) (h:(callFunc f #[v1,v2]).run P w= .ok (.value v) w'):(execOp (puts a L).eval o).run P w= .ok (.value v) w':=by
 simp only [execOp,ho,resolve,invoke,Sem.run_bind,Sem.run_pure,Result.andThen_ok,List.map_toArray,C4,a6q,A7 hs hb h1,A7 hs hb h2]
 first|exact h|(simp [Act.eval,Operand.func,h];done)|simp [Act.eval,callValue,h]
end
end
theorem c1l {α:Type} (c ls C1:List α) (I M N:Nat) (hI:I≤N) (hl:ls.length=M) (hc:N+M≤c.length) (h1:C1=c.take (I+M)++(c.take N).drop I++c.drop (I+M+(N-I))):
 (C1.take I++ls++C1.drop (I+M)).take (N+M)=c.take I++ls++(c.take N).drop I:=by
 have a1:C1.take I=c.take I:=by
  rw [h1,a2N,b3P (by simp;omega),List.take_take,a1j (by omega)]
 have a2:C1.drop (I+M)=(c.take N).drop I++c.drop (I+M+(N-I)):=by
  rw [h1,a2N,List.drop_left' (by simp;omega)]
 rw [a1,a2,←a2N];exact List.take_left' (by simp [hl];omega)
theorem c1I {α:Type} (c ls C1 C2:List α) (I M N:Nat) (hI:I≤N) (hl:ls.length=M) (hc:N≤c.length) (h0:C1.take I=c.take I) (hn:N+M≤C1.length) (h2:C2=C1.take I++ls++C1.drop (I+M)):
 (C2.take (I+M)++(c.take N).drop I++C2.drop (I+M+(N-I))).take (N+M)=c.take I++ls++(c.take N).drop I:=by
 have a1:C2.take (I+M)=c.take I++ls:=by
  rw [h2,h0];exact List.take_left' (by simp [hl];omega)
 rw [a1];exact List.take_left' (by simp [hl];omega)
theorem c0N {P:Program} {t e esz bytes tn:Nat} {i ie:TI} (hi:I8 P t i) (hd:i.d= .slice e esz bytes) (hie:I8 P e ie) (hiz:ie.n=esz) (h1:0<esz) (hn:P.underlying tn=some (.int .i64)) {w:World} {g cap j k:Nat} {cur:Array Value}
 (hg:w.heap[g]?=some (.cells cur e (0,0))) (hcs:cur.size=cap*esz) (hj:j≤cap) (hk:0<k) (hroom:cap<j+k) (hb:(j+k)*bytes≤140737488355328) (hm:j+k≤maxLen):
 ∃C1 c',(∀ty,(Builtin.append_ #[t,tn] ty #[.slice (some ⟨g,0,none⟩) j cap, .int .i64 (k:Int)]).run P w= .ok (.slice (some ⟨w.heap.size,0,none⟩) (j+k) c') (w.drew.alloc (.cells C1 e)))∧C1.size=c'*esz∧j+k≤c'∧c'≤maxLen∧C1.toList.take (j*esz)=cur.toList.take (j*esz):=by
 obtain⟨hu,inf,hinf,hsz,hby⟩:=hi.slice hd;obtain⟨inf',z,hinf',hsz',hz,hzc⟩:=hie.info;obtain rfl:inf=inf':=by rw [hinf]at hinf';exact D6 hinf'
 have hzs:z.cells.size=esz:=by rw [←a4B,hzc,hie.zn,hiz]
 have hjc:j*esz≤cur.size:=by rw [hcs];exact Z6 _ hj
 have hm':j+k≤9223372036854775807:=by simpa [maxLen]using hm
 have hol:(cur.toList.take (j*esz)).length=j*esz:=by simp;omega
 have hold:=run_firstCells_some (P:=P) w.drew inf.size j ⟨g,0,none⟩ j cap (cur.toList.take (j*esz)) (by rw [hol,hsz]) (fun q v hq=>by
  have hlt:q<j*esz:=by have:=(I5.1 hq).1;omega
  rw [G0];rw [List.getElem?_take_of_lt hlt]at hq;have hq':cur[q]?=some v:=by simpa using hq
  show(w.cell? ⟨g,0+q,none⟩)=some v;simp [World.cell?,hg,hq'])
 have hkb:k*inf.bytes≤281474976710656:=by
  have:k*inf.bytes≤(j+k)*inf.bytes:=Z6 _ (by omega);rw [hby]at this⊢;omega
 refine⟨_,grownCap w (j+k) cap e,fun ty=>Lib.run_append_grow_zeros w t tn ty e inf z .i64 .i64 hu hn hinf hz (some ⟨g,0,none⟩) j cap _ hold k hk (by omega) hroom (by omega) hkb (by rw [hby];exact growslice_fits hroom hb), ?_,grownCap_ge _ _ _ _,grownCap_le_maxLen _ _ _ _ hm, ?_⟩
 · have:=grownCap_ge w (j+k) cap e;simp only [Array.size_append,List.size_toArray,hol,Builtin.zeroCells,Array.size_map,Array.size_range,hzs];rw [←J3,←J3];congr 1;omega
 · simp only [Array.toList_append,a2N];exact List.take_left' hol
end Go.Sx
set_option maxRecDepth 100000
set_option maxHeartbeats 1000000
namespace Go.Sx
open Go Go.RowKit
theorem cell_of_heap {w w':World} {a:Addr} (h:w'.heap[a.block]?=w.heap[a.block]?) (hs:a.spot=none):w'.cell? a=w.cell? a:=by
 simp [World.cell?,h]
structure b7u (w W:World) (g esz n m:Nat) (e:TypeId) (R:List Value) (v':Value):Prop where
 ex:∃g' c' C,v'= .slice (some ⟨g',0,none⟩) (n+m) c'∧W.heap[g']?=some (.cells C e (0,0))∧n+m≤c'∧c'≤maxLen∧C.size=c'*esz∧C.toList.take ((n+m)*esz)=R∧(g'=g∨w.heap.size≤g')
 fx:Fx [g] w W
structure b7Y (X:Cy) (a:Act) (w:World) (t tI e esz bytes g n cap i m mc:Nat) (sa:Addr) (ls cur:List Value):Prop where
 sz:a.tmps.size=95
 t0:a.tmps[0]?=some (.slice (some ⟨g,0,none⟩) n cap)
 t1:a.tmps[1]?=some (.int .i64 (i:Int))
 t2:a.tmps[2]?=some (.slice (some sa) m mc)
 t7:a.tmps[7]?=some (.int .i64 (m:Int))
 t8:a.tmps[8]?=some (.int .i64 (n:Int))
 hi:i<n
 hm:0<m
 hn:n≤cap
 hcm:cap≤maxLen
 hnm:n+m≤maxLen
 hb:(n+m)*bytes≤140737488355328
 hg:w.heap[g]?=some (.cells cur.toArray e (0,0))
 hcs:cur.length=cap*esz
 hll:ls.length=m*esz
 hl1:∀v,v∈ls→v.oneCell'=true
 hc1:∀v,v∈cur.take (n*esz)→v.oneCell'=true
 hne:sa.block≠g
 hsl:∃cA tA fA,w.heap[sa.block]?=some (.cells cA tA fA)∧cA.size≠0
 hsv:∀W:World,W.heap[sa.block]?=w.heap[sa.block]?→∀j v,ls[j]?=some v→W.cell? (sa.add j)=some v
 hint:X.P.underlying tI=some (.int .i64)
 hz:0<esz
theorem b1O {a:Act} {L:List (Nat×Value)}:∀(L':List (Nat×Value)),puts (puts a L) L'=puts a (L'++L)
 | []=>rfl
 |(d,v)::L'=>by rw [S0,puts,puts,b1O L']
section
variable {X : Cy} {Q : Exit → Act → World → Prop} {t tI tB e esz bytes : Nat} {i ie : TI} {a : Act} {w : World} {g n cap ix m mc : Nat} {sa : Addr} {ls cur : List Value}
structure c3Q (P:Program) (t:TypeId) (ov:FuncId):Prop where
 ex:∃fn tR,P.funcs[ov]?=some fn∧(fn.name== "runtime.NumGoroutine")=false∧fn.body.isNone=true∧Extern.findNext fn=none∧Extern.find fn=some (Extern.SlicesOverlaps.overlaps #[t,t] #[tR])
theorem b0n {P:Program} {e esz:Nat} (w:World) (dT sT ty:TypeId) (g o dLen dCap:Nat) (a:Addr) (sLen sCap:Nat) (cur:List Value) (t:TypeId) (cs:List Value)
 (hu:P.underlying dT=some (.slice e)) (hs:∀w:World,(sizeOf e).run P w= .ok esz w)
 (hg:w.heap[g]?=some (.cells cur.toArray t (0,0))) (hn:cs.length=Nat.min sLen dLen*esz)
 (hsrc:∀j v,cs[j]?=some v→w.cell? (a.add j)=some v) (hfit:o+cs.length≤cur.length) (h1:∀v,v∈cs→v.oneCell'=true):
 (Builtin.copy_ #[dT,sT] ty #[.slice (some ⟨g,o,none⟩) dLen dCap, .slice (some a) sLen sCap]).run P w=
  .ok (goInt (Nat.min sLen dLen)) (w.setRow g (cur.take o++cs++cur.drop (o+cs.length)).toArray):=by
 have:=a8Z w dT sT ty g o dLen dCap a sLen sCap cur.toArray t cs hu hs hg hn hsrc (by simpa using hfit) h1
 simpa using this
theorem c6c {T22 T23 T24 T25 T26 T27 T28 T29 T30:TypeId} {p22 p23 p24 p25 p26 p27 p28 p29 p30:String} {r11:Nat} {v:Value} {W1:World} {g1 n1 c1 g2 n2 c2:Nat} (hP:POK X.P X.tt) (hti:I8 X.P t i) (hd:i.d= .slice e esz bytes) (hs:a.tmps.size=95) (h9:a.tmps[9]?=some (.slice (some ⟨g1,0,none⟩) (n1) (c1))) (h0:a.tmps[0]?=some (.slice (some ⟨g2,0,none⟩) (n2) (c2))) (h1:a.tmps[1]?=some (.int .i64 ((ix:Nat):Int))) (h7:a.tmps[7]?=some (.int .i64 ((m:Nat):Int)))
 (q1:ix+m<n1) (q2:n1≤c1) (q3:ix<n2) (q4:n2≤c2) (q5:ix+m≤9223372036854775807) (hcp:∀ty,(Builtin.copy_ #[t,t] ty #[.slice (some ⟨g1,(ix+m)*esz,none⟩) (n1-(ix+m)) (c1-(ix+m)), .slice (some ⟨g2,ix*esz,none⟩) (n2-ix) (c2-ix)]).run X.P { w with drawn:=w.drawn+1}= .ok v W1)
 (hQ:Q .normal (puts a [(54,v),(53, .slice (some ⟨g2,ix*esz,none⟩) (n2-ix) (c2-ix)),(52, .int .i64 ((ix:Nat):Int)),(51, .slice (some ⟨g2,0,none⟩) (n2) (c2)),(50, .slice (some ⟨g1,(ix+m)*esz,none⟩) (n1-(ix+m)) (c1-(ix+m))),(49, .int .i64 ((ix+m:Nat):Int)),(48, .int .i64 ((m:Nat):Int)),(47, .int .i64 ((ix:Nat):Int)),(46, .slice (some ⟨g1,0,none⟩) (n1) (c1))]) W1):(Code.region r11 #[{ dst:=some 46,op:= .move (.tmp 9),type:=T22,pos:=p22,after:= #[],guard:=none},
 { dst:=some 47,op:= .move (.tmp 1),type:=T23,pos:=p23,after:= #[],guard:=none},
 { dst:=some 48,op:= .move (.tmp 7),type:=T24,pos:=p24,after:= #[],guard:=none},
 { dst:=some 49,op:= .binOp .add tI (.tmp 47) (.tmp 48) tI,type:=T25,pos:=p25,after:= #[{ on:=1,ground:= .data}, { on:=2,ground:= .data}],guard:=none},
 { dst:=some 50,op:= .slice t (.tmp 46) (some (.tmp 49)) none none,type:=T26,pos:=p26,after:= #[{ on:=0,ground:= .data}, { on:=3,ground:= .data}],guard:=none},
 { dst:=some 51,op:= .move (.tmp 0),type:=T27,pos:=p27,after:= #[],guard:=none},
 { dst:=some 52,op:= .move (.tmp 1),type:=T28,pos:=p28,after:= #[],guard:=none},
 { dst:=some 53,op:= .slice t (.tmp 51) (some (.tmp 52)) none none,type:=T29,pos:=p29,after:= #[{ on:=5,ground:= .data}, { on:=6,ground:= .data}],guard:=none},
 { dst:=some 54,op:= .call { callee:= .builtin .copy,args:= #[.tmp 50, .tmp 53],argTypes:= #[t,t]},type:=T30,pos:=p30,after:= #[{ on:=4,ground:= .data}, { on:=7,ground:= .data}],guard:=none}] true:Code).wp X.P Q a w:=by
 refine wp_region_still_tail 8 hP.mix (by kernel_rfl) ?_;show wpStill _ _ _ _ [_,_,_,_,_,_,_,_] (puts a []);refine a1F (v:= .slice (some ⟨g1,0,none⟩) (n1) (c1)) rfl rfl (S3 hs (by rfl) (x:=9) rfl (by exact h9)) ?_;refine a1F (v:= .int .i64 ((ix:Nat):Int)) rfl rfl (S3 hs (by rfl) (x:=1) rfl (by exact h1)) ?_;refine a1F (v:= .int .i64 ((m:Nat):Int)) rfl rfl (S3 hs (by rfl) (x:=7) rfl (by exact h7)) ?_;refine a1F (v:= .int .i64 ((ix+m:Nat):Int)) rfl rfl (b3r (x:=47) (y:=48) hs (by rfl) rfl (by exact rfl) (by exact rfl) (by omega)) ?_;refine a1F (v:= .slice (some ⟨g1,(ix+m)*esz,none⟩) (n1-(ix+m)) (c1-(ix+m))) rfl rfl (b7J (x:=46) (y:=49) hti hd hs (by rfl) rfl (by exact rfl) (by exact rfl) (by omega) (by omega)) ?_;refine a1F (v:= .slice (some ⟨g2,0,none⟩) (n2) (c2)) rfl rfl (S3 hs (by rfl) (x:=0) rfl (by exact h0)) ?_;refine a1F (v:= .int .i64 ((ix:Nat):Int)) rfl rfl (S3 hs (by rfl) (x:=1) rfl (by exact h1)) ?_;refine a1F (v:= .slice (some ⟨g2,ix*esz,none⟩) (n2-ix) (c2-ix)) rfl rfl (b7J (x:=51) (y:=52) hti hd hs (by rfl) rfl (by exact rfl) (by exact rfl) (by omega) (by omega)) ?_;show wpList _ _ _ [_] _ _;refine A0 (v:=v) (w':=W1) rfl rfl (b3W (b:= .copy) (xs:= [50,53]) (vals:= [.slice (some ⟨g1,(ix+m)*esz,none⟩) (n1-(ix+m)) (c1-(ix+m)), .slice (some ⟨g2,ix*esz,none⟩) (n2-ix) (c2-ix)]) (by exact rfl) hs (by rfl) (by simp only [C4,a6q];congr 1) (fun cs=>by simp only [builtin,Sem.run_bind,hcp,Result.andThen_ok,Sem.run_pure])) ?_;exact hQ
theorem c5J {T47 T48 T49 T50 T51 T52 T53 T54 T55:TypeId} {p47 p48 p49 p50 p51 p52 p53 p54 p55:String} {r15:Nat} {v:Value} {W1:World} {g1 n1 c1:Nat} (hP:POK X.P X.tt) (hti:I8 X.P t i) (hd:i.d= .slice e esz bytes) (hs:a.tmps.size=95) (h9:a.tmps[0]?=some (.slice (some ⟨g1,0,none⟩) (n1) (c1))) (h0:a.tmps[0]?=some (.slice (some ⟨g1,0,none⟩) (n1) (c1))) (h1:a.tmps[1]?=some (.int .i64 ((ix:Nat):Int))) (h7:a.tmps[7]?=some (.int .i64 ((m:Nat):Int)))
 (q1:ix+m<n1) (q2:n1≤c1) (q3:ix<n1) (q4:n1≤c1) (q5:ix+m≤9223372036854775807) (hcp:∀ty,(Builtin.copy_ #[t,t] ty #[.slice (some ⟨g1,(ix+m)*esz,none⟩) (n1-(ix+m)) (c1-(ix+m)), .slice (some ⟨g1,ix*esz,none⟩) (n1-ix) (c1-ix)]).run X.P { w with drawn:=w.drawn+1}= .ok v W1)
 (hQ:Q .normal (puts a [(77,v),(76, .slice (some ⟨g1,ix*esz,none⟩) (n1-ix) (c1-ix)),(75, .int .i64 ((ix:Nat):Int)),(74, .slice (some ⟨g1,0,none⟩) (n1) (c1)),(73, .slice (some ⟨g1,(ix+m)*esz,none⟩) (n1-(ix+m)) (c1-(ix+m))),(72, .int .i64 ((ix+m:Nat):Int)),(71, .int .i64 ((m:Nat):Int)),(70, .int .i64 ((ix:Nat):Int)),(69, .slice (some ⟨g1,0,none⟩) (n1) (c1))]) W1):(Code.region r15 #[{ dst:=some 69,op:= .move (.tmp 0),type:=T47,pos:=p47,after:= #[],guard:=none},
 { dst:=some 70,op:= .move (.tmp 1),type:=T48,pos:=p48,after:= #[],guard:=none},
 { dst:=some 71,op:= .move (.tmp 7),type:=T49,pos:=p49,after:= #[],guard:=none},
 { dst:=some 72,op:= .binOp .add tI (.tmp 70) (.tmp 71) tI,type:=T50,pos:=p50,after:= #[{ on:=1,ground:= .data}, { on:=2,ground:= .data}],guard:=none},
 { dst:=some 73,op:= .slice t (.tmp 69) (some (.tmp 72)) none none,type:=T51,pos:=p51,after:= #[{ on:=0,ground:= .data}, { on:=3,ground:= .data}],guard:=none},
 { dst:=some 74,op:= .move (.tmp 0),type:=T52,pos:=p52,after:= #[],guard:=none},
 { dst:=some 75,op:= .move (.tmp 1),type:=T53,pos:=p53,after:= #[],guard:=none},
 { dst:=some 76,op:= .slice t (.tmp 74) (some (.tmp 75)) none none,type:=T54,pos:=p54,after:= #[{ on:=5,ground:= .data}, { on:=6,ground:= .data}],guard:=none},
 { dst:=some 77,op:= .call { callee:= .builtin .copy,args:= #[.tmp 73, .tmp 76],argTypes:= #[t,t]},type:=T55,pos:=p55,after:= #[{ on:=4,ground:= .data}, { on:=7,ground:= .data}],guard:=none}] true:Code).wp X.P Q a w:=by
 refine wp_region_still_tail 8 hP.mix (by kernel_rfl) ?_;show wpStill _ _ _ _ [_,_,_,_,_,_,_,_] (puts a []);refine a1F (v:= .slice (some ⟨g1,0,none⟩) (n1) (c1)) rfl rfl (S3 hs (by rfl) (x:=0) rfl (by exact h0)) ?_;refine a1F (v:= .int .i64 ((ix:Nat):Int)) rfl rfl (S3 hs (by rfl) (x:=1) rfl (by exact h1)) ?_;refine a1F (v:= .int .i64 ((m:Nat):Int)) rfl rfl (S3 hs (by rfl) (x:=7) rfl (by exact h7)) ?_;refine a1F (v:= .int .i64 ((ix+m:Nat):Int)) rfl rfl (b3r (x:=70) (y:=71) hs (by rfl) rfl (by exact rfl) (by exact rfl) (by omega)) ?_;refine a1F (v:= .slice (some ⟨g1,(ix+m)*esz,none⟩) (n1-(ix+m)) (c1-(ix+m))) rfl rfl (b7J (x:=69) (y:=72) hti hd hs (by rfl) rfl (by exact rfl) (by exact rfl) (by omega) (by omega)) ?_;refine a1F (v:= .slice (some ⟨g1,0,none⟩) (n1) (c1)) rfl rfl (S3 hs (by rfl) (x:=0) rfl (by exact h0)) ?_;refine a1F (v:= .int .i64 ((ix:Nat):Int)) rfl rfl (S3 hs (by rfl) (x:=1) rfl (by exact h1)) ?_;refine a1F (v:= .slice (some ⟨g1,ix*esz,none⟩) (n1-ix) (c1-ix)) rfl rfl (b7J (x:=74) (y:=75) hti hd hs (by rfl) rfl (by exact rfl) (by exact rfl) (by omega) (by omega)) ?_;show wpList _ _ _ [_] _ _;refine A0 (v:=v) (w':=W1) rfl rfl (b3W (b:= .copy) (xs:= [73,76]) (vals:= [.slice (some ⟨g1,(ix+m)*esz,none⟩) (n1-(ix+m)) (c1-(ix+m)), .slice (some ⟨g1,ix*esz,none⟩) (n1-ix) (c1-ix)]) (by exact rfl) hs (by rfl) (by simp only [C4,a6q];congr 1) (fun cs=>by simp only [builtin,Sem.run_bind,hcp,Result.andThen_ok,Sem.run_pure])) ?_;exact hQ
theorem c7U {T33 T34 T35 T36 T37 T38 T39 T40 T41 T42 T43 T44 T45 T46 T47 T48 T49 T50 T51 T52 T53 T54 T55 T56 T57 T58 T59 T60 T61 T62:TypeId} {p33 p34 p35 p36 p37 p38 p39 p40 p41 p42 p43 p44 p45 p46 p47 p48 p49 p50 p51 p52 p53 p54 p55 p56 p57 p58 p59 p60 p61 p62:String} {f33 f34 f35 f36 f37 f38 f39 f40 f41 f42 f43 f44 f45 f46 f56 f57 f58 f59 f60 f61 f62:Array Edge} {r13 r14 r15 r16 r17:Nat} {ov:FuncId} {rest:Code} (hP:POK X.P X.tt) (hti:I8 X.P t i) (hd:i.d= .slice e esz bytes) (hte:I8 X.P e ie) (hiz:ie.n=esz) (hA:b7Y X a w t tI e esz bytes g n cap ix m mc sa ls cur) (hroom:n+m≤cap) (hov0:c3Q X.P t ov)
 (hQ:∀a' W v',b7u w W g esz n m e (cur.take (ix*esz)++ls++(cur.take (n*esz)).drop (ix*esz)) v'→a'.defers=a.defers→a'.tmps[6]?=some v'→Q .ret a' W):
 (Code.seq (.region r13 #[{ dst:=some 56,op:= .move (.tmp 0),type:=T33,pos:=p33,after:=f33,guard:=none},
 { dst:=some 57,op:= .move (.tmp 8),type:=T34,pos:=p34,after:=f34,guard:=none},
 { dst:=some 58,op:= .move (.tmp 7),type:=T35,pos:=p35,after:=f35,guard:=none},
 { dst:=some 59,op:= .binOp .add tI (.tmp 57) (.tmp 58) tI,type:=T36,pos:=p36,after:=f36,guard:=none},
 { dst:=some 60,op:= .slice t (.tmp 56) none (some (.tmp 59)) none,type:=T37,pos:=p37,after:=f37,guard:=none},
 { dst:=some 0,op:= .assign (.tmp 60),type:=T38,pos:=p38,after:=f38,guard:=none}] false) (.seq (.seq (.region r14 #[{ dst:=some 61,op:= .move (.tmp 2),type:=T39,pos:=p39,after:=f39,guard:=none},
 { dst:=some 62,op:= .move (.tmp 0),type:=T40,pos:=p40,after:=f40,guard:=none},
 { dst:=some 63,op:= .move (.tmp 1),type:=T41,pos:=p41,after:=f41,guard:=none},
 { dst:=some 64,op:= .move (.tmp 7),type:=T42,pos:=p42,after:=f42,guard:=none},
 { dst:=some 65,op:= .binOp .add tI (.tmp 63) (.tmp 64) tI,type:=T43,pos:=p43,after:=f43,guard:=none},
 { dst:=some 66,op:= .slice t (.tmp 62) (some (.tmp 65)) none none,type:=T44,pos:=p44,after:=f44,guard:=none},
 { dst:=some 67,op:= .call { callee:= .value (.func ov),args:= #[.tmp 61, .tmp 66],argTypes:= #[t,t]},type:=T45,pos:=p45,after:=f45,guard:=none},
 { dst:=some 68,op:= .unOp .not tB (.tmp 67),type:=T46,pos:=p46,after:=f46,guard:=none}] false) (.cond (.tmp 68) (.seq (.region r15 #[{ dst:=some 69,op:= .move (.tmp 0),type:=T47,pos:=p47,after:= #[],guard:=none},
 { dst:=some 70,op:= .move (.tmp 1),type:=T48,pos:=p48,after:= #[],guard:=none},
 { dst:=some 71,op:= .move (.tmp 7),type:=T49,pos:=p49,after:= #[],guard:=none},
 { dst:=some 72,op:= .binOp .add tI (.tmp 70) (.tmp 71) tI,type:=T50,pos:=p50,after:= #[{ on:=1,ground:= .data}, { on:=2,ground:= .data}],guard:=none},
 { dst:=some 73,op:= .slice t (.tmp 69) (some (.tmp 72)) none none,type:=T51,pos:=p51,after:= #[{ on:=0,ground:= .data}, { on:=3,ground:= .data}],guard:=none},
 { dst:=some 74,op:= .move (.tmp 0),type:=T52,pos:=p52,after:= #[],guard:=none},
 { dst:=some 75,op:= .move (.tmp 1),type:=T53,pos:=p53,after:= #[],guard:=none},
 { dst:=some 76,op:= .slice t (.tmp 74) (some (.tmp 75)) none none,type:=T54,pos:=p54,after:= #[{ on:=5,ground:= .data}, { on:=6,ground:= .data}],guard:=none},
 { dst:=some 77,op:= .call { callee:= .builtin .copy,args:= #[.tmp 73, .tmp 76],argTypes:= #[t,t]},type:=T55,pos:=p55,after:= #[{ on:=4,ground:= .data}, { on:=7,ground:= .data}],guard:=none}] true) (.seq (.region r16 #[{ dst:=some 78,op:= .move (.tmp 0),type:=T56,pos:=p56,after:=f56,guard:=none},
 { dst:=some 79,op:= .move (.tmp 1),type:=T57,pos:=p57,after:=f57,guard:=none},
 { dst:=some 80,op:= .slice t (.tmp 78) (some (.tmp 79)) none none,type:=T58,pos:=p58,after:=f58,guard:=none},
 { dst:=some 81,op:= .move (.tmp 2),type:=T59,pos:=p59,after:=f59,guard:=none},
 { dst:=some 82,op:= .call { callee:= .builtin .copy,args:= #[.tmp 80, .tmp 81],argTypes:= #[t,t]},type:=T60,pos:=p60,after:=f60,guard:=none}] false) (.seq (.region r17 #[{ dst:=some 83,op:= .move (.tmp 0),type:=T61,pos:=p61,after:=f61,guard:=none},
 { dst:=some 6,op:= .assign (.tmp 83),type:=T62,pos:=p62,after:=f62,guard:=none}] false) (.ret)))) .skip)) rest):Code).wp X.P Q a w:=by
 have hs:=hA.sz;have h1:=hA.hi;have h2:=hA.hm;have h3:=hA.hn;have h4:=hA.hcm;have h5:=hA.hnm;simp only [maxLen]at h4 h5;obtain⟨_,_,_,hzz,_⟩:=hti.slice hd;have hu:=(hti.slice hd).1
 have hze:∀w:World,(sizeOf e).run X.P w= .ok esz w:=by
  obtain⟨_,inf,q1,q2,_⟩:=hti.slice hd;intro w;simp [sizeOf,typeInfo,q1,q2]
 have m1:(ix+m)*esz=ix*esz+m*esz:=J3 _ _ _;have m2:(n+m)*esz=n*esz+m*esz:=J3 _ _ _;have m3:n*esz=ix*esz+(n-ix)*esz:=by rw [←J3];congr 1;omega
 have m4:n*esz≤cur.length:=by rw [hA.hcs];exact Z6 _ h3
 have hll:=hA.hll;have hcs:=hA.hcs;obtain⟨cs,hcsE⟩:∃cs,cs=(cur.take (n*esz)).drop (ix*esz):=⟨_,rfl⟩;have hcsl:cs.length=(n-ix)*esz:=by rw [hcsE];simp;omega
 have hcs1:∀v,v∈cs→v.oneCell'=true:=fun v hv=>hA.hc1 v (by rw [hcsE]at hv;exact a4w hv)
 have hcg:∀j v,cs[j]?=some v→cur[ix*esz+j]?=some v:=by
  intro j v hj;rw [hcsE,a6B,a2v]at hj;split at hj
  · exact hj
  · cases hj
 have m5:(n+m)*esz≤cur.length:=by rw [hA.hcs];exact Z6 _ hroom
 have hzp:=hA.hz;have hne:=hA.hne
 have hov:∀lb cb,(callFunc ov #[.slice (some sa) m mc, .slice (some ⟨g,(ix+m)*esz,none⟩) lb cb]).run X.P w= .ok (.value (.bool false)) w:=by
  intro lb cb;obtain⟨fn,tR,q1,q2,q3,q4,q5⟩:=hov0.ex;obtain⟨cA,tA,fA,q6,q7⟩:=hA.hsl
  rw [run_callFunc_extern q1 q2 q3 q4 q5,a8n w t tR e hu esz hze sa ⟨g,(ix+m)*esz,none⟩ m mc lb cb hne q6 hA.hg q7 (by
   have:0<n*esz:=Nat.mul_pos (by omega) hzp;simp only [List.size_toArray];omega)]
  rfl
 obtain⟨Wd,hWd⟩:∃Wd:World,Wd= { w with drawn:=w.drawn+1}:=⟨_,rfl⟩
 have hWg:Wd.heap=w.heap:=by rw [hWd]
 obtain⟨C1,hC1⟩:∃C1,C1=cur.take ((ix+m)*esz)++cs++cur.drop ((ix+m)*esz+cs.length):=⟨_,rfl⟩;obtain⟨W1,hW1⟩:∃W1,W1=Wd.setRow g C1.toArray:=⟨_,rfl⟩
 have hcp1:∀ty,(Builtin.copy_ #[t,t] ty #[.slice (some ⟨g,(ix+m)*esz,none⟩) (n+m-(ix+m)) (cap-(ix+m)), .slice (some ⟨g,ix*esz,none⟩) (n+m-ix) (cap-ix)]).run X.P Wd= .ok (goInt (Nat.min (n+m-ix) (n+m-(ix+m)))) W1:=by
  intro ty;rw [hW1,hC1];refine b0n Wd t t ty g _ _ _ _ _ _ cur e cs hu hze (by rw [hWg];exact hA.hg) ?_ (fun j v hj=> ?_) (by omega) hcs1
  · rw [hcsl];congr 1;simp only [Nat.min_def];split<;>omega
  · rw [G0];have:=hcg j v hj;simp [World.cell?,hWg,hA.hg,this]
 have hg0:W1.heap[g]?=some (.cells C1.toArray e (0,0)):=by rw [hW1];exact setRow_heap _ _ _ _ _ _ (by rw [hWg];exact hA.hg)
 have hC1l:C1.length=cur.length:=by rw [hC1];simp;omega
 obtain⟨C2,hC2⟩:∃C2,C2=C1.take (ix*esz)++ls++C1.drop (ix*esz+ls.length):=⟨_,rfl⟩;obtain⟨W2,hW2⟩:∃W2,W2=W1.setRow g C2.toArray:=⟨_,rfl⟩;have hsaW:W1.heap[sa.block]?=w.heap[sa.block]?:=by rw [hW1,setRow_other _ _ _ _ hne,hWg]
 have hcp2:∀ty,(Builtin.copy_ #[t,t] ty #[.slice (some ⟨g,ix*esz,none⟩) (n+m-ix) (cap-ix), .slice (some sa) m mc]).run X.P W1= .ok (goInt (Nat.min m (n+m-ix))) W2:=by
  intro ty;rw [hW2,hC2];refine b0n W1 t t ty g _ _ _ _ _ _ C1 e ls hu hze hg0 ?_ (fun j v hj=>hA.hsv W1 hsaW j v hj) (by omega) hA.hl1;rw [hll];congr 1;simp only [Nat.min_def];split<;>omega
 have hg2:W2.heap[g]?=some (.cells C2.toArray e (0,0)):=by rw [hW2];exact setRow_heap _ _ _ _ _ _ hg0
 have hC2l:C2.length=cur.length:=by rw [hC2];simp;omega
 have hfin:C2.take ((n+m)*esz)=cur.take (ix*esz)++ls++(cur.take (n*esz)).drop (ix*esz):=by
  rw [hC2,m2,hll];refine c1l cur ls C1 _ _ _ (by omega) hll (by omega) ?_;rw [hC1,m1,hcsE,←hcsE,hcsl];congr 2;omega
 refine wp_seq (wp_region_list ?_);show wpList _ _ _ _ (puts a []) _;refine A0 (v:= .slice (some ⟨g,0,none⟩) (n) (cap)) (w':=w) rfl rfl (S3 hs (by rfl) (x:=0) rfl (by exact hA.t0)) ?_;refine A0 (v:= .int .i64 ((n:Nat):Int)) (w':=w) rfl rfl (S3 hs (by rfl) (x:=8) rfl (by exact hA.t8)) ?_;refine A0 (v:= .int .i64 ((m:Nat):Int)) (w':=w) rfl rfl (S3 hs (by rfl) (x:=7) rfl (by exact hA.t7)) ?_;refine A0 (v:= .int .i64 ((n+m:Nat):Int)) (w':=w) rfl rfl (b3r (x:=57) (y:=58) hs (by rfl) rfl (by exact rfl) (by exact rfl) (by omega)) ?_;refine A0 (v:= .slice (some ⟨g,0,none⟩) (n+m) (cap)) (w':=w) rfl rfl (c7K (x:=56) (y:=59) hti hd hs (by rfl) rfl (by exact rfl) (by exact rfl) (by omega)) ?_;refine A0 (v:= .slice (some ⟨g,0,none⟩) (n+m) (cap)) (w':=w) rfl rfl (c4U hs (by rfl) (x:=60) rfl (by exact rfl)) ?_;show Code.wp _ _ _ _ _;refine wp_seq (wp_seq (wp_region_list ?_));refine A0 (v:= .slice (some sa) m mc) (w':=w) rfl rfl (S3 hs (by rfl) (x:=2) rfl (by exact hA.t2)) ?_;refine A0 (v:= .slice (some ⟨g,0,none⟩) (n+m) (cap)) (w':=w) rfl rfl (S3 hs (by rfl) (x:=0) rfl (by exact rfl)) ?_;refine A0 (v:= .int .i64 ((ix:Nat):Int)) (w':=w) rfl rfl (S3 hs (by rfl) (x:=1) rfl (by exact hA.t1)) ?_;refine A0 (v:= .int .i64 ((m:Nat):Int)) (w':=w) rfl rfl (S3 hs (by rfl) (x:=7) rfl (by exact hA.t7)) ?_;refine A0 (v:= .int .i64 ((ix+m:Nat):Int)) (w':=w) rfl rfl (b3r (x:=63) (y:=64) hs (by rfl) rfl (by exact rfl) (by exact rfl) (by omega)) ?_;refine A0 (v:= .slice (some ⟨g,(ix+m)*esz,none⟩) (n+m-(ix+m)) (cap-(ix+m))) (w':=w) rfl rfl (b7J (x:=62) (y:=65) hti hd hs (by rfl) rfl (by exact rfl) (by exact rfl) (by omega) (by omega)) ?_;refine A0 (v:= .bool false) (w':=w) rfl rfl (c8C rfl hs (by rfl) (by exact rfl) (by exact rfl) (hov _ _)) ?_;refine A0 (v:= .bool true) (w':=w) rfl rfl (c8a (x:=67) (c:=false) hs (by rfl) rfl (by exact rfl)) ?_;show Code.wp _ _ _ _ _;refine wp_cond_true (A7 hs (by rfl) (by exact rfl)) ?_;refine wp_seq (c5J (W1:=W1) hP hti hd (by rw [a1W];exact hs) (by rw [L0 _ _ (by rw [hs];rfl)];rfl) (by rw [L0 _ _ (by rw [hs];rfl)];rfl) (by rw [L0 _ _ (by rw [hs];rfl)];exact hA.t1) (by rw [L0 _ _ (by rw [hs];rfl)];exact hA.t7) (by omega) (by omega) (by omega) (by omega) (by omega) (by rw [←hWd];exact hcp1) ?_);show Code.wp _ _ _ _ _;rw [b1O];refine wp_seq (wp_region_list ?_);show wpList _ _ _ _ (puts a (_::_::_::_::_::_::_::_::_::_)) _;refine A0 (v:= .slice (some ⟨g,0,none⟩) (n+m) (cap)) (w':=W1) rfl rfl (S3 hs (by rfl) (x:=0) rfl (by exact rfl)) ?_;refine A0 (v:= .int .i64 ((ix:Nat):Int)) (w':=W1) rfl rfl (S3 hs (by rfl) (x:=1) rfl (by exact hA.t1)) ?_;refine A0 (v:= .slice (some ⟨g,ix*esz,none⟩) (n+m-ix) (cap-ix)) (w':=W1) rfl rfl (b7J (x:=78) (y:=79) hti hd hs (by rfl) rfl (by exact rfl) (by exact rfl) (by omega) (by omega)) ?_;refine A0 (v:= .slice (some sa) m mc) (w':=W1) rfl rfl (S3 hs (by rfl) (x:=2) rfl (by exact hA.t2)) ?_;refine A0 (v:=goInt (Nat.min m (n+m-ix))) (w':=W2) rfl rfl (b3W (b:= .copy) (xs:= [80,81]) (vals:= [.slice (some ⟨g,ix*esz,none⟩) (n+m-ix) (cap-ix), .slice (some sa) m mc]) (by exact rfl) hs (by rfl) (by simp only [C4,a6q];congr 1) (fun cs=>by simp only [builtin,Sem.run_bind,hcp2,Result.andThen_ok,Sem.run_pure])) ?_;show Code.wp _ _ _ _ _;refine wp_seq (wp_region_list ?_);refine A0 (v:= .slice (some ⟨g,0,none⟩) (n+m) (cap)) (w':=W2) rfl rfl (S3 hs (by rfl) (x:=0) rfl (by exact rfl)) ?_;refine A0 (v:= .slice (some ⟨g,0,none⟩) (n+m) (cap)) (w':=W2) rfl rfl (c4U hs (by rfl) (x:=83) rfl (by exact rfl)) ?_;show Code.wp _ _ _ _ _;refine wp_ret (hQ _ _ _ ?_ (by rw [a3x]) (by rw [L0 _ _ (by rw [hs];rfl)];rfl));refine⟨⟨g,cap,C2.toArray,rfl,hg2,hroom,hA.hcm,by simp [hC2l,hcs],by simpa using hfin, .inl rfl⟩, ?_⟩
 refine⟨by rw [hW2,hW1,hWd];rfl,by rw [hW2,hW1,hWd];rfl,by rw [hW2,hW1,hWd];rfl,by rw [hW2,setRow_size,hW1,setRow_size,hWg];exact u0 _,fun k hk hn=> ?_⟩;have hkg:k≠g:=fun q=>hn g (by simp) q.symm
 rw [hW2,setRow_other _ _ _ _ hkg,hW1,setRow_other _ _ _ _ hkg,hWg]
theorem c7I {T7 T8 T9 T10 T11 T12 T13 T14 T15 T16 T17 T18 T19 T20 T21 T22 T23 T24 T25 T26 T27 T28 T29 T30 T31 T32:TypeId} {p7 p8 p9 p10 p11 p12 p13 p14 p15 p16 p17 p18 p19 p20 p21 p22 p23 p24 p25 p26 p27 p28 p29 p30 p31 p32:String} {f7 f8 f9 f10 f11 f12 f13 f14 f15 f16 f17 f18 f19 f20 f21 f31 f32:Array Edge} {r9 r10 r11 r12:Nat} (hP:POK X.P X.tt) (hti:I8 X.P t i) (hd:i.d= .slice e esz bytes) (hte:I8 X.P e ie) (hiz:ie.n=esz) (hA:b7Y X a w t tI e esz bytes g n cap ix m mc sa ls cur) (hroom:cap<n+m)
 (hQ:∀a' W v',b7u w W g esz n m e (cur.take (ix*esz)++ls++(cur.take (n*esz)).drop (ix*esz)) v'→a'.defers=a.defers→a'.tmps[6]?=some v'→Q .ret a' W):
 (Code.seq (.region r9 #[{ dst:=some 32,op:= .move (.tmp 0),type:=T7,pos:=p7,after:=f7,guard:=none},
 { dst:=some 33,op:= .move (.tmp 1),type:=T8,pos:=p8,after:=f8,guard:=none},
 { dst:=some 34,op:= .slice t (.tmp 32) none (some (.tmp 33)) none,type:=T9,pos:=p9,after:=f9,guard:=none},
 { dst:=some 35,op:= .move (.tmp 8),type:=T10,pos:=p10,after:=f10,guard:=none},
 { dst:=some 36,op:= .move (.tmp 7),type:=T11,pos:=p11,after:=f11,guard:=none},
 { dst:=some 37,op:= .binOp .add tI (.tmp 35) (.tmp 36) tI,type:=T12,pos:=p12,after:=f12,guard:=none},
 { dst:=some 38,op:= .move (.tmp 1),type:=T13,pos:=p13,after:=f13,guard:=none},
 { dst:=some 39,op:= .binOp .sub tI (.tmp 37) (.tmp 38) tI,type:=T14,pos:=p14,after:=f14,guard:=none},
 { dst:=some 40,op:= .call { callee:= .builtin .append,args:= #[.tmp 34, .tmp 39],argTypes:= #[t,tI]},type:=T15,pos:=p15,after:=f15,guard:=none},
 { dst:=some 9,op:= .assign (.tmp 40),type:=T16,pos:=p16,after:=f16,guard:=none}] false) (.seq (.region r10 #[{ dst:=some 41,op:= .move (.tmp 9),type:=T17,pos:=p17,after:=f17,guard:=none},
 { dst:=some 42,op:= .move (.tmp 1),type:=T18,pos:=p18,after:=f18,guard:=none},
 { dst:=some 43,op:= .slice t (.tmp 41) (some (.tmp 42)) none none,type:=T19,pos:=p19,after:=f19,guard:=none},
 { dst:=some 44,op:= .move (.tmp 2),type:=T20,pos:=p20,after:=f20,guard:=none},
 { dst:=some 45,op:= .call { callee:= .builtin .copy,args:= #[.tmp 43, .tmp 44],argTypes:= #[t,t]},type:=T21,pos:=p21,after:=f21,guard:=none}] false) (.seq (.region r11 #[{ dst:=some 46,op:= .move (.tmp 9),type:=T22,pos:=p22,after:= #[],guard:=none},
 { dst:=some 47,op:= .move (.tmp 1),type:=T23,pos:=p23,after:= #[],guard:=none},
 { dst:=some 48,op:= .move (.tmp 7),type:=T24,pos:=p24,after:= #[],guard:=none},
 { dst:=some 49,op:= .binOp .add tI (.tmp 47) (.tmp 48) tI,type:=T25,pos:=p25,after:= #[{ on:=1,ground:= .data}, { on:=2,ground:= .data}],guard:=none},
 { dst:=some 50,op:= .slice t (.tmp 46) (some (.tmp 49)) none none,type:=T26,pos:=p26,after:= #[{ on:=0,ground:= .data}, { on:=3,ground:= .data}],guard:=none},
 { dst:=some 51,op:= .move (.tmp 0),type:=T27,pos:=p27,after:= #[],guard:=none},
 { dst:=some 52,op:= .move (.tmp 1),type:=T28,pos:=p28,after:= #[],guard:=none},
 { dst:=some 53,op:= .slice t (.tmp 51) (some (.tmp 52)) none none,type:=T29,pos:=p29,after:= #[{ on:=5,ground:= .data}, { on:=6,ground:= .data}],guard:=none},
 { dst:=some 54,op:= .call { callee:= .builtin .copy,args:= #[.tmp 50, .tmp 53],argTypes:= #[t,t]},type:=T30,pos:=p30,after:= #[{ on:=4,ground:= .data}, { on:=7,ground:= .data}],guard:=none}] true) (.seq (.region r12 #[{ dst:=some 55,op:= .move (.tmp 9),type:=T31,pos:=p31,after:=f31,guard:=none},
 { dst:=some 6,op:= .assign (.tmp 55),type:=T32,pos:=p32,after:=f32,guard:=none}] false) (.ret)))):Code).wp X.P Q a w:=by
 have hs:=hA.sz;have h1:=hA.hi;have h2:=hA.hm;have h3:=hA.hn;have h4:=hA.hcm;have h5:=hA.hnm;simp only [maxLen]at h4 h5;obtain⟨_,_,_,hzz,_⟩:=hti.slice hd;have hu:=(hti.slice hd).1
 have hze:∀w:World,(sizeOf e).run X.P w= .ok esz w:=by
  obtain⟨_,inf,q1,q2,_⟩:=hti.slice hd;intro w;simp [sizeOf,typeInfo,q1,q2]
 have m1:(ix+m)*esz=ix*esz+m*esz:=J3 _ _ _;have m2:(n+m)*esz=n*esz+m*esz:=J3 _ _ _;have m3:n*esz=ix*esz+(n-ix)*esz:=by rw [←J3];congr 1;omega
 have m4:n*esz≤cur.length:=by rw [hA.hcs];exact Z6 _ h3
 have hll:=hA.hll;have hcs:=hA.hcs;obtain⟨cs,hcsE⟩:∃cs,cs=(cur.take (n*esz)).drop (ix*esz):=⟨_,rfl⟩;have hcsl:cs.length=(n-ix)*esz:=by rw [hcsE];simp;omega
 have hcs1:∀v,v∈cs→v.oneCell'=true:=fun v hv=>hA.hc1 v (by rw [hcsE]at hv;exact a4w hv)
 have hcg:∀j v,cs[j]?=some v→cur[ix*esz+j]?=some v:=by
  intro j v hj;rw [hcsE,a6B,a2v]at hj;split at hj
  · exact hj
  · cases hj
 have hgs:g<w.heap.size:=(O1.1 hA.hg).1;obtain⟨cA,tA,fA,hsa0,_⟩:=hA.hsl;have hss:sa.block<w.heap.size:=(O1.1 hsa0).1;have e1:ix+(n+m-ix)=n+m:=by omega
 obtain⟨C0,c',happ0,hC0l,hcc,hcx,hC0t⟩:=c0N (k:=n+m-ix) hti hd hte hiz hA.hz hA.hint hA.hg (by simpa using hcs) (show ix≤cap by omega) (by omega) (by omega) (by rw [e1];exact hA.hb) (by rw [e1];exact hA.hnm)
 rw [e1]at happ0 hcc;obtain⟨B,hB⟩:∃B,B=w.heap.size:=⟨_,rfl⟩;obtain⟨C1,hC1⟩:∃C1,C1=C0.toList:=⟨_,rfl⟩;have hC10:C0=C1.toArray:=by rw [hC1]
 obtain⟨W1,hW1⟩:∃W1,W1=w.drew.alloc (.cells C1.toArray e):=⟨_,rfl⟩
 have happ:∀ty,(Builtin.append_ #[t,tI] ty #[.slice (some ⟨g,0,none⟩) ix cap, .int .i64 ((n+m-ix:Nat):Int)]).run X.P w= .ok (.slice (some ⟨B,0,none⟩) (n+m) (c')) W1:=by
  intro ty;rw [happ0,hW1,hC10,hB]
 have hC1l:C1.length=c'*esz:=by rw [hC1];simpa using hC0l
 have m6:(n+m)*esz≤c'*esz:=Z6 _ hcc;rw [List.toList_toArray,←hC1]at hC0t;have hg1:W1.heap[B]?=some (.cells C1.toArray e (0,0)):=by rw [hW1,hB];exact heap_alloc_new w.drew _
 have hold:∀k,k<w.heap.size→W1.heap[k]?=w.heap[k]?:=by
  intro k hk;rw [hW1];exact heap_alloc_old w.drew _ hk
 obtain⟨C2,hC2⟩:∃C2,C2=C1.take (ix*esz)++ls++C1.drop (ix*esz+ls.length):=⟨_,rfl⟩;have hC2l:C2.length=C1.length:=by rw [hC2];simp;omega
 obtain⟨W2,hW2⟩:∃W2,W2=W1.setRow B C2.toArray:=⟨_,rfl⟩
 have hcp1:∀ty,(Builtin.copy_ #[t,t] ty #[.slice (some ⟨B,ix*esz,none⟩) (n+m-ix) (c'-ix), .slice (some sa) m mc]).run X.P W1= .ok (goInt (Nat.min m (n+m-ix))) W2:=by
  intro ty;rw [hW2,hC2];refine b0n W1 t t ty B _ _ _ _ _ _ C1 e ls hu hze hg1 ?_ (fun j v hj=>hA.hsv W1 (hold _ hss) j v hj) (by omega) hA.hl1;rw [hll];congr 1;simp only [Nat.min_def];split<;>omega
 have hg2:W2.heap[B]?=some (.cells C2.toArray e (0,0)):=by rw [hW2];exact setRow_heap _ _ _ _ _ _ hg1
 have hold2:∀k,k<w.heap.size→W2.heap[k]?=w.heap[k]?:=by
  intro k hk;rw [hW2,setRow_other _ _ _ _ (by omega)];exact hold k hk
 obtain⟨Wd,hWd⟩:∃Wd:World,Wd= { W2 with drawn:=W2.drawn+1}:=⟨_,rfl⟩
 have hWg:Wd.heap=W2.heap:=by rw [hWd]
 obtain⟨C3,hC3⟩:∃C3,C3=C2.take ((ix+m)*esz)++cs++C2.drop ((ix+m)*esz+cs.length):=⟨_,rfl⟩;have hC3l:C3.length=C1.length:=by rw [hC3];simp;omega
 obtain⟨W3,hW3⟩:∃W3,W3=Wd.setRow B C3.toArray:=⟨_,rfl⟩
 have hcp2:∀ty,(Builtin.copy_ #[t,t] ty #[.slice (some ⟨B,(ix+m)*esz,none⟩) (n+m-(ix+m)) (c'-(ix+m)), .slice (some ⟨g,ix*esz,none⟩) (n-ix) (cap-ix)]).run X.P Wd= .ok (goInt (Nat.min (n-ix) (n+m-(ix+m)))) W3:=by
  intro ty;rw [hW3,hC3];refine b0n Wd t t ty B _ _ _ _ _ _ C2 e cs hu hze (by rw [hWg];exact hg2) ?_ (fun j v hj=> ?_) (by omega) hcs1
  · rw [hcsl];congr 1;simp only [Nat.min_def];split<;>omega
  · rw [G0];have:=hcg j v hj;simp [World.cell?,hWg,hold2 g hgs,hA.hg,this]
 have hg3:W3.heap[B]?=some (.cells C3.toArray e (0,0)):=by rw [hW3];exact setRow_heap _ _ _ _ _ _ (by rw [hWg];exact hg2)
 have hfin:C3.take ((n+m)*esz)=cur.take (ix*esz)++ls++(cur.take (n*esz)).drop (ix*esz):=by
  have:=c1I cur ls C1 C2 (ix*esz) (m*esz) (n*esz) (by omega) hll (by omega) hC0t (by omega) (by rw [hC2,hll]);rw [hC3,m2,m1,←this,hcsE,←hcsE,hcsl];congr 3;omega
 refine wp_seq (wp_region_list ?_);show wpList _ _ _ _ (puts a []) _;refine A0 (v:= .slice (some ⟨g,0,none⟩) (n) (cap)) (w':=w) rfl rfl (S3 hs (by rfl) (x:=0) rfl (by exact hA.t0)) ?_;refine A0 (v:= .int .i64 ((ix:Nat):Int)) (w':=w) rfl rfl (S3 hs (by rfl) (x:=1) rfl (by exact hA.t1)) ?_;refine A0 (v:= .slice (some ⟨g,0,none⟩) (ix) (cap)) (w':=w) rfl rfl (c7K (x:=32) (y:=33) hti hd hs (by rfl) rfl (by exact rfl) (by exact rfl) (by omega)) ?_;refine A0 (v:= .int .i64 ((n:Nat):Int)) (w':=w) rfl rfl (S3 hs (by rfl) (x:=8) rfl (by exact hA.t8)) ?_;refine A0 (v:= .int .i64 ((m:Nat):Int)) (w':=w) rfl rfl (S3 hs (by rfl) (x:=7) rfl (by exact hA.t7)) ?_;refine A0 (v:= .int .i64 ((n+m:Nat):Int)) (w':=w) rfl rfl (b3r (x:=35) (y:=36) hs (by rfl) rfl (by exact rfl) (by exact rfl) (by omega)) ?_;refine A0 (v:= .int .i64 ((ix:Nat):Int)) (w':=w) rfl rfl (S3 hs (by rfl) (x:=1) rfl (by exact hA.t1)) ?_;refine A0 (v:= .int .i64 ((n+m-ix:Nat):Int)) (w':=w) rfl rfl (c7y (x:=37) (y:=38) hs (by rfl) rfl (by exact rfl) (by exact rfl) (by omega) (by omega)) ?_;refine A0 (v:= .slice (some ⟨B,0,none⟩) (n+m) (c')) (w':=W1) rfl rfl (b3W (b:= .append) (xs:= [34,39]) (vals:= [.slice (some ⟨g,0,none⟩) (ix) (cap), .int .i64 ((n+m-ix:Nat):Int)]) (by exact rfl) hs (by rfl) (by simp only [C4,a6q];congr 1) (fun cs=>by simp only [builtin,Sem.run_bind,happ,Result.andThen_ok,Sem.run_pure])) ?_;refine A0 (v:= .slice (some ⟨B,0,none⟩) (n+m) (c')) (w':=W1) rfl rfl (c4U hs (by rfl) (x:=40) rfl (by exact rfl)) ?_;show Code.wp _ _ _ _ _;refine wp_seq (wp_region_list ?_);refine A0 (v:= .slice (some ⟨B,0,none⟩) (n+m) (c')) (w':=W1) rfl rfl (S3 hs (by rfl) (x:=9) rfl (by exact rfl)) ?_;refine A0 (v:= .int .i64 ((ix:Nat):Int)) (w':=W1) rfl rfl (S3 hs (by rfl) (x:=1) rfl (by exact hA.t1)) ?_;refine A0 (v:= .slice (some ⟨B,ix*esz,none⟩) (n+m-ix) (c'-ix)) (w':=W1) rfl rfl (b7J (x:=41) (y:=42) hti hd hs (by rfl) rfl (by exact rfl) (by exact rfl) (by omega) (by omega)) ?_;refine A0 (v:= .slice (some sa) m mc) (w':=W1) rfl rfl (S3 hs (by rfl) (x:=2) rfl (by exact hA.t2)) ?_;refine A0 (v:=goInt (Nat.min m (n+m-ix))) (w':=W2) rfl rfl (b3W (b:= .copy) (xs:= [43,44]) (vals:= [.slice (some ⟨B,ix*esz,none⟩) (n+m-ix) (c'-ix), .slice (some sa) m mc]) (by exact rfl) hs (by rfl) (by simp only [C4,a6q];congr 1) (fun cs=>by simp only [builtin,Sem.run_bind,hcp1,Result.andThen_ok,Sem.run_pure])) ?_;show Code.wp _ _ _ _ _;refine wp_seq (c6c (W1:=W3) hP hti hd (by rw [a1W];exact hs) (by rw [L0 _ _ (by rw [hs];rfl)];rfl) (by rw [L0 _ _ (by rw [hs];rfl)];exact hA.t0) (by rw [L0 _ _ (by rw [hs];rfl)];exact hA.t1) (by rw [L0 _ _ (by rw [hs];rfl)];exact hA.t7) (by omega) (by omega) (by omega) (by omega) (by omega) (by rw [←hWd];exact hcp2) ?_);show Code.wp _ _ _ _ _;rw [b1O];refine wp_seq (wp_region_list ?_);show wpList _ _ _ _ (puts a (_::_::_::_::_::_::_::_::_::_)) _;refine A0 (v:= .slice (some ⟨B,0,none⟩) (n+m) (c')) (w':=W3) rfl rfl (S3 hs (by rfl) (x:=9) rfl (by exact rfl)) ?_;refine A0 (v:= .slice (some ⟨B,0,none⟩) (n+m) (c')) (w':=W3) rfl rfl (c4U hs (by rfl) (x:=55) rfl (by exact rfl)) ?_;show Code.wp _ _ _ _ _;refine wp_ret (hQ _ _ _ ?_ (by rw [a3x]) (by rw [L0 _ _ (by rw [hs];rfl)];rfl));refine⟨⟨B,c',C3.toArray,rfl,hg3,hcc,hcx,by simp [hC3l,hC1l],by simpa using hfin, .inr (by omega)⟩, ?_⟩
 refine⟨by rw [hW3,hWd,hW2,hW1];rfl,by rw [hW3,hWd,hW2,hW1];rfl,by rw [hW3,hWd,hW2,hW1];rfl,by rw [hW3,setRow_size,hWg,hW2,setRow_size,hW1];simp,fun k hk hn=> ?_⟩;rw [hW3,setRow_other _ _ _ _ (by omega),hWg];exact hold2 k hk
theorem b7Y.puts {L:List (Nat×Value)} (h:b7Y X a w t tI e esz bytes g n cap ix m mc sa ls cur) (hb:inB 95 L=true) (k0:lk L 0=none) (k1:lk L 1=none) (k2:lk L 2=none) (k7:lk L 7=none) (k8:lk L 8=none):b7Y X (puts a L) w t tI e esz bytes g n cap ix m mc sa ls cur:=by
 have q:∀d,lk L d=none→(Sx.puts a L).tmps[d]?=a.tmps[d]?:=fun d hd=>by rw [L0 L d (by rw [h.sz];exact hb)];simp [lkA,hd]
 exact⟨by rw [a1W];exact h.sz,by rw [q _ k0];exact h.t0,by rw [q _ k1];exact h.t1,by rw [q _ k2];exact h.t2,by rw [q _ k7];exact h.t7,by rw [q _ k8];exact h.t8,h.hi,h.hm,h.hn,h.hcm,h.hnm,h.hb,h.hg,h.hcs,h.hll,h.hl1,h.hc1,h.hne,h.hsl,h.hsv,h.hint,h.hz⟩
inductive a5J (t tI tB:TypeId) (ov:FuncId):Code→Prop
 |mk {T1 T2 T3 T4 T5 T6 T7 T8 T9 T10 T11 T12 T13 T14 T15 T16 T17 T18 T19 T20 T21 T22 T23 T24 T25 T26 T27 T28 T29 T30 T31 T32 T33 T34 T35 T36 T37 T38 T39 T40 T41 T42 T43 T44 T45 T46 T47 T48 T49 T50 T51 T52 T53 T54 T55 T56 T57 T58 T59 T60 T61 T62:TypeId} {p1 p2 p3 p4 p5 p6 p7 p8 p9 p10 p11 p12 p13 p14 p15 p16 p17 p18 p19 p20 p21 p22 p23 p24 p25 p26 p27 p28 p29 p30 p31 p32 p33 p34 p35 p36 p37 p38 p39 p40 p41 p42 p43 p44 p45 p46 p47 p48 p49 p50 p51 p52 p53 p54 p55 p56 p57 p58 p59 p60 p61 p62:String} {f1 f2 f3 f4 f5 f6 f7 f8 f9 f10 f11 f12 f13 f14 f15 f16 f17 f18 f19 f20 f21 f31 f32 f33 f34 f35 f36 f37 f38 f39 f40 f41 f42 f43 f44 f45 f46 f56 f57 f58 f59 f60 f61 f62:Array Edge} {r8 r9 r10 r11 r12 r13 r14 r15 r16 r17:Nat} {rest:Code}:a5J t tI tB ov (Code.seq (.seq (.region r8 #[{ dst:=some 26,op:= .move (.tmp 8),type:=T1,pos:=p1,after:=f1,guard:=none},
  { dst:=some 27,op:= .move (.tmp 7),type:=T2,pos:=p2,after:=f2,guard:=none},
  { dst:=some 28,op:= .binOp .add tI (.tmp 26) (.tmp 27) tI,type:=T3,pos:=p3,after:=f3,guard:=none},
  { dst:=some 29,op:= .move (.tmp 0),type:=T4,pos:=p4,after:=f4,guard:=none},
  { dst:=some 30,op:= .call { callee:= .builtin .cap,args:= #[.tmp 29],argTypes:= #[t]},type:=T5,pos:=p5,after:=f5,guard:=none},
  { dst:=some 31,op:= .binOp .gtr tI (.tmp 28) (.tmp 30) tI,type:=T6,pos:=p6,after:=f6,guard:=none}] false) (.cond (.tmp 31) (.seq (.region r9 #[{ dst:=some 32,op:= .move (.tmp 0),type:=T7,pos:=p7,after:=f7,guard:=none},
  { dst:=some 33,op:= .move (.tmp 1),type:=T8,pos:=p8,after:=f8,guard:=none},
  { dst:=some 34,op:= .slice t (.tmp 32) none (some (.tmp 33)) none,type:=T9,pos:=p9,after:=f9,guard:=none},
  { dst:=some 35,op:= .move (.tmp 8),type:=T10,pos:=p10,after:=f10,guard:=none},
  { dst:=some 36,op:= .move (.tmp 7),type:=T11,pos:=p11,after:=f11,guard:=none},
  { dst:=some 37,op:= .binOp .add tI (.tmp 35) (.tmp 36) tI,type:=T12,pos:=p12,after:=f12,guard:=none},
  { dst:=some 38,op:= .move (.tmp 1),type:=T13,pos:=p13,after:=f13,guard:=none},
  { dst:=some 39,op:= .binOp .sub tI (.tmp 37) (.tmp 38) tI,type:=T14,pos:=p14,after:=f14,guard:=none},
  { dst:=some 40,op:= .call { callee:= .builtin .append,args:= #[.tmp 34, .tmp 39],argTypes:= #[t,tI]},type:=T15,pos:=p15,after:=f15,guard:=none},
  { dst:=some 9,op:= .assign (.tmp 40),type:=T16,pos:=p16,after:=f16,guard:=none}] false) (.seq (.region r10 #[{ dst:=some 41,op:= .move (.tmp 9),type:=T17,pos:=p17,after:=f17,guard:=none},
  { dst:=some 42,op:= .move (.tmp 1),type:=T18,pos:=p18,after:=f18,guard:=none},
  { dst:=some 43,op:= .slice t (.tmp 41) (some (.tmp 42)) none none,type:=T19,pos:=p19,after:=f19,guard:=none},
  { dst:=some 44,op:= .move (.tmp 2),type:=T20,pos:=p20,after:=f20,guard:=none},
  { dst:=some 45,op:= .call { callee:= .builtin .copy,args:= #[.tmp 43, .tmp 44],argTypes:= #[t,t]},type:=T21,pos:=p21,after:=f21,guard:=none}] false) (.seq (.region r11 #[{ dst:=some 46,op:= .move (.tmp 9),type:=T22,pos:=p22,after:= #[],guard:=none},
  { dst:=some 47,op:= .move (.tmp 1),type:=T23,pos:=p23,after:= #[],guard:=none},
  { dst:=some 48,op:= .move (.tmp 7),type:=T24,pos:=p24,after:= #[],guard:=none},
  { dst:=some 49,op:= .binOp .add tI (.tmp 47) (.tmp 48) tI,type:=T25,pos:=p25,after:= #[{ on:=1,ground:= .data}, { on:=2,ground:= .data}],guard:=none},
  { dst:=some 50,op:= .slice t (.tmp 46) (some (.tmp 49)) none none,type:=T26,pos:=p26,after:= #[{ on:=0,ground:= .data}, { on:=3,ground:= .data}],guard:=none},
  { dst:=some 51,op:= .move (.tmp 0),type:=T27,pos:=p27,after:= #[],guard:=none},
  { dst:=some 52,op:= .move (.tmp 1),type:=T28,pos:=p28,after:= #[],guard:=none},
  { dst:=some 53,op:= .slice t (.tmp 51) (some (.tmp 52)) none none,type:=T29,pos:=p29,after:= #[{ on:=5,ground:= .data}, { on:=6,ground:= .data}],guard:=none},
  { dst:=some 54,op:= .call { callee:= .builtin .copy,args:= #[.tmp 50, .tmp 53],argTypes:= #[t,t]},type:=T30,pos:=p30,after:= #[{ on:=4,ground:= .data}, { on:=7,ground:= .data}],guard:=none}] true) (.seq (.region r12 #[{ dst:=some 55,op:= .move (.tmp 9),type:=T31,pos:=p31,after:=f31,guard:=none},
  { dst:=some 6,op:= .assign (.tmp 55),type:=T32,pos:=p32,after:=f32,guard:=none}] false) (.ret))))) .skip)) (.seq (.region r13 #[{ dst:=some 56,op:= .move (.tmp 0),type:=T33,pos:=p33,after:=f33,guard:=none},
  { dst:=some 57,op:= .move (.tmp 8),type:=T34,pos:=p34,after:=f34,guard:=none},
  { dst:=some 58,op:= .move (.tmp 7),type:=T35,pos:=p35,after:=f35,guard:=none},
  { dst:=some 59,op:= .binOp .add tI (.tmp 57) (.tmp 58) tI,type:=T36,pos:=p36,after:=f36,guard:=none},
  { dst:=some 60,op:= .slice t (.tmp 56) none (some (.tmp 59)) none,type:=T37,pos:=p37,after:=f37,guard:=none},
  { dst:=some 0,op:= .assign (.tmp 60),type:=T38,pos:=p38,after:=f38,guard:=none}] false) (.seq (.seq (.region r14 #[{ dst:=some 61,op:= .move (.tmp 2),type:=T39,pos:=p39,after:=f39,guard:=none},
  { dst:=some 62,op:= .move (.tmp 0),type:=T40,pos:=p40,after:=f40,guard:=none},
  { dst:=some 63,op:= .move (.tmp 1),type:=T41,pos:=p41,after:=f41,guard:=none},
  { dst:=some 64,op:= .move (.tmp 7),type:=T42,pos:=p42,after:=f42,guard:=none},
  { dst:=some 65,op:= .binOp .add tI (.tmp 63) (.tmp 64) tI,type:=T43,pos:=p43,after:=f43,guard:=none},
  { dst:=some 66,op:= .slice t (.tmp 62) (some (.tmp 65)) none none,type:=T44,pos:=p44,after:=f44,guard:=none},
  { dst:=some 67,op:= .call { callee:= .value (.func ov),args:= #[.tmp 61, .tmp 66],argTypes:= #[t,t]},type:=T45,pos:=p45,after:=f45,guard:=none},
  { dst:=some 68,op:= .unOp .not tB (.tmp 67),type:=T46,pos:=p46,after:=f46,guard:=none}] false) (.cond (.tmp 68) (.seq (.region r15 #[{ dst:=some 69,op:= .move (.tmp 0),type:=T47,pos:=p47,after:= #[],guard:=none},
  { dst:=some 70,op:= .move (.tmp 1),type:=T48,pos:=p48,after:= #[],guard:=none},
  { dst:=some 71,op:= .move (.tmp 7),type:=T49,pos:=p49,after:= #[],guard:=none},
  { dst:=some 72,op:= .binOp .add tI (.tmp 70) (.tmp 71) tI,type:=T50,pos:=p50,after:= #[{ on:=1,ground:= .data}, { on:=2,ground:= .data}],guard:=none},
  { dst:=some 73,op:= .slice t (.tmp 69) (some (.tmp 72)) none none,type:=T51,pos:=p51,after:= #[{ on:=0,ground:= .data}, { on:=3,ground:= .data}],guard:=none},
  { dst:=some 74,op:= .move (.tmp 0),type:=T52,pos:=p52,after:= #[],guard:=none},
  { dst:=some 75,op:= .move (.tmp 1),type:=T53,pos:=p53,after:= #[],guard:=none},
  { dst:=some 76,op:= .slice t (.tmp 74) (some (.tmp 75)) none none,type:=T54,pos:=p54,after:= #[{ on:=5,ground:= .data}, { on:=6,ground:= .data}],guard:=none},
  { dst:=some 77,op:= .call { callee:= .builtin .copy,args:= #[.tmp 73, .tmp 76],argTypes:= #[t,t]},type:=T55,pos:=p55,after:= #[{ on:=4,ground:= .data}, { on:=7,ground:= .data}],guard:=none}] true) (.seq (.region r16 #[{ dst:=some 78,op:= .move (.tmp 0),type:=T56,pos:=p56,after:=f56,guard:=none},
  { dst:=some 79,op:= .move (.tmp 1),type:=T57,pos:=p57,after:=f57,guard:=none},
  { dst:=some 80,op:= .slice t (.tmp 78) (some (.tmp 79)) none none,type:=T58,pos:=p58,after:=f58,guard:=none},
  { dst:=some 81,op:= .move (.tmp 2),type:=T59,pos:=p59,after:=f59,guard:=none},
  { dst:=some 82,op:= .call { callee:= .builtin .copy,args:= #[.tmp 80, .tmp 81],argTypes:= #[t,t]},type:=T60,pos:=p60,after:=f60,guard:=none}] false) (.seq (.region r17 #[{ dst:=some 83,op:= .move (.tmp 0),type:=T61,pos:=p61,after:=f61,guard:=none},
  { dst:=some 6,op:= .assign (.tmp 83),type:=T62,pos:=p62,after:=f62,guard:=none}] false) (.ret)))) .skip)) rest)))
theorem c3z {ov:FuncId} (hP:POK X.P X.tt) (hti:I8 X.P t i) (hd:i.d= .slice e esz bytes) (hte:I8 X.P e ie) (hiz:ie.n=esz) (hA:b7Y X a w t tI e esz bytes g n cap ix m mc sa ls cur) (hov0:c3Q X.P t ov) {tB:TypeId} {c:Code} (hc:a5J t tI tB ov c)
 (hQ:∀a' W v',b7u w W g esz n m e (cur.take (ix*esz)++ls++(cur.take (n*esz)).drop (ix*esz)) v'→a'.defers=a.defers→a'.tmps[6]?=some v'→Q .ret a' W):c.wp X.P Q a w:=by
 cases hc;have hs:=hA.sz;have h1:=hA.hi;have h2:=hA.hm;have h3:=hA.hn;have h4:=hA.hcm;have h5:=hA.hnm;simp only [maxLen]at h4 h5;have hu:=(hti.slice hd).1
 have hcap:∀ty,(Builtin.cap_ #[t] ty #[.slice (some ⟨g,0,none⟩) (n) (cap)]).run X.P w= .ok (.int .i64 ((cap:Nat):Int)) w:=by
  intro ty;simp [Builtin.cap_,u5 hu,goInt]
 refine wp_seq (wp_seq (wp_region_list ?_));show wpList _ _ _ _ (puts a []) _;refine A0 (v:= .int .i64 ((n:Nat):Int)) (w':=w) rfl rfl (S3 hs (by rfl) (x:=8) rfl (by exact hA.t8)) ?_;refine A0 (v:= .int .i64 ((m:Nat):Int)) (w':=w) rfl rfl (S3 hs (by rfl) (x:=7) rfl (by exact hA.t7)) ?_;refine A0 (v:= .int .i64 ((n+m:Nat):Int)) (w':=w) rfl rfl (b3r (x:=26) (y:=27) hs (by rfl) rfl (by exact rfl) (by exact rfl) (by omega)) ?_;refine A0 (v:= .slice (some ⟨g,0,none⟩) (n) (cap)) (w':=w) rfl rfl (S3 hs (by rfl) (x:=0) rfl (by exact hA.t0)) ?_;refine A0 (v:= .int .i64 ((cap:Nat):Int)) (w':=w) rfl rfl (b3W (b:= .cap) (xs:= [29]) (vals:= [.slice (some ⟨g,0,none⟩) (n) (cap)]) (by exact rfl) hs (by rfl) (by simp only [C4,a6q];congr 1) (fun cs=>by simp only [builtin,Sem.run_bind,hcap,Result.andThen_ok,Sem.run_pure])) ?_;refine A0 (v:= .bool (decide (cap<n+m))) (w':=w) rfl rfl (c7a (x:=28) (y:=30) hs (by rfl) rfl (by exact rfl) (by exact rfl)) ?_;show Code.wp _ _ _ _ _;have hev:(puts a [(31,Value.bool (decide (cap<n+m))),(30, .int .i64 ((cap:Nat):Int)),(29, .slice (some ⟨g,0,none⟩) (n) (cap)),(28, .int .i64 ((n+m:Nat):Int)),(27, .int .i64 ((m:Nat):Int)),(26, .int .i64 ((n:Nat):Int))]).eval (.tmp 31)= .bool (decide (cap<n+m)):=A7 hs (by rfl) (by exact rfl);by_cases hroom:cap<n+m
 · rw [decide_eq_true hroom]at hev⊢;refine wp_cond_true hev ?_;exact c7I hP hti hd hte hiz (hA.puts rfl rfl rfl rfl rfl rfl) hroom fun a' W v' h1 h2 h3=>hQ a' W v' h1 (by rw [h2,a3x]) h3
 · rw [decide_eq_false hroom]at hev⊢;refine wp_cond_false hev (wp_skip ?_);show Code.wp _ _ _ _ _;exact c7U hP hti hd hte hiz (hA.puts rfl rfl rfl rfl rfl rfl) (by omega) hov0 fun a' W v' h1 h2 h3=>hQ a' W v' h1 (by rw [h2,a3x]) h3
end
theorem c0T {w:World} {b o:Nat} {v:Value} (h:w.cell? ⟨b,o,none⟩=some v):∃cA tA fA,w.heap[b]?=some (.cells cA tA fA)∧cA.size≠0:=by
 cases hb:w.heap[b]? with
 |none=>
  have h1:w.cell? ⟨b,o,none⟩=none:=by simp [World.cell?,hb]
  rw [h1]at h;cases h
 |some ob=>
  cases ob with
  |cells c t f=>
   refine⟨c,t,f,rfl,fun h0=> ?_⟩;have h1:w.cell? ⟨b,o,none⟩=c[o]?:=by simp [World.cell?,hb]
   rw [h1,a9G (by omega)]at h;cases h
  |_=>
   have h1:w.cell? ⟨b,o,none⟩=none:=by simp [World.cell?,hb]
   rw [h1]at h;cases h
structure c6i (z bytes:Nat) (l':List D) (n':Nat) (ty:TypeId) (sy:Sy):Prop where
 ex:∃l1 n i m lv,o4 sy.T 0=some (.row 0 z)∧o4 sy.T 1=some (.v (.int .i64 ((i:Nat):Int)))∧o4 sy.T 2=some (.lst z m lv)∧o4 sy.T 7=some (.v (.int .i64 ((m:Nat):Int)))∧o4 sy.T 8=some (.v (.int .i64 ((n:Nat):Int)))∧
  j7 sy.H 0=some (.row z n l1 ty)∧i<n∧0<m∧(n+m)*bytes≤140737488355328∧n+m≤maxLen∧l'=l1.take (i*z)++lv++l1.drop (i*z)∧n'=n+m
theorem c1V:∀(l:List Value),(vs l).length=l.length
 | []=>rfl
 |_::l=>by simp [vs,c1V l]
inductive a5Z (t:TypeId) (c2:Code):Code→Prop
 |mk {T1 T2 T3 T4:TypeId} {p1 p2 p3 p4:String} {f1 f2 f3 f4:Array Edge} {r0 r1:Nat}:a5Z t c2 (Code.seq (.region r0 #[{ dst:=some 6,op:= .assign (.const (.slice none 0 0)),type:=T1,pos:=p1,after:=f1,guard:=none}] false)
  (.seq (.region r1 #[{ dst:=some 10,op:= .move (.tmp 0),type:=T2,pos:=p2,after:=f2,guard:=none}, { dst:=some 11,op:= .move (.tmp 1),type:=T3,pos:=p3,after:=f3,guard:=none},
   { dst:=some 12,op:= .slice t (.tmp 10) (some (.tmp 11)) none none,type:=T4,pos:=p4,after:=f4,guard:=none}] false) c2))
theorem c3I {X:Cy} {Q:Exit→Act→World→Prop} {t e esz bytes B e':Nat} {i:TI} {a:Act} {w:World} {v:Value} {n ix:Nat} {xs:List Value} {c c2:Code} (hti:I8 X.P t i) (hd:i.d= .slice e esz bytes) (hc:a5Z t c2 c)
 (hs:a.tmps.size=95) (h0:a.tmps[0]?=some v) (h1:a.tmps[1]?=some (.int .i64 (ix:Int))) (hown:w.ownsRow B e' esz v n xs) (hix:ix≤n)
 (hK:∀a':Act,a'.tmps.size=95→a'.defers=a.defers→(∀d,d<6→a'.tmps[d]?=a.tmps[d]?)→c2.wp X.P Q a' w):c.wp X.P Q a w:=by
 cases hc
 obtain⟨u,hu⟩:∃u,(Instr.sliceAt t v (some (.int .i64 (ix:Int))) none none).run X.P w= .ok u w:=by
  rcases hown.2 with⟨rfl,rfl⟩|⟨g,cap,cur,rfl,_,hg,hnc,_⟩
  · obtain rfl:ix=0:=by omega
    have hu:=(hti.slice hd).1
    have hsz:(sizeOf e).run X.P w= .ok esz w:=by
     obtain⟨_,inf,h1,h2,_⟩:=hti.slice hd;simp [sizeOf,typeInfo,h1,h2]
    exact⟨.slice none 0 0,by simp [Instr.sliceAt,Instr.slice,u5 hu,Instr.sliceBounds,run_sliceBound,hsz]⟩
  · obtain⟨o,h,_⟩:=c2O (X:=X) (g:=g) (cap:=cap) hti hd hix hnc w;exact⟨_,h⟩
 refine wp_seq (wp_region_list ?_);show wpList _ _ _ _ (puts a []) _;refine A0 (v:= .slice none 0 0) (w':=w) rfl rfl (by simp [execOp,Act.eval]) ?_;show Code.wp _ _ _ _ _;refine wp_seq (wp_region_list ?_);show wpList _ _ _ _ (puts a (_::_)) _;refine A0 (v:=v) (w':=w) rfl rfl (S3 hs (by rfl) (x:=0) rfl (by exact h0)) ?_;refine A0 (v:= .int .i64 (ix:Int)) (w':=w) rfl rfl (S3 hs (by rfl) (x:=1) rfl (by exact h1)) ?_
 refine A0 (v:=u) (w':=w) rfl rfl (by
  simp only [execOp,A7 (L:= [(11,Value.int .i64 (ix:Int)),(10,v),(6, .slice none 0 0)]) (e:=10) hs (by rfl) (by exact rfl),A7 (L:= [(11,Value.int .i64 (ix:Int)),(10,v),(6, .slice none 0 0)]) (e:=11) hs (by rfl) (by exact rfl),Option.map,Sem.run_bind,hu];rfl) ?_
 show Code.wp _ _ _ _ _;refine hK _ (by rw [a1W];exact hs) (by rw [a3x]) fun d hd=> ?_
 rw [L0 _ _ (by rw [hs];rfl)];have:d=0∨d=1∨d=2∨d=3∨d=4∨d=5:=by omega
 rcases this with rfl|rfl|rfl|rfl|rfl|rfl<;>rfl
theorem c3i {X:Cy} (hP:POK X.P X.tt) {f:FuncId} {fn:Func} {c:Code} {z n n':Nat} {l l':List D} {ty t tI tB:TypeId} {ov:FuncId} {args:List D} {i ie:TI} {bytes ix0:Nat} {c2:Code}
 (hf:X.P.funcs[f]?=some fn) (hb:fn.body=some c) (hn:X.nt=fn.ntmps) (hhd:a5Z t c2 c) (htl:a5J t tI tB ov (b6k 4 c2)) (hal:args.length≤1) (hix0:ix0≤n) (hi:A5 X.tt t=some i) (hd:i.d= .slice ty z bytes) (hie:A5 X.tt ty=some ie) (hiz:ie.n=z) (h95:fn.ntmps=95) (hres:fn.results= #[.tmp 6])
 (hint:X.P.underlying tI=some (.int .i64)) (hov:c3Q X.P t ov) (hz:0<z)
 (h:b9e X 4 c2 ⟨a0t 0 (.row 0 z:: .v (.int .i64 (ix0:Int))::args), [(0, .row z n l ty)],1⟩ (b6D X fn.results.toList z n' l' ty) (c6i z bytes l' n' ty)) (h0:X.dfs= []:=by rfl) (hg:fn.ntmps≤E7:=by exact F7 rfl):b8Z X.P f z n l ty (.v (.int .i64 (ix0:Int))::args) z n' l':=by
 intro ok w v vl hrow hnok hrep hok hgi;have hg0:=hg;obtain⟨xs,hown,hrl,hfl,hlen⟩:=hrow;obtain⟨hsim,hrel⟩:=b8k (X:=X) hn (by simp only [P0];omega) hown hrl hfl hlen (fun b hb=>(hnok b hb).1) hrep hok h0 hg;have hA:=AG.lent hgi hnok;have hnok:=fun b hb=>(hnok b hb).1
 have q1:∃y,vl[0]?=some y∧y= .int .i64 (ix0:Int):=by
  cases vl with
  |nil=>simp [j1]at hrep
  |cons y r=>
   simp only [j1,Rep]at hrep;exact⟨y,rfl,hrep.1.1⟩
 obtain⟨y1,q1,rfl⟩:=q1;have hvl:vl.length≤2:=by rw [←hrep.length];simp;omega
 generalize hst0:(⟨a2p 0 (.row 0::vs vl), [(0, .row v n xs z ty)],1,w,w.heap.size, []⟩:St)=st0 at hsim hrel;refine calls_of_wp hf hb (c3I (hP.tt t i hi) hd hhd (by rw [hrel.size.1];show X.nt=95;omega) ?_ ?_ hown hix0 fun a1 s1 s2 s3=> ?_)
 · show((v::vl).toArray++_)[0]?=some v;rw [a4q (by simp)];simp
 · cases vl with
   |nil=>simp at q1
   |cons y r=>
    simp at q1;show((v::y::r).toArray++_)[1]?=_;rw [a4q (by simp)];simp [q1]
 have hrel1:Rel (cx X w (n9 v)) st0 a1 w:=by
  refine⟨⟨by rw [s1];show 95=X.nt;omega,hrel.size.2⟩,fun d s hs=> ?_,by rw [s2];exact hrel.dfs,hrel.cls,hrel.lo,hrel.iv⟩
  have hd6:d<6:=by
   subst hst0;obtain⟨_,h2⟩:=a0O (n:=0) hs;have h3:=(I5.1 h2).1;rw [P0,c1V]at h3;omega
  rcases hrel.T d s hs with h|h
  · exact .inl h
  · right;rw [G9,e9 (by simp only [E7];omega)]at h⊢;rw [s3 d hd6];exact h
 refine(b6B (A:=fun b=>b<w.heap.size→ok b∨b∈n9 v) (w0:=w) (bor:=n9 v) hA hP 4 c2 _ _ _ w _ _ h hsim hrel1 (fun e st' sy' a' w' hp hk hs' hl'=> ?_) fun st' sy' a' w' hk hs' hl'=> ?_)
 · refine b9F hP hp hk hs' hl'.rel (fun v' hrow hbl=>⟨v',rfl,hbl, ?_, ?_⟩) h0
   · obtain⟨xs',g1,g2,g3,g4⟩:=hrow;refine⟨xs',g1,j1.mono (fun b hbk=>⟨⟨?_,hbk.2⟩,rfl⟩) _ _ g2,g3,g4⟩;by_cases hlt:b<w.heap.size
     · rcases hbk.1.1 hlt with h|h
       · exact .inl h
       · exact .inr (.inl h)
     · exact .inr (.inr ⟨by omega,hbk.1.2⟩)
   · exact hl'.rel.cls.fx0
 · obtain⟨l1,n2,ix,m,lv,k0,k1,k2,k7,k8,kH,hix,hm,hbb,hnm,rfl,rfl⟩:=hk.ex;generalize b6k 4 c2=tc at htl⊢;have hr:=hl'.rel;obtain⟨e',hf',hre⟩:=hs'.H _ _ kH;cases e' with
   |blk=>exact hre.elim
   |mp=>exact hre.elim
   |row v1 n1 xs1 z1 ty1=>
    obtain⟨rfl,rfl,rfl,hrp,hfl1,hlen1⟩:=hre;have hdv:den st'.H (.row 0)=v1:=by simp [den,l3,hf']
    have tv:∀d x,d<X.nt→o4 sy'.T d=some (.v x)→a'.tmps[d]?=some x:=by
     intro d x hd hx;rcases hs'.T _ _ hx with h|⟨s,h1,h2⟩
     · cases h
     · simp only [d8]at h2;obtain⟨rfl,_⟩:=h2;rcases hr.T _ _ h1 with h|h
       · cases h
       · rw [G9,e9 (E3 hd (by rw [hn];exact hg0))]at h;rw [h];rfl
    have hnt:X.nt=95:=by omega
    have t0:a'.tmps[0]?=some v1:=by
     rcases hs'.T _ _ k0 with h|⟨s,h1,h2⟩
     · cases h
     · simp only [d8]at h2;obtain⟨rfl,_⟩:=h2;rcases hr.T _ _ h1 with h|h
       · cases h
       · rw [G9,e9 (by decide)]at h;rw [h,hdv]
    have t1:=tv 1 _ (by omega) k1;have t7:=tv 7 _ (by omega) k7;have t8:=tv 8 _ (by omega) k8
    obtain⟨y,t2,hy⟩:∃y,a'.tmps[2]?=some y∧Rep (okS (fun b=>b<w.heap.size→ok b∨b∈n9 v) st') w' (.lst z m lv) y:=by
     rcases hs'.T _ _ k2 with h|⟨s,h1,h2⟩
     · cases h
     · simp only [d8]at h2;obtain⟨y,rfl,h2⟩:=h2;refine⟨y, ?_,Rep.mono (fun b hb=>⟨hb,(a2Z hr.cls b hb).2⟩) _ _ h2⟩;rcases hr.T _ _ h1 with h|h
       · cases h
       · rw [G9,e9 (by decide)]at h;rw [h];rfl
    have hrp':j1 (okS (fun b=>b<w.heap.size→ok b∨b∈n9 v) st') w' l1 xs1:=j1.mono (fun b hb=>⟨hb,(a2Z hr.cls b hb).2⟩) _ _ hrp;simp only [Rep]at hy;obtain⟨sa0,mc,rfl,hmc,_,hlv,hflv,hyc⟩:=hy
    obtain⟨sb,so,ls,rfl,hokb,hrls,hcell⟩:∃b o xs,sa0=some ⟨b,o,none⟩∧okS (fun b=>b<w.heap.size→ok b∨b∈n9 v) st' b∧j1 (okS (fun b=>b<w.heap.size→ok b∨b∈n9 v) st') w' lv xs∧∀j,j<m*z→w'.cell? ⟨b,o+j,none⟩=xs[j]?:=by
     rcases hyc with h|h
     · omega
     · exact h
    have hown1:=hr.cls.row hf';obtain⟨hx1,hx2⟩:=hown1;rcases hx2 with⟨_,h0⟩|⟨g,cap,cur,rfl,_,hg,hnc,hcm,hcs,htk⟩
    · omega
    have hgb:g∈bs st'.H:=u2.2 ⟨0,_,l5 hf',by simp [bsE,n9]⟩;have hgl:=hr.cls.lb g hgb;have hlsl:ls.length=m*z:=by rw [←hrls.length,hlv]
    have hpos:0<m*z:=Nat.mul_pos hm hz;have one:∀ {l:List D} {r:List Value},j1 (okS (fun b=>b<w.heap.size→ok b∨b∈n9 v) st') w' l r→u7 l=true→∀x,x∈r→x.oneCell'=true:=fun hrr hff x hx=>by rw [←a5H];exact j1.one hrr hff x hx
    have hsb:∃cA tA fA,w'.heap[sb]?=some (.cells cA tA fA)∧cA.size≠0:=by
     have h1:=hcell 0 hpos;rw [M6 (by omega)]at h1;exact c0T h1
    have hIA:b7Y X a' w' t tI ty z bytes g n2 cap ix m mc ⟨sb,so,none⟩ ls cur.toList:=by
     refine⟨by rw [hr.size.1];exact hnt,t0,t1,t2,t7,t8,hix,hm,hnc,hcm,hnm,hbb,by simpa using hg,by simpa using hcs,hlsl,one hrls hflv, ?_, ?_,hsb, ?_,hint,hz⟩
     · rw [htk];exact one hrp' hfl1
     · exact fun e=>hokb.2.2 g hgb e.symm
     · intro W hW j u hu;have hj:j<m*z:=by rw [←hlsl];exact(I5.1 hu).1
       rw [G0,←hu,←hcell j hj];simp only [World.cell?];rw [hW]
    refine c3z hP (hP.tt t i hi) hd (hP.tt ty ie hie) hiz hIA hov htl fun a'' W v' hO hdf h6=> ?_
    obtain⟨⟨g',c',C,rfl,hg',hc1,hc2,hCs,hCt,hgg⟩,hfx⟩:=hO;show bodyPost _ _ _ .ret _ _;have f0:=hr.cls.fx0
    have hgl':g'∈n9 v∨w.heap.size≤g':=by
     rcases hgg with rfl|h
     · exact hgl
     · exact .inr (r7 f0.size h)
    refine⟨by rw [hdf];exact hr.dfs.trans h0, .slice (some ⟨g',0,none⟩) (n2+m) c', ?_,_,rfl, ?_, ?_, ?_⟩
    · rw [show results fn a''.tmps=_ from by unfold results;rw [hres]];simp [h6]
    · intro b hb;simp [n9]at hb;subst hb;exact hgl'
    · have hcx:cur.toList.take (ix*z)=xs1.take (ix*z):=by
       rw [←htk,List.take_take,a1j (Z6 _ (a2P hix))]
      rw [hcx,htk]at hCt;have hl2:(n2+m)*z=n2*z+m*z:=J3 _ _ _;have hl3:ix*z≤n2*z:=Z6 _ (a2P hix);refine⟨xs1.take (ix*z)++ls++xs1.drop (ix*z),⟨?_, .inr ⟨g',c',C,rfl,J4 _,hg',hc1,hc2,hCs,hCt⟩⟩, ?_, ?_, ?_⟩
      · rw [N0,N0,a1G,List.length_drop,hx1,hlsl,hl2];omega
      · refine j1.mono (fun b hb=> ?_) _ _ (j1.app (j1.app (j1.take hrp' (ix*z)) hrls) (j1.drop hrp' (ix*z)));have hb2:=a2Z hr.cls b hb;have hbw:b<w'.heap.size:=hb2.1.2.1;have hbg:b≠g:=fun e=>hb.2.2 g hgb e.symm
        have hbg':b≠g':=by
         rcases hgg with rfl|h
         · exact hbg
         · omega
        refine⟨⟨?_,by simpa [n9]using hbg'⟩,hfx.block b hbw fun c hc=>by simp at hc;subst hc;exact fun e=>hbg e.symm⟩
        by_cases hlt:b<w.heap.size
        · rcases hb.1.2 hlt with h|h
          · exact .inl h
          · exact .inr (.inl h)
        · exact .inr (.inr ⟨by omega,E3 hbw hfx.size⟩)
      · refine F0 fun d hd=> ?_
        rcases B2.1 hd with hd|hd
        · rcases B2.1 hd with hd|hd
          · exact u4 hfl1 (a3k hd)
          · exact u4 hflv hd
        · exact u4 hfl1 (a4w hd)
      · rw [N0,N0,a1G,List.length_drop,hlen1,hlv,hl2];omega
    · refine⟨hfx.os.trans f0.os,hfx.tape.trans f0.tape,hfx.output.trans f0.output,r7 f0.size hfx.size,fun k hk hn=> ?_⟩
      have hkg:∀c,c∈ [g]→c≠k:=by
       intro c hc e;simp at hc;subst hc;subst e;rcases hgl with h|h
       · exact hn _ h rfl
       · exact absurd hk (Nat.not_lt.2 h)
      rw [hfx.block k (E3 hk f0.size) hkg];exact f0.block k hk hn
theorem c0a {X:Cy} (hP:POK X.P X.tt) {f:FuncId} {fn:Func} {c:Code} {z n n':Nat} {l l':List D} {ty t tI tB:TypeId} {ov:FuncId} {args:List D} {i ie:TI} {bytes:Nat} {ix:Int} {c2:Code}
 (hf:X.P.funcs[f]?=some fn) (hb:fn.body=some c) (hn:X.nt=fn.ntmps) (hhd:a5Z t c2 c) (htl:a5J t tI tB ov (b6k 4 c2)) (hal:args.length≤1) (hix0:0≤ix∧ix.toNat≤n) (hi:A5 X.tt t=some i) (hd:i.d= .slice ty z bytes) (hie:A5 X.tt ty=some ie) (hiz:ie.n=z) (h95:fn.ntmps=95) (hres:fn.results= #[.tmp 6])
 (hint:X.P.underlying tI=some (.int .i64)) (hov:c3Q X.P t ov) (hz:0<z)
 (h:b7F X 4 c2 ⟨a0t 0 (.row 0 z::DI ix::args), [(0, .row z n l ty)],1⟩ (b6D X fn.results.toList z n' l' ty) (c6i z bytes l' n' ty)) (h0:X.dfs= []:=by rfl) (hg:fn.ntmps≤E7:=by exact F7 rfl):b8Z X.P f z n l ty (DI ix::args) z n' l':=by
 obtain⟨k,rfl⟩:∃k:Nat,ix=(k:Int):=⟨ix.toNat,(Int.toNat_of_nonneg hix0.1).symm⟩;exact c3i hP hf hb hn hhd htl hal (by have:=hix0.2;simpa using this) hi hd hie hiz h95 hres hint hov hz (by rw [c0J]at h;exact h) h0 hg
theorem c6R {α:Type} {c:α→List D} {z bytes:Nat} {l lv:List α} {i:Int} {ty:TypeId} {T:List (Nat×D)} {H:Hy} {nk:Nat} (hc:∀x,(c x).length=z)
 (h:0≤i∧i.toNat<l.length∧0<lv.length∧(l.length+lv.length)*bytes≤140737488355328∧l.length+lv.length≤9223372036854775807)
 (h0:o4 T 0=some (.row 0 z):=by rfl) (h1:o4 T 1=some (DI i):=by rfl) (h2:o4 T 2=some (.lst z lv.length (lv.flatMap c)):=by rfl) (h7:o4 T 7=some (DI lv.length):=by rfl) (h8:o4 T 8=some (DI l.length):=by rfl)
 (hH:j7 H 0=some (.row z l.length (l.flatMap c) ty):=by rfl):c6i z bytes ((l.take i.toNat++lv++l.drop i.toNat).flatMap c) (l.take i.toNat++lv++l.drop i.toNat).length ty ⟨T,H,nk⟩:=by
 obtain⟨g1,g2,g3,g4,g5⟩:=h;refine⟨l.flatMap c,l.length,i.toNat,lv.length,lv.flatMap c,h0, ?_,h2,h7,h8,hH,g2,g3,g4,by simpa [maxLen]using g5, ?_, ?_⟩
 · rw [h1,Int.toNat_of_nonneg g1]
 · rw [List.flatMap_append,List.flatMap_append,a8P hc];congr 1;have h3:(l.take i.toNat).flatMap c++(l.drop i.toNat).flatMap c=l.flatMap c:=by rw [←List.flatMap_append,b3R]
   have h4:((l.take i.toNat).flatMap c).length=i.toNat*z:=by
    rw [a0Y hc,a1G,a1j (a2P g2)]
   rw [←h3,List.drop_left' h4]
 · simp;omega
abbrev a6s (x:Int):List D:= [.v (.int .u8 x)]
def D5 (s:ByteArray):List Int:=s.data.toList.map fun b=>(b.toNat:Int)
theorem b0L {s:ByteArray} {y:List Int} {c:Int→List D} (hc:∀x,c x= [.v (.int .u8 x)]) (h:some (D5 s)=some y):a8K s=y.flatMap c∧s.size=y.length:=by
 cases h;refine⟨?_,by simp [D5]⟩;unfold a8K D5
 induction s.data.toList with
 |nil=>rfl
 |cons b l ih=>rw [C4,ih,C4,L3,hc];rfl
theorem b5r {c:Int→List D} (hc:∀x,c x= [.v (.int .u8 x)]):∀(y:List Int),y.flatMap c=y.map fun x=> .v (.int .u8 x)
 | []=>rfl
 |x::y=>by rw [L3,hc,b5r hc y];rfl
section
variable {K V : Type}
def mpE (ag:Bool) (kc:K→List Value) (ev:V→Value) (l:List (K×V)):List (Value×Value):=l.map fun p=>(B9 ag (kc p.1),ev p.2)
variable [DecidableEq K]
def z8:List (K×V)→K→Option V
 | [],_=>none
 |(a,v)::r,k=>if k=a then some v else z8 r k
def a4H:List (K×V)→K→V→List (K×V)
 | [],k,v=> [(k,v)]
 |(a,x)::r,k,v=>if k=a then(k,v)::r else(a,x)::a4H r k v
variable {ag : Bool} {kc : K → List Value} {ev : V → Value}
theorem b7t (hk:∀a b,N9 (kc a) (y5 (B9 ag (kc b)))=decide (a=b)) (k:K):∀(l:List (K×V)),a7L (mpE ag kc ev l) (kc k)=(z8 l k).map ev
 | []=>rfl
 |(a,v)::r=>by
  have:=b7t hk k r;simp only [mpE,C4,a7L,hk,z8]at this⊢;by_cases h:k=a
  · simp [h]
  · simp [h,this]
theorem a2f (hk:∀a b,N9 (kc a) (y5 (B9 ag (kc b)))=decide (a=b)) {k:K} {l:List (K×V)} {z:Value} {z':V} (hz:z=ev z'):(a7L (mpE ag kc ev l) (kc k)).getD z=ev ((z8 l k).getD z'):=by
 rw [b7t hk,hz];cases z8 l k<;>rfl
theorem a2j (hk:∀a b,N9 (kc a) (y5 (B9 ag (kc b)))=decide (a=b)) {k:K} {l:List (K×V)}:(a7L (mpE ag kc ev l) (kc k)).isSome=(z8 l k).isSome:=by
 rw [b7t hk];cases z8 l k<;>rfl
theorem b5a (hk:∀a b,N9 (kc a) (y5 (B9 ag (kc b)))=decide (a=b)) {k:K} {v:V}:∀ {l:List (K×V)},a4N (B9 ag (kc k)) (ev v) (mpE ag kc ev l) (kc k)=mpE ag kc ev (a4H l k v)
 | []=>rfl
 |(a,x)::r=>by
  have:=b5a hk (k:=k) (v:=v) (l:=r);simp only [mpE,C4,a4N,hk,a4H]at this⊢;by_cases h:k=a
  · simp [h]
  · simp [h,this]
end
def O2 (n:Int):ByteArray:=⟨(Lib.itoa n).toArray⟩
structure a5B (P:Program) (nm:String) (b:Nat):Prop where
 at_:(P.globals[b]?).map (·.name)=some nm
 nm:P.globalNamed nm=some b
theorem a5B.get {P:Program} {nm:String} {b:Nat} (h:a5B P nm b):∃g,P.globals[b]?=some g∧g.name=nm:=by
 have:=h.at_;cases hg:P.globals[b]? with
 |none=>simp [hg]at this
 |some g=>simp [hg]at this;exact⟨g,rfl,this⟩
theorem GIW.tab {P:Program} {w:World} (h:GIW P w) {b:Nat} (hg:a5B P "internal/strconv.uint64pow10" b):Lib.TabIs P w "internal/strconv.uint64pow10" .u64 Lib.pow10Tab:=by
 obtain⟨g,h1,h2⟩:=hg.get;unfold Lib.TabIs;rw [h.pow10 h1 h2 hg.nm];rfl
theorem GIW.errs {P:Program} {w:World} (h:GIW P w) {b:Nat} (hg:a5B P "strconv.ErrSyntax" b∨a5B P "strconv.ErrRange" b):∃tp p,w.cell? ⟨b,0,none⟩=some (.iface tp p):=by
 rcases hg with hg|hg
 · obtain⟨g,h1,h2⟩:=hg.get;exact h.err h1 (.inl h2)
 · obtain⟨g,h1,h2⟩:=hg.get;exact h.err h1 (.inr h2)
theorem c5f {ok:Nat→Prop} {w:World} {x:Value} {vs:List Value} (h:j1 ok w [.v x] vs):vs= [x]:=by
 match vs,h with
 | [v],h=>simp only [j1,Rep]at h;rw [h.1.1]
 | [],h=>simp [j1]at h
 |_::_::_,h=>simp [j1]at h
theorem c5h {ok:Nat→Prop} {w:World} {x y:Value} {vs:List Value} (h:j1 ok w [.v x, .v y] vs):vs= [x,y]:=by
 match vs,h with
 | [a,b],h=>simp only [j1,Rep]at h;rw [h.1.1,h.2.1.1]
 | [],h=>simp [j1]at h
 | [_],h=>simp [j1]at h
 |_::_::_::_,h=>simp [j1]at h
section
variable {P : Program} {ρ : Go.Shelf.Ren}
theorem b7j (L:Go.Proofs.LaysM.n316 P ρ) (s:ByteArray) (h:s.size≤281474976710656):q8 P (ρ.f 316) [.v (.string s)] fun x=>x= .v (.string s):=by
 intro ok w vs hr _ _;rw [c5f hr];exact(Go.Proofs.Any.stringslite_Clone L s w h).mono fun e w' ⟨he,hb⟩=>⟨_,_,he,rfl,by simp [Rep,a0K],hb⟩
theorem b6o (L:Go.Proofs.Lays.n219 P ρ) (s:ByteArray) (c:UInt8):q8 P (ρ.f 219) [.v (.string s), .v (.string ⟨#[c]⟩)] fun x=>x= .v (.int .i64 (Lib.indexByte s.data.toList c)):=by
 intro ok w vs hr _ _;rw [c5h hr];refine(Go.Proofs.Any.stringslite_Index_one L s c w).mono fun e w' ⟨he,hw⟩=> ?_
 subst hw;exact⟨_,_,he,rfl,by simp [Rep,a0K],⟨rfl,rfl,rfl,u0 _,fun _ _=>rfl⟩⟩
theorem b5k (L:Go.Proofs.Lays.n219 P ρ) (s sep:ByteArray) (h:sep.size=1):q8 P (ρ.f 219) [.v (.string s), .v (.string sep)] fun x=>x= .v (.int .i64 (Lib.indexByte s.data.toList (sep.data.toList.headD 0))):=by
 obtain⟨⟨l⟩⟩:=sep
 match l,h with
 | [c],_=>exact b6o L s c
end
theorem q8.contract {P:Program} {f:FuncId} {ds:List D} {r:D} (h:q8 P f ds fun x=>x=r) {w:World} {vs:List Value} (hr:j1 (fun _=>False) w ds vs) (hg:GIW P w):
 Calls P f vs.toArray w fun e w'=>∃v,e= .returned v∧Rep (fun b=>w.heap.size≤b∧b<w'.heap.size) w' r v∧Below w.heap.size w w':=by
 refine(h (fun _=>False) w vs hr (fun _ hb=>hb.elim) hg).mono fun e w' ⟨v,r',he,hq,hrep,hb⟩=> ?_
 subst hq;exact⟨v,he,Rep.mono (fun b hb=>⟨by simpa using hb,rfl⟩) _ _ hrep,hb⟩
theorem b4z {P:Program} {w:World} {nm:String} {b:Nat} {cs:Array Value} (hg:P.globalNamed nm=some b) (h:w.var? P nm=some cs):∃ty fr,w.heap[b]?=some (.cells cs ty fr):=by
 unfold World.var? at h;rw [hg,j3]at h;cases hb:w.heap[b]? with
 |none=>rw [hb]at h;cases h
 |some o=>
  rw [hb]at h;cases o with
  |cells c ty fr=>cases h;exact⟨ty,fr,rfl⟩
  |_=>cases h
theorem GIW.ofLaid {P:Program} {w:World} {last:String} {b:Nat} {cs:Array Value} {tp tp':TypeId} {p p':Value} (hn:P.globals.size=b+1) (hlast:P.globalNamed last=some b) (hv:w.var? P last=some cs)
 (h10:Lib.TabIs P w "internal/strconv.uint64pow10" .u64 Lib.pow10Tab) (hs:w.var? P "strconv.ErrSyntax" =some #[.iface tp p]) (hr:w.var? P "strconv.ErrRange" =some #[.iface tp' p'])
 (hu:∀(b:Nat) (g:Global),P.globals[b]?=some g→P.globalNamed g.name=some b):GIW P w:=by
 refine⟨?_,fun b g hg=>⟨fun e=> ?_,fun e=> ?_⟩⟩
 · obtain⟨ty,fr,h⟩:=b4z hlast hv;have:=(O1.1 h).1;omega
 · have hb:=hu b g hg;rw [e]at hb;obtain⟨ty,fr,h⟩:=b4z hb h10;exact⟨ty,fr,by rw [h];rfl⟩
 · have hb:=hu b g hg;rcases e with e|e
   · rw [e]at hb;obtain⟨ty,fr,h⟩:=b4z hb hs;exact⟨_,_,ty,fr,h⟩
   · rw [e]at hb;obtain⟨ty,fr,h⟩:=b4z hb hr;exact⟨_,_,ty,fr,h⟩
def InK (k:IntKind) (x:Int):Prop:=k.min≤x∧x≤k.max
structure A4 (P:Program) (t:TypeId) {X:Type} (c:X→List D) (G:X→Prop):Prop where
 op:∀ {H:Type} (enc:TypeId×Value→H) (w:World) (fuel:Nat) (cs:List Value) (d:DataW H) (ps:List MemPlace),DataW.trod enc P w 0 (fun _=>true) true fuel t cs=some (d,ps)→(∀n,n∈d.weights P t→n≤reachBytes)→
  ∃x,j1 (fun b=>b<w.heap.size) w (c x) cs∧G x
structure G7 (P:Program) (fs:List Field) (o n:Nat) {X:Type} (c:X→List D) (G:X→Prop):Prop where
 op:∀ {H:Type} (enc:TypeId×Value→H) (w:World) (fuel:Nat) (cs:List Value) (xs:List (DataW H×List MemPlace)),cs.length=n→(fs.mapM fun f=>DataW.trod enc P w 0 (fun _=>true) true fuel f.type ((cs.drop f.offset).take (P.cellsOf f.type)))=some xs→
  (∀m,m∈DataW.weightsEach P (fs.map (·.type)) (xs.map (·.1))→m≤reachBytes)→∃x,j1 (fun b=>b<w.heap.size) w (c x) (cs.drop o)∧G x
structure a8L (P:Program) (e:TypeId) (is:List Nat) (o n:Nat) {X:Type} (c:X→List D) (G:X→Prop):Prop where
 op:∀ {H:Type} (enc:TypeId×Value→H) (w:World) (fuel:Nat) (cs:List Value) (xs:List (DataW H×List MemPlace)),cs.length=n→(is.mapM fun i=>DataW.trod enc P w 0 (fun _=>true) true fuel e ((cs.drop (i*P.cellsOf e)).take (P.cellsOf e)))=some xs→
  (∀m,m∈DataW.weightsAll P e (xs.map (·.1))→m≤reachBytes)→∃x,j1 (fun b=>b<w.heap.size) w (c x) (cs.drop o)∧G x
section
variable {P : Program} {t e : TypeId}
theorem c1b {α β:Type} {f:α→Option β}:∀ {l:List α} {r:List β},l.mapM f=some r→r.length=l.length∧∀(i:Nat) (a:α),l[i]?=some a→∃b,r[i]?=some b∧f a=some b:=by
 intro l
 induction l with
 |nil=>intro r h;simp at h;subst h;simp
 |cons a l ih=>
  intro r h;rw [List.mapM_cons]at h;cases ha:f a with
  |none=>rw [ha]at h;cases h
  |some b=>
   rw [ha]at h;cases hl:l.mapM f with
   |none=>rw [hl]at h;cases h
   |some s=>
    rw [hl]at h;cases h;obtain⟨h1,h2⟩:=ih hl;refine⟨by simp [h1],fun i x hx=> ?_⟩;cases i with
    |zero=>simp at hx;subst hx;exact⟨b,by simp,ha⟩
    |succ i=>simp at hx;simpa using h2 i x hx
theorem Q9 {α β:Type} {f:α→Option β} {a:α} {l:List α} {r:List β} (h:(a::l).mapM f=some r):∃b s,f a=some b∧l.mapM f=some s∧r=b::s:=by
 rw [List.mapM_cons]at h;cases ha:f a with
 |none=>rw [ha]at h;cases h
 |some b=>
  rw [ha]at h;cases hl:l.mapM f with
  |none=>rw [hl]at h;cases h
  |some s=>rw [hl]at h;cases h;exact⟨b,s,rfl,rfl,rfl⟩
theorem A4.int {k:IntKind} (hu:P.underlying t=some (.int k)):A4 P t (fun x:Int=> [.v (.int k x)]) (fun x=>InK k x):=by
 refine⟨fun enc w fuel cs d ps h _=> ?_⟩;obtain⟨n,rfl,_,hwf⟩:=DataW.trod_int hu h;exact⟨n,⟨⟨rfl,rfl⟩,trivial⟩,by simpa [Lit.wf,InK]using hwf⟩
theorem A4.bool (hu:P.underlying t=some .bool):A4 P t (fun x:Bool=> [.v (.bool x)]) (fun _=>True):=by
 refine⟨fun enc w fuel cs d ps h _=> ?_⟩;obtain⟨b,rfl,_⟩:=DataW.trod_bool hu h;exact⟨b,⟨⟨rfl,rfl⟩,trivial⟩,trivial⟩
theorem A4.str (hu:P.underlying t=some .string):A4 P t (fun x:ByteArray=> [.v (.string x)]) (fun x=>x.size≤reachBytes):=by
 refine⟨fun enc w fuel cs d ps h hw=> ?_⟩;obtain⟨s,rfl,hx,_⟩:=DataW.trod_string hu h;cases hx;refine⟨s,⟨⟨rfl,rfl⟩,trivial⟩, ?_⟩;have:=hw s.data.toList.length (by simp [DataW.weights]);simpa using this
theorem A4.iso {X Y:Type} {c:X→List D} {G:X→Prop} {c':Y→List D} {G':Y→Prop} (h:A4 P t c G) (f:X→Y) (hc:∀x,c x=c' (f x)) (hG:∀x,G x→G' (f x)):A4 P t c' G':=
 ⟨fun enc w fuel cs d ps ht hw=>by obtain⟨x,h1,h2⟩:=h.op enc w fuel cs d ps ht hw;exact⟨f x,hc x▸h1,hG x h2⟩⟩
theorem G7.nil {o:Nat}:G7 P [] o o (fun _:Unit=> []) (fun _=>True):=
 ⟨fun enc w fuel cs xs hl _ _=>⟨(),by rw [List.drop_of_length_le (by omega)];trivial,trivial⟩⟩
theorem G7.cons {f:Field} {fs:List Field} {o s n:Nat} {X Y:Type} {c:X→List D} {G:X→Prop} {c':Y→List D} {G':Y→Prop} (h:A4 P f.type c G) (hk:G7 P fs (o+s) n c' G') (ho:f.offset=o) (hs:P.cellsOf f.type=s):
 G7 P (f::fs) o n (fun x:X×Y=>c x.1++c' x.2) (fun x=>G x.1∧G' x.2):=by
 refine⟨fun enc w fuel cs xs hl hm hw=> ?_⟩;obtain⟨b,r,h1,h2,rfl⟩:=Q9 hm;obtain⟨d,ps⟩:=b;simp only [C4,DataW.weightsEach]at hw;obtain⟨x,g1,g2⟩:=h.op enc w fuel _ d ps h1 fun n hn=>hw n (a3m _ hn)
 obtain⟨y,g3,g4⟩:=hk.op enc w fuel cs r hl h2 fun n hn=>hw n (a6m _ hn)
 rw [ho,hs]at g1;refine⟨(x,y), ?_,g2,g4⟩;have:cs.drop o=(cs.drop o).take s++cs.drop (o+s):=by rw [←List.drop_drop,b3R]
 rw [this];exact j1.app g1 g3
theorem G7.last {f:Field} {o s n:Nat} {X:Type} {c:X→List D} {G:X→Prop} (h:A4 P f.type c G) (ho:f.offset=o) (hs:P.cellsOf f.type=s) (hn:o+s=n):G7 P [f] o n c G:=by
 subst hn;refine⟨fun enc w fuel cs xs hl hm hw=> ?_⟩;obtain⟨x,h1,h2⟩:=(G7.cons h (G7.nil (P:=P) (o:=o+s)) ho hs).op enc w fuel cs xs hl hm hw;exact⟨x.1,by simpa using h1,h2.1⟩
theorem A4.struct {F:Array Field} {n:Nat} {X:Type} {c:X→List D} {G:X→Prop} (hu:P.underlying t=some (.struct F)) (h:G7 P F.toList 0 n c G) (hn:P.cellsOf t=n):A4 P t c G:=by
 refine⟨fun enc w fuel cs d ps ht hw=> ?_⟩;cases fuel with
 |zero=>simp [DataW.trod]at ht
 |succ fuel=>
  simp only [DataW.trod,hu]at ht;split at ht
  · rename_i hl;rw [Option.map_eq_some_iff]at ht;obtain⟨xs,hx,he⟩:=ht;cases he;simp only [DataW.weights,hu]at hw;obtain⟨x,h1,h2⟩:=h.op enc w fuel cs xs (by omega) hx hw;exact⟨x,by simpa using h1,h2⟩
  · cases ht
theorem a8L.last {i o s n:Nat} {X:Type} {c:X→List D} {G:X→Prop} (h:A4 P e c G) (ho:i*s=o) (hs:P.cellsOf e=s) (hn:o+s=n):a8L P e [i] o n c G:=by
 refine⟨fun enc w fuel cs xs hl hm hw=> ?_⟩;obtain⟨b,r,h1,h2,rfl⟩:=Q9 hm;obtain⟨d,ps⟩:=b;simp only [C4,DataW.weightsAll]at hw;obtain⟨x,g1,g2⟩:=h.op enc w fuel _ d ps h1 fun n hn=>hw n (a3m _ hn)
 rw [hs,ho]at g1;refine⟨x, ?_,g2⟩;rwa [b1a (by simp;omega)]at g1
theorem a8L.cons {i:Nat} {is:List Nat} {o s n:Nat} {X Y:Type} {c:X→List D} {G:X→Prop} {c':Y→List D} {G':Y→Prop} (h:A4 P e c G) (hk:a8L P e is (o+s) n c' G') (ho:i*s=o) (hs:P.cellsOf e=s):
 a8L P e (i::is) o n (fun x:X×Y=>c x.1++c' x.2) (fun x=>G x.1∧G' x.2):=by
 refine⟨fun enc w fuel cs xs hl hm hw=> ?_⟩;obtain⟨b,r,h1,h2,rfl⟩:=Q9 hm;obtain⟨d,ps⟩:=b;simp only [C4,DataW.weightsAll]at hw;obtain⟨x,g1,g2⟩:=h.op enc w fuel _ d ps h1 fun n hn=>hw n (a3m _ hn)
 obtain⟨y,g3,g4⟩:=hk.op enc w fuel cs r hl h2 fun n hn=>hw n (a6m _ hn)
 rw [hs,ho]at g1;refine⟨(x,y), ?_,g2,g4⟩;have:cs.drop o=(cs.drop o).take s++cs.drop (o+s):=by rw [←List.drop_drop,b3R]
 rw [this];exact j1.app g1 g3
theorem A4.arr {m n:Nat} {X:Type} {c:X→List D} {G:X→Prop} (hu:P.underlying t=some (.array m e)) (h:a8L P e (List.range m) 0 n c G) (hn:P.cellsOf t=n):A4 P t c G:=by
 refine⟨fun enc w fuel cs d ps ht hw=> ?_⟩;cases fuel with
 |zero=>simp [DataW.trod]at ht
 |succ fuel=>
  simp only [DataW.trod,hu]at ht;split at ht
  · rename_i hl;rw [Option.map_eq_some_iff]at ht;obtain⟨xs,hx,he⟩:=ht;cases he;simp only [DataW.weights,hu]at hw;obtain⟨x,h1,h2⟩:=h.op enc w fuel cs xs (by omega) hx hw;exact⟨x,by simpa using h1,h2⟩
  · cases ht
theorem a6Y {w:World} {a:Addr} {n:Nat} {cs:List Value} (h:w.cells? 0 a n=some cs):cs.length=n∧∀i,i<n→w.cell? (a.add i)=cs[i]?:=by
 unfold World.cells? at h;rw [e9 (J4 _)]at h;obtain⟨h1,h2⟩:=c1b h;refine⟨by simpa using h1,fun i hi=> ?_⟩
 obtain⟨b,h3,h4⟩:=h2 i i (by simp [hi]);rw [h4,h3]
theorem a5c {H:Type} {e:TypeId}:∀ {l:List (DataW H)} {d:DataW H},d∈l→∀n,n∈d.weights P e→n∈DataW.weightsAll P e l
 |x::l,d,h,n,hn=>by
  simp only [DataW.weightsAll];rcases o5.1 h with rfl|h
  · exact a3m _ hn
  · exact a6m _ (a5c h n hn)
 | [],_,h,_,_=>by cases h
theorem b3N {X:Type} {c:X→List D} {G:X→Prop} {ok:Nat→Prop} {w:World} {b o z:Nat} (hc:∀x,(c x).length=z):∀(n k:Nat),(∀i,i<n→∃x cs,j1 ok w (c x) cs∧G x∧∀j,j<z→w.cell? ⟨b,o+((k+i)*z+j),none⟩=cs[j]?)→
 ∃(l:List X) (vs:List Value),l.length=n∧(∀x,x∈l→G x)∧j1 ok w (l.flatMap c) vs∧∀j,j<n*z→w.cell? ⟨b,o+(k*z+j),none⟩=vs[j]?
 |0,k,h=>⟨[], [],rfl,by simp,trivial,fun j hj=>by simp at hj⟩
 |n+1,k,h=>by
  obtain⟨x,cs,h1,h2,h3⟩:=h 0 (by omega)
  obtain⟨l,vs,g1,g2,g3,g4⟩:=b3N hc n (k+1) fun i hi=>by
   obtain⟨x,cs,h1,h2,h3⟩:=h (i+1) (by omega);exact⟨x,cs,h1,h2,fun j hj=>by rw [←h3 j hj];congr 3;rw [show k+1+i=k+(i+1) from by omega]⟩
  have hl:=h1.length;rw [hc]at hl;refine⟨x::l,cs++vs,by simp [g1], ?_, ?_,fun j hj=> ?_⟩
  · intro y hy;rcases o5.1 hy with rfl|hy
    · exact h2
    · exact g2 y hy
  · rw [L3];exact j1.app h1 g3
  · by_cases hlt:j<z
    · rw [a8Y (by omega),←h3 j hlt];simp
    · rw [b3f (by omega),←hl,←g4 (j-z) (by rw [J3]at hj;omega)];congr 3;rw [J3];omega
theorem c1j {X:Type} {c:X→List D} (h:∀x,u7 (c x)=true) (l:List X):u7 (l.flatMap c)=true:=by
 refine F0 fun d hd=> ?_
 obtain⟨x,_,hx⟩:=List.mem_flatMap.1 hd;exact u4 (h x) hx
theorem A4.slice {z bytes:Nat} {X:Type} {c:X→List D} {G:X→Prop} (hu:P.underlying t=some (.slice e)) (h:A4 P e c G) (hz:P.cellsOf e=z) (hb:P.bytesOf e=bytes) (hc:∀x,(c x).length=z) (hfl:∀x,u7 (c x)=true) (hpos:0<z):
 A4 P t (fun l:List X=> [.lst z l.length (l.flatMap c)]) (fun l=>l.length*bytes≤reachBytes∧l.length≤maxLen∧∀x,x∈l→G x):=by
 refine⟨fun enc w fuel cs d ps ht hw=> ?_⟩;rcases DataW.trod_slice hu ht with⟨rfl,_⟩|⟨a,n,cap,elems,rest,fuel',rfl,rfl,hx,_,hnc,hcm,e1,e2,hrest,_⟩
 · refine⟨[],⟨?_,trivial⟩,by simp,by simp,by simp⟩;simp only [Rep];exact⟨none,0,rfl,u0 _,by simp,by simp,rfl, .inl rfl⟩
 · obtain⟨r1,r2⟩:=hrest rfl;obtain⟨rfl,rfl⟩:=Prod.mk.inj hx;simp only [DataW.weights,hu]at hw
   have hbytes:(n+(cap-n))*bytes≤reachBytes:=by
    have:=hw _ F5;simpa [e1,r1,hb]using this
   have hnb:n*bytes≤reachBytes:=r7 (Z6 _ (by omega)) hbytes;by_cases hc0:cap=0
   · obtain rfl:n=0:=by omega
     refine⟨[],⟨?_,trivial⟩,by simp,by simp,by simp⟩;simp only [Rep];exact⟨some a,cap,rfl,hnc,by simp,by simp,rfl, .inl hc0⟩
   · --the first place lies in memory
     have hspot:a.spot=none∧a.block<w.heap.size:=by
      have hcell:∃v,w.cell? a=some v:=by
       by_cases hn0:0<n
       · have h4:=e2 0 hn0;rw [M6 (by omega),Option.bind_eq_some_iff]at h4;obtain⟨cs,h5,_⟩:=h4;obtain⟨h6,h7⟩:=a6Y h5;have:=h7 0 (by omega);simp only [Nat.zero_mul,Addr.add,C6]at this;exact⟨cs[0]'(by omega),by rw [this];simp [h6,hz,hpos]⟩
       · have h4:=r2 0 (by omega);rw [M6 (by omega),Option.bind_eq_some_iff]at h4;obtain⟨cs,h5,_⟩:=h4;obtain⟨h6,h7⟩:=a6Y h5;have:=h7 0 (by omega);have hn0':n=0:=by omega
         simp only [hn0',Nat.add_zero,Nat.zero_mul,Addr.add,C6]at this;exact⟨cs[0]'(by omega),by rw [this];simp [h6,hz,hpos]⟩
      obtain⟨v,hv⟩:=hcell;unfold World.cell? at hv;split at hv
      · rename_i c t fr hcl;split at hv
        · cases hv
        · rename_i hs;exact⟨by simpa using hs,(O1.1 hcl).1⟩
      · cases hv
     obtain⟨b,o,sp⟩:=a;obtain⟨hsp,hblk⟩:=hspot;simp only at hsp hblk;subst hsp
     have haddr:∀k j:Nat,((⟨b,o,none⟩:Addr).add k).add j=⟨b,o+(k+j),none⟩:=by
      intro k j;unfold Addr.add;by_cases hk:k=0<;>by_cases hj:j=0<;>simp [hk,hj]<;>omega
     obtain⟨l,vs,g1,g2,g3,g4⟩:=b3N (ok:=fun b=>b<w.heap.size) (G:=G) (w:=w) (b:=b) (o:=o) hc n 0 fun i hi=>by
      have h4:=e2 i hi;have h3:elems[i]?=some (elems[i]'(by omega)):=M6 (by omega);rw [h3,Option.bind_eq_some_iff]at h4;obtain⟨cs,h5,h6⟩:=h4;obtain⟨h7,h8⟩:=a6Y h5;obtain⟨x,x1,x2⟩:=h.op enc w fuel' cs _ _ h6 fun n hn=>hw n (A9 _ (a3m _ (a5c (E8.2 ⟨_,a7K h3,rfl⟩) n hn)))
      refine⟨x,cs,x1,x2,fun j hj=> ?_⟩;rw [←h8 j (by omega),haddr,hz,R6]
     refine⟨l,⟨?_,trivial⟩,by rw [g1];exact hnb,by omega,g2⟩;simp only [Rep];refine⟨some ⟨b,o,none⟩,cap,by rw [g1],by omega,by rw [g1];simp only [maxLen]at hcm;omega,by rw [a0Y hc],c1j hfl l, .inr ⟨b,o,vs,rfl,hblk,g3,fun j hj=> ?_⟩⟩;have:=g4 j (by rw [←g1];exact hj);simpa using this
theorem A4.arg_agg {X:Type} {c:X→List D} {G:X→Prop} (h:A4 P t c G) (hfl:∀x,u7 (c x)=true) {H:Type} {enc:TypeId×Value→H} {w:World} {r:Reach} {b0:Nat} {v:Value} {d:DataW H} {ps:List MemPlace}
 (hu:(match P.underlying t with|some (.struct _)=>true|some (.array _ _)=>true|_=>false)=true) (hval:Value.okWide P w r b0 t v) (ht:DataW.Trod enc P w 0 (fun _=>true) true t v d ps) (hw:∀n,n∈d.weights P t→n≤reachBytes):
 ∃x,Rep (fun b=>b<w.heap.size) w (.agg (c x)) v∧G x:=by
 obtain⟨fuel,ht⟩:=ht;obtain⟨x,h1,h2⟩:=h.op enc w fuel _ d ps ht hw;refine⟨x, ?_,h2⟩;unfold Value.okWide at hval;split at hval
 · obtain⟨cs,rfl,_⟩:=hval;simp only [Rep];exact⟨cs,rfl,h1,hfl x⟩
 · obtain⟨cs,rfl,_⟩:=hval;simp only [Rep];exact⟨cs,rfl,h1,hfl x⟩
 · rename_i h3 h4;split at hu
   · rename_i hx;exact absurd hx (h3 _)
   · rename_i hx;exact absurd hx (h4 _ _)
   · cases hu
theorem A4.arg_one {X:Type} {f:X→D} {G:X→Prop} (h:A4 P t (fun x=> [f x]) G) {H:Type} {enc:TypeId×Value→H} {w:World} {r:Reach} {b0:Nat} {v:Value} {d:DataW H} {ps:List MemPlace}
 (hu:(match P.underlying t with|some .bool=>true|some .string=>true|some (.int _)=>true|some (.slice _)=>true|_=>false)=true) (hval:Value.okWide P w r b0 t v) (ht:DataW.Trod enc P w 0 (fun _=>true) true t v d ps) (hw:∀n,n∈d.weights P t→n≤reachBytes):
 ∃x,Rep (fun b=>b<w.heap.size) w (f x) v∧G x:=by
 obtain⟨fuel,ht⟩:=ht;obtain⟨x,h1,h2⟩:=h.op enc w fuel _ d ps ht hw;refine⟨x, ?_,h2⟩
 have hc:v.cells= #[v]:=by
  cases v with
  |agg cs=>
   exfalso;unfold Value.okWide Cell.okWide Cell.ok at hval;split at hu<;>rename_i hx<;>first|(rw [hx]at hval;simp at hval;done)|(cases hu;done)|skip
  |_=>rfl
 rw [hc]at h1;simpa [j1]using h1
theorem a6o {H:Type} {enc:TypeId×Value→H} (hl:laidOutB P=true) {W W':World} (hb:Below W.heap.size W W'):∀ {ts:List TypeId} {vs:List Value} {ds:List (DataW H)} {ps:List MemPlace},(∀t,t∈ts→P.readableRec t=true∧t<P.types.size)→
 DataW.TrodAll enc P W 0 (fun _=>true) true ts vs ds ps→(∀x,x∈ps→x.block<W.heap.size)→DataW.TrodAll enc P W' 0 (fun b=>decide (b<W.heap.size)) true ts vs ds ps
 | [], [], [],ps,_,h,_=>h
 |t::ts,v::vs,d::ds,ps,hr,h,hlt=>by
  obtain⟨p,q,h1,h2,rfl⟩:=h;exact⟨p,q,Below.trod hl (hr t F5).1 (hr t F5).2 h1 hb fun x hx=>hlt x (a3m _ hx),a6o hl hb (fun t ht=>hr t (A9 _ ht)) h2 fun x hx=>hlt x (a6m _ hx),rfl⟩
 | [],_::_,_,_,_,h,_=>by simp [DataW.TrodAll]at h
 | [], [],_::_,_,_,h,_=>by simp [DataW.TrodAll]at h
 |_::_, [],_,_,_,h,_=>by simp [DataW.TrodAll]at h
 |_::_,_::_, [],_,_,h,_=>by simp [DataW.TrodAll]at h
theorem c1W {H:Type} {enc:TypeId×Value→H} {f:Func} {n:FuncId} {s:ChangeSpec} {W:World} {args:Array Value} {ds gs:List (DataW H)} {before:List MemPlace} {Ds:List D} {tb:TypeId}
 (hl:laidOutB P=true) (hr:∀t,t∈f.params.toList→P.readableRec t=true∧t<P.types.size) (hvars:s.vars= []) (hrt:f.resultTypes= #[tb]) (htb:P.underlying tb=some .bool)
 (hfn:(s.fn H (ds++gs)).results= [.lit (.bool true)]) (hfa:(s.fn H (ds++gs)).args=ds) (hfv:(s.fn H (ds++gs)).vars= [])
 (hW:DataW.Whole enc P f.params.toList s.vars false W args.toList ds gs before) (hrep:j1 (fun b=>b<W.heap.size) W Ds args.toList) (hd:q8 P n Ds fun x=>x= .v (.bool true)) (hgi:GIW P W):
 Calls P n args W fun e W'=>∃v,e= .returned v∧s.post enc P f false true false false W args v W':=by
 refine(hd (fun b=>b<W.heap.size) W args.toList hrep (fun _ h=>h) hgi).mono fun e W' ⟨v,r,he,hq,hrp,hb⟩=> ?_
 subst he;subst hq;simp only [Rep]at hrp;obtain⟨rfl,_⟩:=hrp;refine⟨_,rfl, ?_⟩;have hW':=hW;have hlt:=hW.lt;obtain⟨p,q,hA,hV,rfl,hfz,hnd⟩:=hW;rw [hvars]at hV
 obtain⟨rfl,rfl⟩:gs= []∧q= []:=by
  cases gs with
  |nil=>exact⟨rfl,hV⟩
  |cons=>simp [DataW.TrodVars]at hV
 refine⟨ds, [],_, [],p, [],hW', ?_, ?_, ?_, ?_,fun h=>by cases h⟩
 · rw [hfn,hrt];exact⟨[], [],shut_bool htb true,rfl,rfl⟩
 · rw [hfa];exact a6o hl hb hr hA fun x hx=>hlt x (by simpa using hx)
 · rw [hvars,hfv];rfl
 · refine⟨hb.os,hb.output,fun i hi=> ?_⟩;rw [hb.block i hi];split<;>simp_all
structure H8 (P:Program) (ts:List TypeId) {X:Type} (c:X→List D) (G:X→Prop):Prop where
 op:∀ {H:Type} (enc:TypeId×Value→H) (w:World) (r:Reach) (b0:Nat) (vs:List Value) (ds:List (DataW H)) (ps:List MemPlace),DataW.TrodAll enc P w 0 (fun _=>true) true ts vs ds ps→(∀(j:Nat) t v,ts[j]?=some t→vs[j]?=some v→Value.okWide P w r b0 t v)→
  (∀n,n∈DataW.weightsEach P ts ds→n≤reachBytes)→∃x,j1 (fun b=>b<w.heap.size) w (c x) vs∧G x
theorem H8.nil:H8 P [] (fun _:Unit=> []) (fun _=>True):=by
 refine⟨fun enc w r b0 vs ds ps h _ _=> ?_⟩;cases vs with
 |nil=>exact⟨(),trivial,trivial⟩
 |cons=>cases ds<;>simp [DataW.TrodAll]at h
theorem H8.agg {ts:List TypeId} {X Y:Type} {c:X→List D} {G:X→Prop} {c':Y→List D} {G':Y→Prop} (h:A4 P t c G) (hfl:∀x,u7 (c x)=true) (hu:(match P.underlying t with|some (.struct _)=>true|some (.array _ _)=>true|_=>false)=true) (hk:H8 P ts c' G'):
 H8 P (t::ts) (fun x:X×Y=> .agg (c x.1)::c' x.2) (fun x=>G x.1∧G' x.2):=by
 refine⟨fun enc w r b0 vs ds ps h0 hval hw=> ?_⟩;obtain⟨v,vs',d,ds',p,q,rfl,rfl,rfl,h1,h2⟩:=Go.ChangeShapes.trodAll_cons h0;simp only [DataW.weightsEach]at hw;obtain⟨x,g1,g2⟩:=h.arg_agg hfl hu (hval 0 t v rfl rfl) h1 fun n hn=>hw n (a3m _ hn)
 obtain⟨y,g3,g4⟩:=hk.op enc w r b0 vs' ds' q h2 (fun j t v ht hv=>hval (j+1) t v (by simpa using ht) (by simpa using hv)) fun n hn=>hw n (a6m _ hn)
 exact⟨(x,y),⟨g1,g3⟩,g2,g4⟩
theorem H8.one {ts:List TypeId} {X Y:Type} {f:X→D} {G:X→Prop} {c':Y→List D} {G':Y→Prop} (h:A4 P t (fun x=> [f x]) G) (hu:(match P.underlying t with|some .bool=>true|some .string=>true|some (.int _)=>true|some (.slice _)=>true|_=>false)=true) (hk:H8 P ts c' G'):
 H8 P (t::ts) (fun x:X×Y=>f x.1::c' x.2) (fun x=>G x.1∧G' x.2):=by
 refine⟨fun enc w r b0 vs ds ps h0 hval hw=> ?_⟩;obtain⟨v,vs',d,ds',p,q,rfl,rfl,rfl,h1,h2⟩:=Go.ChangeShapes.trodAll_cons h0;simp only [DataW.weightsEach]at hw;obtain⟨x,g1,g2⟩:=h.arg_one hu (hval 0 t v rfl rfl) h1 fun n hn=>hw n (a3m _ hn)
 obtain⟨y,g3,g4⟩:=hk.op enc w r b0 vs' ds' q h2 (fun j t v ht hv=>hval (j+1) t v (by simpa using ht) (by simpa using hv)) fun n hn=>hw n (a6m _ hn)
 exact⟨(x,y),⟨g1,g3⟩,g2,g4⟩
theorem b2t {X:Type} {c:X→List D} {G B:X→Prop} {H:Type} {enc:TypeId×Value→H} {f:Func} {n:FuncId} {s:ChangeSpec} {W:World} {base:Nat} {args:Array Value} {ds gs:List (DataW H)} {before:List MemPlace} {tb:TypeId} {ts:List TypeId}
 (hop:H8 P ts c G) (hlaw:∀x,G x→B x→q8 P n (c x) fun y=>y= .v (.bool true)) (hts:f.params.toList=ts)
 (hl:laidOutB P=true) (hr:(ts.all fun t=>P.readableRec t&&Nat.blt t P.types.size)=true) (hvars:s.vars= []) (hrt:f.resultTypes= #[tb]) (htb:P.underlying tb=some .bool)
 (hfn:∀ds:List (DataW H),ds.length=ts.length→(s.fn H ds).results= [.lit (.bool true)]∧(s.fn H ds).args=ds∧(s.fn H ds).vars= [])
 (hval:∀(j:Nat) t v,f.params[j]?=some t→args[j]?=some v→Value.okWide P W .any base t v) (hW:DataW.Whole enc P f.params.toList s.vars false W args.toList ds gs before)
 (hwt:(DataW.weightsEach P (f.params.toList++s.plain.varTypes P) (ds++gs)).all (· ≤reachBytes)=true) (hgi:GIW P W)
 (hB:∀x ps,j1 (fun b=>b<W.heap.size) W (c x) args.toList→DataW.TrodAll enc P W 0 (fun _=>true) true ts args.toList ds ps→B x):
 Calls P n args W fun e W'=>∃v,e= .returned v∧s.post enc P f false true false false W args v W':=by
 have hW0:=hW;obtain⟨p,q,hA,hV,rfl,hfz,hnd⟩:=hW;rw [hvars]at hV
 obtain⟨rfl,rfl⟩:gs= []∧q= []:=by
  cases gs with
  |nil=>exact⟨rfl,hV⟩
  |cons=>simp [DataW.TrodVars]at hV
 rw [hts]at hA
 have hlen:ds.length=ts.length:=by
  have:∀ {ts:List TypeId} {vs:List Value} {ds:List (DataW H)} {ps:List MemPlace},DataW.TrodAll enc P W 0 (fun _=>true) true ts vs ds ps→ds.length=ts.length:=by
   intro ts
   induction ts with
   |nil=>intro vs ds ps h;cases vs<;>cases ds<;>simp_all [DataW.TrodAll]
   |cons t ts ih=>
    intro vs ds ps h;obtain⟨v,vs',d,ds',p,q,rfl,rfl,rfl,h1,h2⟩:=Go.ChangeShapes.trodAll_cons h;simp [ih h2]
  exact this hA
 have hwt':∀m,m∈DataW.weightsEach P ts ds→m≤reachBytes:=by
  intro m hm
  have key:∀(ts r:List TypeId) (ds:List (DataW H)),m∈DataW.weightsEach P ts ds→m∈DataW.weightsEach P (ts++r) ds:=by
   intro ts r
   induction ts with
   |nil=>intro ds h;simp [DataW.weightsEach]at h
   |cons t ts ih=>
    intro ds h;cases ds with
    |nil=>simp [DataW.weightsEach]at h
    |cons d ds=>
     simp only [S0,DataW.weightsEach]at h⊢;rcases B2.1 h with h|h
     · exact a3m _ h
     · exact a6m _ (ih ds h)
  rw [hts,List.append_nil]at hwt;simpa using L4.1 hwt m (key ts _ ds hm)
 obtain⟨x,h1,h2⟩:=hop.op enc W .any base args.toList ds p hA (fun j t v ht hv=>hval j t v (by rw [←hts]at ht;simpa using ht) (by simpa using hv)) hwt'
 obtain⟨f1,f2,f3⟩:=hfn (ds++ []) (by simpa using hlen)
 refine c1W (Ds:=c x) hl (fun t ht=> ?_) hvars hrt htb f1 (by simpa using f2) f3 hW0 h1 (hlaw x h2 (hB x p h1 hA)) hgi
 rw [hts]at ht;have:=L4.1 hr t ht;simp only [y6,a1h]at this;exact this
end
theorem a6d {S E:Type} {body:S→Option (Sum S E)} (P:S→Prop) (μ:S→Nat) (Q:E→Prop) (h:∀s,P s→(∃e,body s=some (.inr e)∧Q e)∨(∃s',body s=some (.inl s')∧P s'∧μ s'<μ s)) (s0:S) (h0:P s0) (hf:μ s0<a1K):∃e,w6 body s0=some e∧Q e:=by
 have key:∀(n:Nat) (s:S),P s→μ s<n→∃e,P2 body n s=some e∧Q e:=by
  intro n
  induction n with
  |zero=>intro s _ hn;omega
  |succ n ih=>
   intro s hs hn;rcases h s hs with⟨e,h1,h2⟩|⟨s',h1,h2,h3⟩
   · exact⟨e,by simp only [P2,h1],h2⟩
   · obtain⟨e,h4,h5⟩:=ih s' h2 (by omega);exact⟨e,by simp only [P2,h1,h4],h5⟩
 exact key a1K s0 h0 hf
theorem U8 {α:Type} {l:List α} {k:Nat} (h:k<l.length):idx l (k:Int)=some l[k]:=by
 unfold idx;simp [h]
theorem b5i {z:Int} (h: -9223372036854775808≤z∧z≤9223372036854775807):IntKind.i64.wrap z=z:=IntWalk.i64_in z h
theorem c5Z {k:Nat} (h:k<9223372036854775807):IntKind.i64.wrap ((k:Int)+1)=((k+1:Nat):Int):=by rw [b5i (by omega)];rfl
section
variable {α : Type} (pr : α → Option Bool)
end
end Go.Sx
