/- The walk over pure data: its definitions, that it is sound, and what may be read at a type. -/
import Derived.Test.YtejkiefdjcfapaaGreatDoorB2
import Derived.Lib.AppendZerosOnto
import Derived.Laws.Externs
import Derived.StillTail
import Derived.Shelf.Strconv.Itoa3
import Derived.Shelf.Strconv.AtoiAll
import Derived.Shelf.Strconv.Clone
import Derived.Shelf.Strings.Search2
import Derived.Shelf.Strings.Builder1
import Derived.Lib.AppendIntMem
import Derived.ProofKit
import Derived.SizedLaws
set_option linter.unusedVariables false
set_option linter.unusedSimpArgs false
namespace Go.Sx
open Go Go.RowKit
def opsZ (X:Cy) (ops:List Oper) (l:List Oper):Sy→(Sy→Prop)→Prop:=by
 induction l with
 |nil=>exact fun st K=>K st
 |cons o rest ih=>exact fun st K=>guardY ops o.guard st (fun st=>stepO X st o fun st=>ih st K) (fun st=>putY X st o.dst .und fun st=>ih st K)
theorem opsZ_eq (X:Cy) (ops l:List Oper):opsZ X ops l=fun st K=>opsY X ops l st K:=by
 induction l with
 |nil=>rfl
 |cons o rest ih=>
  funext st K;show guardY ops o.guard st (fun st=>stepO X st o fun st=>opsZ X ops rest st K) (fun st=>putY X st o.dst .und fun st=>opsZ X ops rest st K)=_;rw [ih];rfl
def planZ (X:Cy) (ops:List Oper) (p:PT):Sy→List (Nat×Option Nat)→(Sy→Prop)→Prop:=by
 induction p with
 |nil=>exact fun st _ K=>K st
 |op i S fl rest ih=>exact fun st pr K=>match nthO ops i with
  |some o=>guardY ops o.guard st
   (fun st=>stepY X ops rest i S fl pr o st fun st pr=>ih st pr K)
   (fun st=>putY X st o.dst .und fun st=>ih st pr K)
  |none=>False
 |fork a b iha ihb=>exact fun st pr K=>iha st pr K∧ihb st pr K
theorem planZ_eq (X:Cy) (ops:List Oper) (p:PT):planZ X ops p=fun st pr K=>planY X ops p st pr K:=by
 induction p with
 |nil=>rfl
 |op i S fl rest ih=>
  funext st pr K
  show(match nthO ops i with
   |some o=>guardY ops o.guard st (fun st=>stepY X ops rest i S fl pr o st fun st pr=>planZ X ops rest st pr K) (fun st=>putY X st o.dst .und fun st=>planZ X ops rest st pr K)
   |none=>False)=_
  rw [ih];rfl
 |fork a b iha ihb=>
  funext st pr K;show(planZ X ops a st pr K∧planZ X ops b st pr K)=_;rw [iha,ihb];rfl
def codeZ (X:Cy) (c:Code):Sy→(Exit→Sy→Prop)→Prop:=by
 induction c with
 |skip=>exact fun st K=>K .normal st
 |region id ops draw=>exact fun st K=>match draw with
  |false=>opsZ X ops.toList ops.toList st (K .normal)
  |true=>match getP X.pl id with
   |some p=>planOK X.tt X.nt ops p=true∧(match st with|⟨T,H,nk⟩=>killYK ops.toList T fun T=>planZ X ops.toList p ⟨T,H,nk⟩ [] (K .normal))
   |none=>False
 |seq a b iha ihb=>exact fun st K=>iha st fun e st'=>match e with
  | .normal=>ihb st' K
  |e=>K e st'
 |cond c t e iht ihe=>exact fun st K=>match evY st c with
  |some (.v (.bool b))=>VIf b (iht st K) (ihe st K)
  |_=>False
 |block id c ih=>exact fun st K=>ih st fun e st'=>match e with
  | .exit j=>match Nat.beq j id with
   |true=>K .normal st'
   |false=>K (.exit j) st'
  |e=>K e st'
 |loop c ih=>exact fun st K=>LoopY ih st K
 |exit id=>exact fun st K=>K (.exit id) st
 |ret=>exact fun st K=>K .ret st
 |scope c ih=>exact fun st K=>ih st K
 |label _=>exact fun st K=>K .normal st
 |_=>exact fun _ _=>False
theorem codeZ_eq (X:Cy) (c:Code):codeZ X c=fun st K=>codeY X c st K:=by
 induction c with
 |region id ops draw=>
  funext st K;show(match draw with
  |false=>opsZ X ops.toList ops.toList st (K .normal)
  |true=>match getP X.pl id with
   |some p=>planOK X.tt X.nt ops p=true∧(match st with|⟨T,H,nk⟩=>killYK ops.toList T fun T=>planZ X ops.toList p ⟨T,H,nk⟩ [] (K .normal))
   |none=>False)=_
  simp only [opsZ_eq,planZ_eq,killYK_eq];rfl
 |seq a b iha ihb=>
  funext st K;show(codeZ X a st fun e st'=>match e with| .normal=>codeZ X b st' K|e=>K e st')=_
  rw [iha,ihb];rfl
 |cond c t e iht ihe=>
  funext st K;show(match evY st c with|some (.v (.bool b))=>VIf b (codeZ X t st K) (codeZ X e st K)|_=>False)=_
  rw [iht,ihe];rfl
 |block id c ih=>
  funext st K;show(codeZ X c st fun e st'=>match e with| .exit j=>(match Nat.beq j id with|true=>K .normal st'|false=>K (.exit j) st')|e=>K e st')=_
  rw [ih];rfl
 |loop c ih=>
  funext st K;show LoopY (codeZ X c) st K=_;rw [ih];rfl
 |scope c ih=>
  funext st K;show codeZ X c st K=_;rw [ih];rfl
 |_=>rfl
theorem codeZ_Y {X:Cy} {c:Code} {st:Sy} {K:Exit→Sy→Prop} (h:codeZ X c st K):codeY X c st K:=by rw [codeZ_eq]at h;exact h
def behindZ (X:Cy) (body:Code) (K:Exit→Sy→Prop):Exit→Sy→Prop
 | .normal,st=>codeZ X body st K
 |_,_=>False
theorem behindZ_eq (X:Cy) (body:Code) (K:Exit→Sy→Prop):behindZ X body K=behindY X body K:=by
 funext e st;cases e<;>first|rfl|(show codeZ X body st K=_;rw [codeZ_eq];rfl)
def codeRZ (X:Cy) (c:Code):Sy→(Exit→Sy→Prop)→Prop:=by
 induction c with
 |seq a b iha ihb=>exact fun st K=>iha st fun e st'=>match e with
  | .normal=>ihb st' K
  |e=>K e st'
 |block id c ih=>exact fun st K=>ih st fun e st'=>match e with
  | .exit j=>(match Nat.beq j id with|true=>K .normal st'|false=>K (.exit j) st')
  |e=>K e st'
 |cond c t e iht ihe=>exact fun st K=>match evY st c with
  |some (.v (.bool b))=>VIf b (iht st K) (ihe st K)
  |_=>False
 |scope c ih=>exact fun st K=>ih st K
 |rangeFunc g ps assign body=>exact fun st K=>RangeY X g ps assign body st K
 |skip=>exact fun st K=>∀ds,codeZ { X with dfs:=ds} .skip st K
 |region id ops draw=>exact fun st K=>∀ds,codeZ { X with dfs:=ds} (.region id ops draw) st K
 |loop c=>exact fun st K=>∀ds,codeZ { X with dfs:=ds} (.loop c) st K
 |exit id=>exact fun st K=>∀ds,codeZ { X with dfs:=ds} (.exit id) st K
 |ret=>exact fun st K=>∀ds,codeZ { X with dfs:=ds} .ret st K
 |label l=>exact fun st K=>∀ds,codeZ { X with dfs:=ds} (.label l) st K
 |_=>exact fun st K=>List Deferred→False
theorem codeRZ_eq (X:Cy) (c:Code):codeRZ X c=fun st K=>codeR X c st K:=by
 induction c with
 |seq a b iha ihb=>
  funext st K;show(codeRZ X a st fun e st'=>match e with| .normal=>codeRZ X b st' K|e=>K e st')=_
  rw [iha,ihb];rfl
 |cond c t e iht ihe=>
  funext st K;show(match evY st c with|some (.v (.bool b))=>VIf b (codeRZ X t st K) (codeRZ X e st K)|_=>False)=_
  rw [iht,ihe];rfl
 |block id c ih=>
  funext st K;show(codeRZ X c st fun e st'=>match e with| .exit j=>(match Nat.beq j id with|true=>K .normal st'|false=>K (.exit j) st')|e=>K e st')=_
  rw [ih];rfl
 |scope c ih=>
  funext st K;show codeRZ X c st K=_;rw [ih];rfl
 |rangeFunc=>rfl
 |skip=>funext st K;show(∀ds,codeZ { X with dfs:=ds} .skip st K)=_;simp only [codeZ_eq];rfl
 |region id ops draw=>funext st K;show(∀ds,codeZ { X with dfs:=ds} (.region id ops draw) st K)=_;simp only [codeZ_eq];rfl
 |loop c=>funext st K;show(∀ds,codeZ { X with dfs:=ds} (.loop c) st K)=_;simp only [codeZ_eq];rfl
 |exit id=>funext st K;show(∀ds,codeZ { X with dfs:=ds} (.exit id) st K)=_;simp only [codeZ_eq];rfl
 |ret=>funext st K;show(∀ds,codeZ { X with dfs:=ds} .ret st K)=_;simp only [codeZ_eq];rfl
 |label l=>funext st K;show(∀ds,codeZ { X with dfs:=ds} (.label l) st K)=_;simp only [codeZ_eq];rfl
 |_=>rfl
def opsIZ (X:Cy) (l:Nat) (xs:List (List D)) (ops:List Oper) (r:List Oper):Sy→Pre→(Sy→Pre→Prop)→Prop:=by
 induction r with
 |nil=>exact fun st p K=>K st p
 |cons o rest ih=>exact fun st p K=>match isYield st o with
  |some args=>guardY ops o.guard st (fun st=>YieldY X l xs st o args p fun st p=>ih st p K) (fun st=>putY X st o.dst .und fun st=>ih st p K)
  |none=>op1Y X ops o st fun st=>ih st p K
theorem opsIZ_eq (X:Cy) (l:Nat) (xs:List (List D)) (ops:List Oper) (r:List Oper):opsIZ X l xs ops r=fun st p K=>opsI X l xs ops r st p K:=by
 induction r with
 |nil=>rfl
 |cons o rest ih=>
  funext st p K
  show(match isYield st o with
   |some args=>guardY ops o.guard st (fun st=>YieldY X l xs st o args p fun st p=>opsIZ X l xs ops rest st p K) (fun st=>putY X st o.dst .und fun st=>opsIZ X l xs ops rest st p K)
   |none=>op1Y X ops o st fun st=>opsIZ X l xs ops rest st p K)=_
  rw [ih];rfl
def codeIZ (X:Cy) (l:Nat) (xs:List (List D)) (yl:List (Nat×Nat)) (c:Code):Sy→Pre→(Exit→Sy→Pre→Prop)→Prop:=by
 induction c with
 |skip=>exact fun st p K=>K .normal st p
 |region id ops draw=>exact fun st p K=>match draw with
  |false=>opsIZ X l xs ops.toList ops.toList st p (K .normal)
  |true=>match getP X.pl id with
   |some pl=>match getJ yl id with
    |some j=>chainOK ops j=true∧planOK X.tt X.nt (ops.toList.take j).toArray pl=true∧(match st with|⟨T,H,nk⟩=>killYK (ops.toList.take j) T fun T=>planZ X (ops.toList.take j) pl ⟨T,H,nk⟩ [] fun st=>opsIZ X l xs ops.toList (ops.toList.drop j) st p (K .normal))
    |none=>codeZ X (.region id ops true) st fun e st=>K e st p
   |none=>False
 |seq a b iha ihb=>exact fun st p K=>iha st p fun e st' p'=>match e with
  | .normal=>ihb st' p' K
  |e=>K e st' p'
 |cond c t e iht ihe=>exact fun st p K=>match evY st c with
  |some (.v (.bool b))=>VIf b (iht st p K) (ihe st p K)
  |_=>False
 |block id c ih=>exact fun st p K=>ih st p fun e st' p'=>match e with
  | .exit j=>match Nat.beq j id with
   |true=>K .normal st' p'
   |false=>K (.exit j) st' p'
  |e=>K e st' p'
 |loop c ih=>exact fun st p K=>LoopI ih st p K
 |exit id=>exact fun st p K=>K (.exit id) st p
 |ret=>exact fun st p K=>K .ret st p
 |scope c ih=>exact fun st p K=>ih st p K
 |label _=>exact fun st p K=>K .normal st p
 |_=>exact fun _ _ _=>False
theorem codeIZ_eq (X:Cy) (l:Nat) (xs:List (List D)) (yl:List (Nat×Nat)) (c:Code):codeIZ X l xs yl c=fun st p K=>codeI X l xs yl c st p K:=by
 induction c with
 |region id ops draw=>
  funext st p K;show(match draw with
  |false=>opsIZ X l xs ops.toList ops.toList st p (K .normal)
  |true=>match getP X.pl id with
   |some pl=>match getJ yl id with
    |some j=>chainOK ops j=true∧planOK X.tt X.nt (ops.toList.take j).toArray pl=true∧(match st with|⟨T,H,nk⟩=>killYK (ops.toList.take j) T fun T=>planZ X (ops.toList.take j) pl ⟨T,H,nk⟩ [] fun st=>opsIZ X l xs ops.toList (ops.toList.drop j) st p (K .normal))
    |none=>codeZ X (.region id ops true) st fun e st=>K e st p
   |none=>False)=_
  simp only [opsIZ_eq,planZ_eq,codeZ_eq,killYK_eq];rfl
 |seq a b iha ihb=>
  funext st p K;show(codeIZ X l xs yl a st p fun e st' p'=>match e with| .normal=>codeIZ X l xs yl b st' p' K|e=>K e st' p')=_
  rw [iha,ihb];rfl
 |cond c t e iht ihe=>
  funext st p K;show(match evY st c with|some (.v (.bool b))=>VIf b (codeIZ X l xs yl t st p K) (codeIZ X l xs yl e st p K)|_=>False)=_
  rw [iht,ihe];rfl
 |block id c ih=>
  funext st p K;show(codeIZ X l xs yl c st p fun e st' p'=>match e with| .exit j=>(match Nat.beq j id with|true=>K .normal st' p'|false=>K (.exit j) st' p')|e=>K e st' p')=_
  rw [ih];rfl
 |loop c ih=>
  funext st p K;show LoopI (codeIZ X l xs yl c) st p K=_;rw [ih];rfl
 |scope c ih=>
  funext st p K;show codeIZ X l xs yl c st p K=_;rw [ih];rfl
 |_=>rfl
theorem does_zy {X:Cy} (hP:POK X.P X.tt) {f:FuncId} {fn:Func} {c:Code} (args:List D) {Qr:D→Prop} (hf:X.P.funcs[f]?=some fn) (hb:fn.body=some c) (hn:X.nt=fn.ntmps) (hl:args.length≤fn.ntmps)
 (h:codeZ X c ⟨zipY 0 args, [],0⟩ (retY X fn.results.toList Qr)) (h0:X.dfs= []:=by rfl) (hg:fn.ntmps≤gbase:=by exact Nat.le_of_ble_eq_true rfl):Does X.P f args Qr:=
 does_y hP args hf hb hn hl (codeZ_Y h) h0 hg
theorem does_zr {X:Cy} (hP:POK X.P X.tt) {f:FuncId} {fn:Func} {c:Code} (args:List D) {Qr:D→Prop} (hf:X.P.funcs[f]?=some fn) (hb:fn.body=some c) (hn:X.nt=fn.ntmps) (hl:args.length≤fn.ntmps)
 (h:codeRZ X c ⟨zipY 0 args, [],0⟩ (retY X fn.results.toList Qr)) (hg:fn.ntmps≤gbase:=by exact Nat.le_of_ble_eq_true rfl):Does X.P f args Qr:=
 does_r hP args hf hb hn hl (by rw [codeRZ_eq]at h;exact h) hg
theorem does_zu {X:Cy} (hP:POK X.P X.tt) {f:FuncId} {fn:Func} {c:Code} (args:List D) {z n:Nat} {l:List D} {ty:TypeId} (hf:X.P.funcs[f]?=some fn) (hb:fn.body=some c) (hn:X.nt=fn.ntmps) (hl:args.length≤fn.ntmps)
 (h:codeZ X c ⟨zipY 0 args, [],0⟩ (retUY X fn.results.toList z n l ty)) (h0:X.dfs= []:=by rfl) (hg:fn.ntmps≤gbase:=by exact Nat.le_of_ble_eq_true rfl):DoesU X.P f args z n l ty:=
 does_u hP args hf hb hn hl (codeZ_Y h) h0 hg
theorem CallIn.ofZ {X:Cy} {f:FuncId} {args:List D} {dst:Option Nat} {st:Sy} {K:Sy→Prop} (hP:POK X.P X.tt) (st0 st1:Sy) (pl:List (Nat×PT)) (ln un inl:List Nat) {fn:Func} {c:Code} (hf:X.P.funcs[f]?=some fn) (hb:fn.body=some c)
 (hg:Nat.ble fn.ntmps 1000000=true) (hl:Nat.ble args.length fn.ntmps=true) (hs:SubY ⟨zipY 0 args++shiftT X.nt st.T,st.H,st.nk⟩ st0)
 (hbody:∀sv,codeZ ⟨X.P,X.tt,fn.ntmps,pl,ln,un, [],inl,sv⟩ c st0 (retIn X ⟨X.P,X.tt,fn.ntmps,pl,ln,un, [],inl, []⟩ fn.results.toList dst fun sy=>SubY sy st1)) (hk:K st1):CallIn X f args dst st K:=
 CallIn.ofP hP st0 st1 pl ln un inl hf hb hg hl hs (fun sv=>codeZ_Y (hbody sv)) hk
theorem RangeY.ofZ {X:Cy} {g:Operand} {ps:Array Tmp} {assign body:Code} {st:Sy} {K:Exit→Sy→Prop} {α S E:Type} {gf:FuncId} {caps:List D} (enc:α→List D) (xs:List α) (m:S→α→Option (Sum S E)) (f:S→Sy) (fe:E→Sy) (ex:E→Exit) (s0:S) (ev:Sum S E)
 (fz:List Nat) (hit:DoesIt X.P gf caps (xs.map enc)) (hm:rangeF m xs s0=some ev) (heg:∀args w,(callFunc gf args).run X.P w= .ok (.enter gf args) w)
 (hg:evY st g=some (.fn gf [] caps)) (hcl:cleanL caps=true) (hps:∀x,(enc x).length=ps.size) (hasg:roundOK fz assign=true) (hr:roundOK fz body=true) (hf:freeOf fz ps.toList=true) (hdom:∀s,domB fz (f s).T=true) (hdome:∀e,domB fz (fe e).T=true)
 (hsub:SubY st (f s0)) (hdone:∀s,ev= .inl s→K .normal (f s)) (hstop:∀s,ev= .inr s→K (ex s) (fe s)) (hex:∀e,ex e= .ret∨∃id,ex e= .exit id)
 (hround:∀s x b,m s x=some b→bindY { X with dfs:= []} ps.toList (enc x) (f s) fun st1=>codeZ { X with dfs:= []} assign st1<|behindZ { X with dfs:= []} body fun e sy=>match e with
  | .normal=>∃s',b= .inl s'∧SubY sy (f s')
  | .ret=>∃s',b= .inr s'∧ex s'= .ret∧SubY sy (fe s')
  | .exit id=>∃s',b= .inr s'∧ex s'= .exit id∧SubY sy (fe s')
  |_=>False):RangeY X g ps assign body st K:=
 RangeY.of enc xs m f fe ex s0 ev fz hit hm heg hg hcl hps hasg hr hf hdom hdome hsub hdone hstop hex fun s x b hb=>by
  have h:=hround s x b hb;simp only [codeZ_eq,behindZ_eq]at h;exact h
theorem does_zit {X:Cy} (hP:POK X.P X.tt) {f:FuncId} {fn:Func} {c:Code} (caps:List D) (xs:List (List D)) (yl:List (Nat×Nat)) (hf:X.P.funcs[f]?=some fn) (hb:fn.body=some c) (hn:X.nt=fn.ntmps) (hl:caps.length+1≤fn.ntmps) (hres:fn.results= #[])
 (h:∀l,codeIZ X l xs yl c ⟨zipY 0 (.v (.func (.yield l) #[] #[])::caps), [],0⟩ (some []) (endI xs)) (h0:X.dfs= []:=by rfl) (hg:fn.ntmps≤gbase:=by exact Nat.le_of_ble_eq_true rfl):DoesIt X.P f caps xs:=
 does_it hP caps xs yl hf hb hn hl hres (fun l=>by have h:=h l;rw [codeIZ_eq]at h;exact h) h0 hg
theorem flat_len_z {α:Type} {c:α→List D} {z:Nat} (hc:∀x,(c x).length=z):∀(l:List α),(l.flatMap c).length=l.length*z
 | []=>by simp
 |x::l=>by simp only [List.flatMap_cons,List.length_append,List.length_cons,hc,flat_len_z hc l,Nat.add_mul];omega
section
variable {P : Program} {a : Act} {L : List (Nat × Value)} {o : Oper} {w : World} {x y N : Nat} {u v : Value}
section
variable {t e esz bytes : Nat} {i : TI} {g n cap m : Nat}
end
end
section
variable {K V : Type}
variable [DecidableEq K]
variable {ag : Bool} {kc : K → List Value} {ev : V → Value}
end
def itoaB (n:Int):ByteArray:=⟨(Lib.itoa n).toArray⟩
structure GlobAt (P:Program) (nm:String) (b:Nat):Prop where
 at_:(P.globals[b]?).map (·.name)=some nm
 nm:P.globalNamed nm=some b
theorem GlobAt.get {P:Program} {nm:String} {b:Nat} (h:GlobAt P nm b):∃g,P.globals[b]?=some g∧g.name=nm:=by
 have:=h.at_;cases hg:P.globals[b]? with
 |none=>simp [hg]at this
 |some g=>simp [hg]at this;exact⟨g,rfl,this⟩
theorem GIW.tab {P:Program} {w:World} (h:GIW P w) {b:Nat} (hg:GlobAt P "internal/strconv.uint64pow10" b):Lib.TabIs P w "internal/strconv.uint64pow10" .u64 Lib.pow10Tab:=by
 obtain⟨g,h1,h2⟩:=hg.get;unfold Lib.TabIs;rw [h.pow10 h1 h2 hg.nm];rfl
theorem GIW.errs {P:Program} {w:World} (h:GIW P w) {b:Nat} (hg:GlobAt P "strconv.ErrSyntax" b∨GlobAt P "strconv.ErrRange" b):∃tp p,w.cell? ⟨b,0,none⟩=some (.iface tp p):=by
 rcases hg with hg|hg
 · obtain⟨g,h1,h2⟩:=hg.get;exact h.err h1 (.inl h2)
 · obtain⟨g,h1,h2⟩:=hg.get;exact h.err h1 (.inr h2)
theorem repL1 {ok:Nat→Prop} {w:World} {x:Value} {vs:List Value} (h:RepL ok w [.v x] vs):vs= [x]:=by
 match vs,h with
 | [v],h=>simp only [RepL,Rep]at h;rw [h.1.1]
 | [],h=>simp [RepL]at h
 |_::_::_,h=>simp [RepL]at h
theorem repL2 {ok:Nat→Prop} {w:World} {x y:Value} {vs:List Value} (h:RepL ok w [.v x, .v y] vs):vs= [x,y]:=by
 match vs,h with
 | [a,b],h=>simp only [RepL,Rep]at h;rw [h.1.1,h.2.1.1]
 | [],h=>simp [RepL]at h
 | [_],h=>simp [RepL]at h
 |_::_::_::_,h=>simp [RepL]at h
section
variable {P : Program} {ρ : Go.Shelf.Ren}
theorem does_itoaA (L:Go.Proofs.LaysM.n171 P ρ) {b:Nat} (hg:GlobAt P "internal/strconv.uint64pow10" b) (n:Int) (h: -9223372036854775808≤n∧n≤9223372036854775807):Does P (ρ.f 171) [.v (.int .i64 n)] fun x=>x= .v (.string (itoaB n)):=by
 intro ok w vs hr _ hgi;rw [repL1 hr];refine(Go.Proofs.Any.strconv_Itoa L n h.1 h.2 w (hgi.tab hg)).mono fun e w' ⟨he,k,os,hw⟩=> ?_
 subst hw;exact⟨_,_,he,rfl,by simp [Rep,oneV,itoaB],Lib.below_grow _ w (Nat.le_refl _) k os⟩
end
theorem Does.contract {P:Program} {f:FuncId} {ds:List D} {r:D} (h:Does P f ds fun x=>x=r) {w:World} {vs:List Value} (hr:RepL (fun _=>False) w ds vs) (hg:GIW P w):
 Calls P f vs.toArray w fun e w'=>∃v,e= .returned v∧Rep (fun b=>w.heap.size≤b∧b<w'.heap.size) w' r v∧Below w.heap.size w w':=by
 refine(h (fun _=>False) w vs hr (fun _ hb=>hb.elim) hg).mono fun e w' ⟨v,r',he,hq,hrep,hb⟩=> ?_
 subst hq;exact⟨v,he,Rep.mono (fun b hb=>⟨by simpa using hb,rfl⟩) _ _ hrep,hb⟩
theorem var_at {P:Program} {w:World} {nm:String} {b:Nat} {cs:Array Value} (hg:P.globalNamed nm=some b) (h:w.var? P nm=some cs):∃ty fr,w.heap[b]?=some (.cells cs ty fr):=by
 unfold World.var? at h;rw [hg,Option.bind_some]at h;cases hb:w.heap[b]? with
 |none=>rw [hb]at h;cases h
 |some o=>
  rw [hb]at h;cases o with
  |cells c ty fr=>cases h;exact⟨ty,fr,rfl⟩
  |_=>cases h
theorem GIW.ofLaid {P:Program} {w:World} {last:String} {b:Nat} {cs:Array Value} {tp tp':TypeId} {p p':Value} (hn:P.globals.size=b+1) (hlast:P.globalNamed last=some b) (hv:w.var? P last=some cs)
 (h10:Lib.TabIs P w "internal/strconv.uint64pow10" .u64 Lib.pow10Tab) (hs:w.var? P "strconv.ErrSyntax" =some #[.iface tp p]) (hr:w.var? P "strconv.ErrRange" =some #[.iface tp' p'])
 (hu:∀(b:Nat) (g:Global),P.globals[b]?=some g→P.globalNamed g.name=some b):GIW P w:=by
 refine⟨?_,fun b g hg=>⟨fun e=> ?_,fun e=> ?_⟩⟩
 · obtain⟨ty,fr,h⟩:=var_at hlast hv;have:=(Array.getElem?_eq_some_iff.1 h).1;omega
 · have hb:=hu b g hg;rw [e]at hb;obtain⟨ty,fr,h⟩:=var_at hb h10;exact⟨ty,fr,by rw [h];rfl⟩
 · have hb:=hu b g hg;rcases e with e|e
   · rw [e]at hb;obtain⟨ty,fr,h⟩:=var_at hb hs;exact⟨_,_,ty,fr,h⟩
   · rw [e]at hb;obtain⟨ty,fr,h⟩:=var_at hb hr;exact⟨_,_,ty,fr,h⟩
def InK (k:IntKind) (x:Int):Prop:=k.min≤x∧x≤k.max
structure Opens (P:Program) (t:TypeId) {X:Type} (c:X→List D) (G:X→Prop):Prop where
 op:∀ {H:Type} (enc:TypeId×Value→H) (w:World) (fuel:Nat) (cs:List Value) (d:DataW H) (ps:List MemPlace),DataW.trod enc P w 0 (fun _=>true) true fuel t cs=some (d,ps)→(∀n,n∈d.weights P t→n≤reachBytes)→
  ∃x,RepL (fun b=>b<w.heap.size) w (c x) cs∧G x
structure OpensF (P:Program) (fs:List Field) (o n:Nat) {X:Type} (c:X→List D) (G:X→Prop):Prop where
 op:∀ {H:Type} (enc:TypeId×Value→H) (w:World) (fuel:Nat) (cs:List Value) (xs:List (DataW H×List MemPlace)),cs.length=n→(fs.mapM fun f=>DataW.trod enc P w 0 (fun _=>true) true fuel f.type ((cs.drop f.offset).take (P.cellsOf f.type)))=some xs→
  (∀m,m∈DataW.weightsEach P (fs.map (·.type)) (xs.map (·.1))→m≤reachBytes)→∃x,RepL (fun b=>b<w.heap.size) w (c x) (cs.drop o)∧G x
structure OpensA (P:Program) (e:TypeId) (is:List Nat) (o n:Nat) {X:Type} (c:X→List D) (G:X→Prop):Prop where
 op:∀ {H:Type} (enc:TypeId×Value→H) (w:World) (fuel:Nat) (cs:List Value) (xs:List (DataW H×List MemPlace)),cs.length=n→(is.mapM fun i=>DataW.trod enc P w 0 (fun _=>true) true fuel e ((cs.drop (i*P.cellsOf e)).take (P.cellsOf e)))=some xs→
  (∀m,m∈DataW.weightsAll P e (xs.map (·.1))→m≤reachBytes)→∃x,RepL (fun b=>b<w.heap.size) w (c x) (cs.drop o)∧G x
section
variable {P : Program} {t e : TypeId}
theorem mapM_spec {α β:Type} {f:α→Option β}:∀ {l:List α} {r:List β},l.mapM f=some r→r.length=l.length∧∀(i:Nat) (a:α),l[i]?=some a→∃b,r[i]?=some b∧f a=some b:=by
 intro l
 induction l with
 |nil=>intro r h;simp at h;subst h;simp
 |cons a l ih=>
  intro r h;rw [List.mapM_cons]at h;cases ha:f a with
  |none=>rw [ha]at h;cases h
  |some b=>
   rw [ha]at h;cases hl:l.mapM f with
   |none=>rw [hl]at h;cases h
   |some s=>
    rw [hl]at h;cases h;obtain⟨h1,h2⟩:=ih hl;refine⟨by simp [h1],fun i x hx=> ?_⟩;cases i with
    |zero=>simp at hx;subst hx;exact⟨b,by simp,ha⟩
    |succ i=>simp at hx;simpa using h2 i x hx
theorem mapM_cons_some {α β:Type} {f:α→Option β} {a:α} {l:List α} {r:List β} (h:(a::l).mapM f=some r):∃b s,f a=some b∧l.mapM f=some s∧r=b::s:=by
 rw [List.mapM_cons]at h;cases ha:f a with
 |none=>rw [ha]at h;cases h
 |some b=>
  rw [ha]at h;cases hl:l.mapM f with
  |none=>rw [hl]at h;cases h
  |some s=>rw [hl]at h;cases h;exact⟨b,s,rfl,rfl,rfl⟩
theorem Opens.int {k:IntKind} (hu:P.underlying t=some (.int k)):Opens P t (fun x:Int=> [.v (.int k x)]) (fun x=>InK k x):=by
 refine⟨fun enc w fuel cs d ps h _=> ?_⟩;obtain⟨n,rfl,_,hwf⟩:=DataW.trod_int hu h;exact⟨n,⟨⟨rfl,rfl⟩,trivial⟩,by simpa [Lit.wf,InK]using hwf⟩
theorem Opens.bool (hu:P.underlying t=some .bool):Opens P t (fun x:Bool=> [.v (.bool x)]) (fun _=>True):=by
 refine⟨fun enc w fuel cs d ps h _=> ?_⟩;obtain⟨b,rfl,_⟩:=DataW.trod_bool hu h;exact⟨b,⟨⟨rfl,rfl⟩,trivial⟩,trivial⟩
theorem Opens.str (hu:P.underlying t=some .string):Opens P t (fun x:ByteArray=> [.v (.string x)]) (fun x=>x.size≤reachBytes):=by
 refine⟨fun enc w fuel cs d ps h hw=> ?_⟩;obtain⟨s,rfl,hx,_⟩:=DataW.trod_string hu h;cases hx;refine⟨s,⟨⟨rfl,rfl⟩,trivial⟩, ?_⟩;have:=hw s.data.toList.length (by simp [DataW.weights]);simpa using this
theorem Opens.iso {X Y:Type} {c:X→List D} {G:X→Prop} {c':Y→List D} {G':Y→Prop} (h:Opens P t c G) (f:X→Y) (hc:∀x,c x=c' (f x)) (hG:∀x,G x→G' (f x)):Opens P t c' G':=
 ⟨fun enc w fuel cs d ps ht hw=>by obtain⟨x,h1,h2⟩:=h.op enc w fuel cs d ps ht hw;exact⟨f x,hc x▸h1,hG x h2⟩⟩
theorem OpensF.nil {o:Nat}:OpensF P [] o o (fun _:Unit=> []) (fun _=>True):=
 ⟨fun enc w fuel cs xs hl _ _=>⟨(),by rw [List.drop_of_length_le (by omega)];trivial,trivial⟩⟩
theorem OpensF.cons {f:Field} {fs:List Field} {o s n:Nat} {X Y:Type} {c:X→List D} {G:X→Prop} {c':Y→List D} {G':Y→Prop} (h:Opens P f.type c G) (hk:OpensF P fs (o+s) n c' G') (ho:f.offset=o) (hs:P.cellsOf f.type=s):
 OpensF P (f::fs) o n (fun x:X×Y=>c x.1++c' x.2) (fun x=>G x.1∧G' x.2):=by
 refine⟨fun enc w fuel cs xs hl hm hw=> ?_⟩;obtain⟨b,r,h1,h2,rfl⟩:=mapM_cons_some hm;obtain⟨d,ps⟩:=b;simp only [List.map_cons,DataW.weightsEach]at hw;obtain⟨x,g1,g2⟩:=h.op enc w fuel _ d ps h1 fun n hn=>hw n (List.mem_append_left _ hn)
 obtain⟨y,g3,g4⟩:=hk.op enc w fuel cs r hl h2 fun n hn=>hw n (List.mem_append_right _ hn)
 rw [ho,hs]at g1;refine⟨(x,y), ?_,g2,g4⟩;have:cs.drop o=(cs.drop o).take s++cs.drop (o+s):=by rw [←List.drop_drop,List.take_append_drop]
 rw [this];exact RepL.app g1 g3
theorem OpensF.last {f:Field} {o s n:Nat} {X:Type} {c:X→List D} {G:X→Prop} (h:Opens P f.type c G) (ho:f.offset=o) (hs:P.cellsOf f.type=s) (hn:o+s=n):OpensF P [f] o n c G:=by
 subst hn;refine⟨fun enc w fuel cs xs hl hm hw=> ?_⟩;obtain⟨x,h1,h2⟩:=(OpensF.cons h (OpensF.nil (P:=P) (o:=o+s)) ho hs).op enc w fuel cs xs hl hm hw;exact⟨x.1,by simpa using h1,h2.1⟩
theorem Opens.struct {F:Array Field} {n:Nat} {X:Type} {c:X→List D} {G:X→Prop} (hu:P.underlying t=some (.struct F)) (h:OpensF P F.toList 0 n c G) (hn:P.cellsOf t=n):Opens P t c G:=by
 refine⟨fun enc w fuel cs d ps ht hw=> ?_⟩;cases fuel with
 |zero=>simp [DataW.trod]at ht
 |succ fuel=>
  simp only [DataW.trod,hu]at ht;split at ht
  · rename_i hl;rw [Option.map_eq_some_iff]at ht;obtain⟨xs,hx,he⟩:=ht;cases he;simp only [DataW.weights,hu]at hw;obtain⟨x,h1,h2⟩:=h.op enc w fuel cs xs (by omega) hx hw;exact⟨x,by simpa using h1,h2⟩
  · cases ht
theorem OpensA.last {i o s n:Nat} {X:Type} {c:X→List D} {G:X→Prop} (h:Opens P e c G) (ho:i*s=o) (hs:P.cellsOf e=s) (hn:o+s=n):OpensA P e [i] o n c G:=by
 refine⟨fun enc w fuel cs xs hl hm hw=> ?_⟩;obtain⟨b,r,h1,h2,rfl⟩:=mapM_cons_some hm;obtain⟨d,ps⟩:=b;simp only [List.map_cons,DataW.weightsAll]at hw;obtain⟨x,g1,g2⟩:=h.op enc w fuel _ d ps h1 fun n hn=>hw n (List.mem_append_left _ hn)
 rw [hs,ho]at g1;refine⟨x, ?_,g2⟩;rwa [List.take_of_length_le (by simp;omega)]at g1
theorem OpensA.cons {i:Nat} {is:List Nat} {o s n:Nat} {X Y:Type} {c:X→List D} {G:X→Prop} {c':Y→List D} {G':Y→Prop} (h:Opens P e c G) (hk:OpensA P e is (o+s) n c' G') (ho:i*s=o) (hs:P.cellsOf e=s):
 OpensA P e (i::is) o n (fun x:X×Y=>c x.1++c' x.2) (fun x=>G x.1∧G' x.2):=by
 refine⟨fun enc w fuel cs xs hl hm hw=> ?_⟩;obtain⟨b,r,h1,h2,rfl⟩:=mapM_cons_some hm;obtain⟨d,ps⟩:=b;simp only [List.map_cons,DataW.weightsAll]at hw;obtain⟨x,g1,g2⟩:=h.op enc w fuel _ d ps h1 fun n hn=>hw n (List.mem_append_left _ hn)
 obtain⟨y,g3,g4⟩:=hk.op enc w fuel cs r hl h2 fun n hn=>hw n (List.mem_append_right _ hn)
 rw [hs,ho]at g1;refine⟨(x,y), ?_,g2,g4⟩;have:cs.drop o=(cs.drop o).take s++cs.drop (o+s):=by rw [←List.drop_drop,List.take_append_drop]
 rw [this];exact RepL.app g1 g3
theorem Opens.arr {m n:Nat} {X:Type} {c:X→List D} {G:X→Prop} (hu:P.underlying t=some (.array m e)) (h:OpensA P e (List.range m) 0 n c G) (hn:P.cellsOf t=n):Opens P t c G:=by
 refine⟨fun enc w fuel cs d ps ht hw=> ?_⟩;cases fuel with
 |zero=>simp [DataW.trod]at ht
 |succ fuel=>
  simp only [DataW.trod,hu]at ht;split at ht
  · rename_i hl;rw [Option.map_eq_some_iff]at ht;obtain⟨xs,hx,he⟩:=ht;cases he;simp only [DataW.weights,hu]at hw;obtain⟨x,h1,h2⟩:=h.op enc w fuel cs xs (by omega) hx hw;exact⟨x,by simpa using h1,h2⟩
  · cases ht
theorem cells_spec {w:World} {a:Addr} {n:Nat} {cs:List Value} (h:w.cells? 0 a n=some cs):cs.length=n∧∀i,i<n→w.cell? (a.add i)=cs[i]?:=by
 unfold World.cells? at h;rw [if_pos (Nat.zero_le _)]at h;obtain⟨h1,h2⟩:=mapM_spec h;refine⟨by simpa using h1,fun i hi=> ?_⟩
 obtain⟨b,h3,h4⟩:=h2 i i (by simp [hi]);rw [h4,h3]
theorem weightsAll_mem {H:Type} {e:TypeId}:∀ {l:List (DataW H)} {d:DataW H},d∈l→∀n,n∈d.weights P e→n∈DataW.weightsAll P e l
 |x::l,d,h,n,hn=>by
  simp only [DataW.weightsAll];rcases List.mem_cons.1 h with rfl|h
  · exact List.mem_append_left _ hn
  · exact List.mem_append_right _ (weightsAll_mem h n hn)
 | [],_,h,_,_=>by cases h
theorem elems_rep {X:Type} {c:X→List D} {G:X→Prop} {ok:Nat→Prop} {w:World} {b o z:Nat} (hc:∀x,(c x).length=z):∀(n k:Nat),(∀i,i<n→∃x cs,RepL ok w (c x) cs∧G x∧∀j,j<z→w.cell? ⟨b,o+((k+i)*z+j),none⟩=cs[j]?)→
 ∃(l:List X) (vs:List Value),l.length=n∧(∀x,x∈l→G x)∧RepL ok w (l.flatMap c) vs∧∀j,j<n*z→w.cell? ⟨b,o+(k*z+j),none⟩=vs[j]?
 |0,k,h=>⟨[], [],rfl,by simp,trivial,fun j hj=>by simp at hj⟩
 |n+1,k,h=>by
  obtain⟨x,cs,h1,h2,h3⟩:=h 0 (by omega)
  obtain⟨l,vs,g1,g2,g3,g4⟩:=elems_rep hc n (k+1) fun i hi=>by
   obtain⟨x,cs,h1,h2,h3⟩:=h (i+1) (by omega);exact⟨x,cs,h1,h2,fun j hj=>by rw [←h3 j hj];congr 3;rw [show k+1+i=k+(i+1) from by omega]⟩
  have hl:=h1.length;rw [hc]at hl;refine⟨x::l,cs++vs,by simp [g1], ?_, ?_,fun j hj=> ?_⟩
  · intro y hy;rcases List.mem_cons.1 hy with rfl|hy
    · exact h2
    · exact g2 y hy
  · rw [List.flatMap_cons];exact RepL.app h1 g3
  · by_cases hlt:j<z
    · rw [List.getElem?_append_left (by omega),←h3 j hlt];simp
    · rw [List.getElem?_append_right (by omega),←hl,←g4 (j-z) (by rw [Nat.add_mul]at hj;omega)];congr 3;rw [Nat.add_mul];omega
theorem flat_flat {X:Type} {c:X→List D} (h:∀x,flatD (c x)=true) (l:List X):flatD (l.flatMap c)=true:=by
 refine flatD_of fun d hd=> ?_
 obtain⟨x,_,hx⟩:=List.mem_flatMap.1 hd;exact flatD_mem (h x) hx
theorem Opens.slice {z bytes:Nat} {X:Type} {c:X→List D} {G:X→Prop} (hu:P.underlying t=some (.slice e)) (h:Opens P e c G) (hz:P.cellsOf e=z) (hb:P.bytesOf e=bytes) (hc:∀x,(c x).length=z) (hfl:∀x,flatD (c x)=true) (hpos:0<z):
 Opens P t (fun l:List X=> [.lst z l.length (l.flatMap c)]) (fun l=>l.length*bytes≤reachBytes∧l.length≤maxLen∧∀x,x∈l→G x):=by
 refine⟨fun enc w fuel cs d ps ht hw=> ?_⟩;rcases DataW.trod_slice hu ht with⟨rfl,_⟩|⟨a,n,cap,elems,rest,fuel',rfl,rfl,hx,_,hnc,hcm,e1,e2,hrest,_⟩
 · refine⟨[],⟨?_,trivial⟩,by simp,by simp,by simp⟩;simp only [Rep];exact⟨none,0,rfl,Nat.le_refl _,by simp,by simp,rfl, .inl rfl⟩
 · obtain⟨r1,r2⟩:=hrest rfl;obtain⟨rfl,rfl⟩:=Prod.mk.inj hx;simp only [DataW.weights,hu]at hw
   have hbytes:(n+(cap-n))*bytes≤reachBytes:=by
    have:=hw _ List.mem_cons_self;simpa [e1,r1,hb]using this
   have hnb:n*bytes≤reachBytes:=Nat.le_trans (Nat.mul_le_mul_right _ (by omega)) hbytes;by_cases hc0:cap=0
   · obtain rfl:n=0:=by omega
     refine⟨[],⟨?_,trivial⟩,by simp,by simp,by simp⟩;simp only [Rep];exact⟨some a,cap,rfl,hnc,by simp,by simp,rfl, .inl hc0⟩
   · --the first place lies in memory
     have hspot:a.spot=none∧a.block<w.heap.size:=by
      have hcell:∃v,w.cell? a=some v:=by
       by_cases hn0:0<n
       · have h4:=e2 0 hn0;rw [List.getElem?_eq_getElem (by omega),Option.bind_eq_some_iff]at h4;obtain⟨cs,h5,_⟩:=h4;obtain⟨h6,h7⟩:=cells_spec h5;have:=h7 0 (by omega);simp only [Nat.zero_mul,Addr.add,if_true]at this;exact⟨cs[0]'(by omega),by rw [this];simp [h6,hz,hpos]⟩
       · have h4:=r2 0 (by omega);rw [List.getElem?_eq_getElem (by omega),Option.bind_eq_some_iff]at h4;obtain⟨cs,h5,_⟩:=h4;obtain⟨h6,h7⟩:=cells_spec h5;have:=h7 0 (by omega);have hn0':n=0:=by omega
         simp only [hn0',Nat.add_zero,Nat.zero_mul,Addr.add,if_true]at this;exact⟨cs[0]'(by omega),by rw [this];simp [h6,hz,hpos]⟩
      obtain⟨v,hv⟩:=hcell;unfold World.cell? at hv;split at hv
      · rename_i c t fr hcl;split at hv
        · cases hv
        · rename_i hs;exact⟨by simpa using hs,(Array.getElem?_eq_some_iff.1 hcl).1⟩
      · cases hv
     obtain⟨b,o,sp⟩:=a;obtain⟨hsp,hblk⟩:=hspot;simp only at hsp hblk;subst hsp
     have haddr:∀k j:Nat,((⟨b,o,none⟩:Addr).add k).add j=⟨b,o+(k+j),none⟩:=by
      intro k j;unfold Addr.add;by_cases hk:k=0<;>by_cases hj:j=0<;>simp [hk,hj]<;>omega
     obtain⟨l,vs,g1,g2,g3,g4⟩:=elems_rep (ok:=fun b=>b<w.heap.size) (G:=G) (w:=w) (b:=b) (o:=o) hc n 0 fun i hi=>by
      have h4:=e2 i hi;have h3:elems[i]?=some (elems[i]'(by omega)):=List.getElem?_eq_getElem (by omega);rw [h3,Option.bind_eq_some_iff]at h4;obtain⟨cs,h5,h6⟩:=h4;obtain⟨h7,h8⟩:=cells_spec h5;obtain⟨x,x1,x2⟩:=h.op enc w fuel' cs _ _ h6 fun n hn=>hw n (List.mem_cons_of_mem _ (List.mem_append_left _ (weightsAll_mem (List.mem_map.2 ⟨_,List.mem_of_getElem? h3,rfl⟩) n hn)))
      refine⟨x,cs,x1,x2,fun j hj=> ?_⟩;rw [←h8 j (by omega),haddr,hz,Nat.zero_add]
     refine⟨l,⟨?_,trivial⟩,by rw [g1];exact hnb,by omega,g2⟩;simp only [Rep];refine⟨some ⟨b,o,none⟩,cap,by rw [g1],by omega,by rw [g1];simp only [maxLen]at hcm;omega,by rw [flat_len hc],flat_flat hfl l, .inr ⟨b,o,vs,rfl,hblk,g3,fun j hj=> ?_⟩⟩;have:=g4 j (by rw [←g1];exact hj);simpa using this
theorem Opens.arg_agg {X:Type} {c:X→List D} {G:X→Prop} (h:Opens P t c G) (hfl:∀x,flatD (c x)=true) {H:Type} {enc:TypeId×Value→H} {w:World} {r:Reach} {b0:Nat} {v:Value} {d:DataW H} {ps:List MemPlace}
 (hu:(match P.underlying t with|some (.struct _)=>true|some (.array _ _)=>true|_=>false)=true) (hval:Value.okWide P w r b0 t v) (ht:DataW.Trod enc P w 0 (fun _=>true) true t v d ps) (hw:∀n,n∈d.weights P t→n≤reachBytes):
 ∃x,Rep (fun b=>b<w.heap.size) w (.agg (c x)) v∧G x:=by
 obtain⟨fuel,ht⟩:=ht;obtain⟨x,h1,h2⟩:=h.op enc w fuel _ d ps ht hw;refine⟨x, ?_,h2⟩;unfold Value.okWide at hval;split at hval
 · obtain⟨cs,rfl,_⟩:=hval;simp only [Rep];exact⟨cs,rfl,h1,hfl x⟩
 · obtain⟨cs,rfl,_⟩:=hval;simp only [Rep];exact⟨cs,rfl,h1,hfl x⟩
 · rename_i h3 h4;split at hu
   · rename_i hx;exact absurd hx (h3 _)
   · rename_i hx;exact absurd hx (h4 _ _)
   · cases hu
theorem Opens.arg_one {X:Type} {f:X→D} {G:X→Prop} (h:Opens P t (fun x=> [f x]) G) {H:Type} {enc:TypeId×Value→H} {w:World} {r:Reach} {b0:Nat} {v:Value} {d:DataW H} {ps:List MemPlace}
 (hu:(match P.underlying t with|some .bool=>true|some .string=>true|some (.int _)=>true|some (.slice _)=>true|_=>false)=true) (hval:Value.okWide P w r b0 t v) (ht:DataW.Trod enc P w 0 (fun _=>true) true t v d ps) (hw:∀n,n∈d.weights P t→n≤reachBytes):
 ∃x,Rep (fun b=>b<w.heap.size) w (f x) v∧G x:=by
 obtain⟨fuel,ht⟩:=ht;obtain⟨x,h1,h2⟩:=h.op enc w fuel _ d ps ht hw;refine⟨x, ?_,h2⟩
 have hc:v.cells= #[v]:=by
  cases v with
  |agg cs=>
   exfalso;unfold Value.okWide Cell.okWide Cell.ok at hval;split at hu<;>rename_i hx<;>first|(rw [hx]at hval;simp at hval;done)|(cases hu;done)|skip
  |_=>rfl
 rw [hc]at h1;simpa [RepL]using h1
theorem trodAll_below {H:Type} {enc:TypeId×Value→H} (hl:laidOutB P=true) {W W':World} (hb:Below W.heap.size W W'):∀ {ts:List TypeId} {vs:List Value} {ds:List (DataW H)} {ps:List MemPlace},(∀t,t∈ts→P.readableRec t=true∧t<P.types.size)→
 DataW.TrodAll enc P W 0 (fun _=>true) true ts vs ds ps→(∀x,x∈ps→x.block<W.heap.size)→DataW.TrodAll enc P W' 0 (fun b=>decide (b<W.heap.size)) true ts vs ds ps
 | [], [], [],ps,_,h,_=>h
 |t::ts,v::vs,d::ds,ps,hr,h,hlt=>by
  obtain⟨p,q,h1,h2,rfl⟩:=h;exact⟨p,q,Below.trod hl (hr t List.mem_cons_self).1 (hr t List.mem_cons_self).2 h1 hb fun x hx=>hlt x (List.mem_append_left _ hx),trodAll_below hl hb (fun t ht=>hr t (List.mem_cons_of_mem _ ht)) h2 fun x hx=>hlt x (List.mem_append_right _ hx),rfl⟩
 | [],_::_,_,_,_,h,_=>by simp [DataW.TrodAll]at h
 | [], [],_::_,_,_,h,_=>by simp [DataW.TrodAll]at h
 |_::_, [],_,_,_,h,_=>by simp [DataW.TrodAll]at h
 |_::_,_::_, [],_,_,h,_=>by simp [DataW.TrodAll]at h
theorem law_post {H:Type} {enc:TypeId×Value→H} {f:Func} {n:FuncId} {s:ChangeSpec} {W:World} {args:Array Value} {ds gs:List (DataW H)} {before:List MemPlace} {Ds:List D} {tb:TypeId}
 (hl:laidOutB P=true) (hr:∀t,t∈f.params.toList→P.readableRec t=true∧t<P.types.size) (hvars:s.vars= []) (hrt:f.resultTypes= #[tb]) (htb:P.underlying tb=some .bool)
 (hfn:(s.fn H (ds++gs)).results= [.lit (.bool true)]) (hfa:(s.fn H (ds++gs)).args=ds) (hfv:(s.fn H (ds++gs)).vars= [])
 (hW:DataW.Whole enc P f.params.toList s.vars false W args.toList ds gs before) (hrep:RepL (fun b=>b<W.heap.size) W Ds args.toList) (hd:Does P n Ds fun x=>x= .v (.bool true)) (hgi:GIW P W):
 Calls P n args W fun e W'=>∃v,e= .returned v∧s.post enc P f false true false false W args v W':=by
 refine(hd (fun b=>b<W.heap.size) W args.toList hrep (fun _ h=>h) hgi).mono fun e W' ⟨v,r,he,hq,hrp,hb⟩=> ?_
 subst he;subst hq;simp only [Rep]at hrp;obtain⟨rfl,_⟩:=hrp;refine⟨_,rfl, ?_⟩;have hW':=hW;have hlt:=hW.lt;obtain⟨p,q,hA,hV,rfl,hfz,hnd⟩:=hW;rw [hvars]at hV
 obtain⟨rfl,rfl⟩:gs= []∧q= []:=by
  cases gs with
  |nil=>exact⟨rfl,hV⟩
  |cons=>simp [DataW.TrodVars]at hV
 refine⟨ds, [],_, [],p, [],hW', ?_, ?_, ?_, ?_,fun h=>by cases h⟩
 · rw [hfn,hrt];exact⟨[], [],shut_bool htb true,rfl,rfl⟩
 · rw [hfa];exact trodAll_below hl hb hr hA fun x hx=>hlt x (by simpa using hx)
 · rw [hvars,hfv];rfl
 · refine⟨hb.os,hb.output,fun i hi=> ?_⟩;rw [hb.block i hi];split<;>simp_all
structure OpensArgs (P:Program) (ts:List TypeId) {X:Type} (c:X→List D) (G:X→Prop):Prop where
 op:∀ {H:Type} (enc:TypeId×Value→H) (w:World) (r:Reach) (b0:Nat) (vs:List Value) (ds:List (DataW H)) (ps:List MemPlace),DataW.TrodAll enc P w 0 (fun _=>true) true ts vs ds ps→(∀(j:Nat) t v,ts[j]?=some t→vs[j]?=some v→Value.okWide P w r b0 t v)→
  (∀n,n∈DataW.weightsEach P ts ds→n≤reachBytes)→∃x,RepL (fun b=>b<w.heap.size) w (c x) vs∧G x
theorem OpensArgs.nil:OpensArgs P [] (fun _:Unit=> []) (fun _=>True):=by
 refine⟨fun enc w r b0 vs ds ps h _ _=> ?_⟩;cases vs with
 |nil=>exact⟨(),trivial,trivial⟩
 |cons=>cases ds<;>simp [DataW.TrodAll]at h
theorem OpensArgs.agg {ts:List TypeId} {X Y:Type} {c:X→List D} {G:X→Prop} {c':Y→List D} {G':Y→Prop} (h:Opens P t c G) (hfl:∀x,flatD (c x)=true) (hu:(match P.underlying t with|some (.struct _)=>true|some (.array _ _)=>true|_=>false)=true) (hk:OpensArgs P ts c' G'):
 OpensArgs P (t::ts) (fun x:X×Y=> .agg (c x.1)::c' x.2) (fun x=>G x.1∧G' x.2):=by
 refine⟨fun enc w r b0 vs ds ps h0 hval hw=> ?_⟩;obtain⟨v,vs',d,ds',p,q,rfl,rfl,rfl,h1,h2⟩:=Go.ChangeShapes.trodAll_cons h0;simp only [DataW.weightsEach]at hw;obtain⟨x,g1,g2⟩:=h.arg_agg hfl hu (hval 0 t v rfl rfl) h1 fun n hn=>hw n (List.mem_append_left _ hn)
 obtain⟨y,g3,g4⟩:=hk.op enc w r b0 vs' ds' q h2 (fun j t v ht hv=>hval (j+1) t v (by simpa using ht) (by simpa using hv)) fun n hn=>hw n (List.mem_append_right _ hn)
 exact⟨(x,y),⟨g1,g3⟩,g2,g4⟩
theorem OpensArgs.one {ts:List TypeId} {X Y:Type} {f:X→D} {G:X→Prop} {c':Y→List D} {G':Y→Prop} (h:Opens P t (fun x=> [f x]) G) (hu:(match P.underlying t with|some .bool=>true|some .string=>true|some (.int _)=>true|some (.slice _)=>true|_=>false)=true) (hk:OpensArgs P ts c' G'):
 OpensArgs P (t::ts) (fun x:X×Y=>f x.1::c' x.2) (fun x=>G x.1∧G' x.2):=by
 refine⟨fun enc w r b0 vs ds ps h0 hval hw=> ?_⟩;obtain⟨v,vs',d,ds',p,q,rfl,rfl,rfl,h1,h2⟩:=Go.ChangeShapes.trodAll_cons h0;simp only [DataW.weightsEach]at hw;obtain⟨x,g1,g2⟩:=h.arg_one hu (hval 0 t v rfl rfl) h1 fun n hn=>hw n (List.mem_append_left _ hn)
 obtain⟨y,g3,g4⟩:=hk.op enc w r b0 vs' ds' q h2 (fun j t v ht hv=>hval (j+1) t v (by simpa using ht) (by simpa using hv)) fun n hn=>hw n (List.mem_append_right _ hn)
 exact⟨(x,y),⟨g1,g3⟩,g2,g4⟩
theorem law_contractB {X:Type} {c:X→List D} {G B:X→Prop} {H:Type} {enc:TypeId×Value→H} {f:Func} {n:FuncId} {s:ChangeSpec} {W:World} {base:Nat} {args:Array Value} {ds gs:List (DataW H)} {before:List MemPlace} {tb:TypeId} {ts:List TypeId}
 (hop:OpensArgs P ts c G) (hlaw:∀x,G x→B x→Does P n (c x) fun y=>y= .v (.bool true)) (hts:f.params.toList=ts)
 (hl:laidOutB P=true) (hr:(ts.all fun t=>P.readableRec t&&Nat.blt t P.types.size)=true) (hvars:s.vars= []) (hrt:f.resultTypes= #[tb]) (htb:P.underlying tb=some .bool)
 (hfn:∀ds:List (DataW H),ds.length=ts.length→(s.fn H ds).results= [.lit (.bool true)]∧(s.fn H ds).args=ds∧(s.fn H ds).vars= [])
 (hval:∀(j:Nat) t v,f.params[j]?=some t→args[j]?=some v→Value.okWide P W .any base t v) (hW:DataW.Whole enc P f.params.toList s.vars false W args.toList ds gs before)
 (hwt:(DataW.weightsEach P (f.params.toList++s.plain.varTypes P) (ds++gs)).all (· ≤reachBytes)=true) (hgi:GIW P W)
 (hB:∀x ps,RepL (fun b=>b<W.heap.size) W (c x) args.toList→DataW.TrodAll enc P W 0 (fun _=>true) true ts args.toList ds ps→B x):
 Calls P n args W fun e W'=>∃v,e= .returned v∧s.post enc P f false true false false W args v W':=by
 have hW0:=hW;obtain⟨p,q,hA,hV,rfl,hfz,hnd⟩:=hW;rw [hvars]at hV
 obtain⟨rfl,rfl⟩:gs= []∧q= []:=by
  cases gs with
  |nil=>exact⟨rfl,hV⟩
  |cons=>simp [DataW.TrodVars]at hV
 rw [hts]at hA
 have hlen:ds.length=ts.length:=by
  have:∀ {ts:List TypeId} {vs:List Value} {ds:List (DataW H)} {ps:List MemPlace},DataW.TrodAll enc P W 0 (fun _=>true) true ts vs ds ps→ds.length=ts.length:=by
   intro ts
   induction ts with
   |nil=>intro vs ds ps h;cases vs<;>cases ds<;>simp_all [DataW.TrodAll]
   |cons t ts ih=>
    intro vs ds ps h;obtain⟨v,vs',d,ds',p,q,rfl,rfl,rfl,h1,h2⟩:=Go.ChangeShapes.trodAll_cons h;simp [ih h2]
  exact this hA
 have hwt':∀m,m∈DataW.weightsEach P ts ds→m≤reachBytes:=by
  intro m hm
  have key:∀(ts r:List TypeId) (ds:List (DataW H)),m∈DataW.weightsEach P ts ds→m∈DataW.weightsEach P (ts++r) ds:=by
   intro ts r
   induction ts with
   |nil=>intro ds h;simp [DataW.weightsEach]at h
   |cons t ts ih=>
    intro ds h;cases ds with
    |nil=>simp [DataW.weightsEach]at h
    |cons d ds=>
     simp only [List.cons_append,DataW.weightsEach]at h⊢;rcases List.mem_append.1 h with h|h
     · exact List.mem_append_left _ h
     · exact List.mem_append_right _ (ih ds h)
  rw [hts,List.append_nil]at hwt;simpa using List.all_eq_true.1 hwt m (key ts _ ds hm)
 obtain⟨x,h1,h2⟩:=hop.op enc W .any base args.toList ds p hA (fun j t v ht hv=>hval j t v (by rw [←hts]at ht;simpa using ht) (by simpa using hv)) hwt'
 obtain⟨f1,f2,f3⟩:=hfn (ds++ []) (by simpa using hlen)
 refine law_post (Ds:=c x) hl (fun t ht=> ?_) hvars hrt htb f1 (by simpa using f2) f3 hW0 h1 (hlaw x h2 (hB x p h1 hA)) hgi
 rw [hts]at ht;have:=List.all_eq_true.1 hr t ht;simp only [Bool.and_eq_true,Nat.blt_eq]at this;exact this
theorem law_contract {X:Type} {c:X→List D} {G:X→Prop} {H:Type} {enc:TypeId×Value→H} {f:Func} {n:FuncId} {s:ChangeSpec} {W:World} {base:Nat} {args:Array Value} {ds gs:List (DataW H)} {before:List MemPlace} {tb:TypeId} {ts:List TypeId}
 (hop:OpensArgs P ts c G) (hlaw:∀x,G x→Does P n (c x) fun y=>y= .v (.bool true)) (hts:f.params.toList=ts)
 (hl:laidOutB P=true) (hr:(ts.all fun t=>P.readableRec t&&Nat.blt t P.types.size)=true) (hvars:s.vars= []) (hrt:f.resultTypes= #[tb]) (htb:P.underlying tb=some .bool)
 (hfn:∀ds:List (DataW H),ds.length=ts.length→(s.fn H ds).results= [.lit (.bool true)]∧(s.fn H ds).args=ds∧(s.fn H ds).vars= [])
 (hval:∀(j:Nat) t v,f.params[j]?=some t→args[j]?=some v→Value.okWide P W .any base t v) (hW:DataW.Whole enc P f.params.toList s.vars false W args.toList ds gs before)
 (hwt:(DataW.weightsEach P (f.params.toList++s.plain.varTypes P) (ds++gs)).all (· ≤reachBytes)=true) (hgi:GIW P W):
 Calls P n args W fun e W'=>∃v,e= .returned v∧s.post enc P f false true false false W args v W':=
 law_contractB (B:=fun _=>True) hop (fun x h _=>hlaw x h) hts hl hr hvars hrt htb hfn hval hW hwt hgi fun _ _ _ _=>trivial
end
theorem wrap_id {z:Int} (h: -9223372036854775808≤z∧z≤9223372036854775807):IntKind.i64.wrap z=z:=IntWalk.i64_in z h
theorem wrap_s {k:Nat} (h:k<9223372036854775807):IntKind.i64.wrap ((k:Int)+1)=((k+1:Nat):Int):=by rw [wrap_id (by omega)];rfl
section
variable {α : Type} (pr : α → Option Bool)
end
end Go.Sx
