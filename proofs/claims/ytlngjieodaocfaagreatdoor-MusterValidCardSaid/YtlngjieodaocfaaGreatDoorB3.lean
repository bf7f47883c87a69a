/- The walk over pure data: its definitions, that it is sound, and what may be read at a type. -/
import Derived.Test.YtlngjieodaocfaaGreatDoorB2
import Derived.Lib.AppendZerosOnto
import Derived.Laws.Externs
import Derived.StillTail
import Derived.Shelf.Sort.Plain
import Derived.Shelf.Slices.In.SortNone
import Derived.Shelf.Slices.CompactI
import Derived.Shelf.Strconv.Itoa3
import Derived.ProofKit
import Derived.SizedLaws
set_option linter.unusedVariables false
set_option linter.unusedSimpArgs false
namespace Go.Sx
open Go Go.RowKit
theorem b8f {P:Program} {e esz:Nat} (w:World) (dT sT ty:TypeId) (g o dLen dCap:Nat) (a:Addr) (sLen sCap:Nat) (cur:Array Value) (t:TypeId) (cs:List Value)
 (hu:P.underlying dT=some (.slice e)) (hs:∀w:World,(sizeOf e).run P w= .ok esz w)
 (hg:w.heap[g]?=some (.cells cur t (0,0))) (hn:cs.length=Nat.min sLen dLen*esz)
 (hsrc:∀j v,cs[j]?=some v→w.cell? (a.add j)=some v) (hfit:o+cs.length≤cur.size) (h1:∀v∈cs,v.oneCell'=true):
 (Builtin.copy_ #[dT,sT] ty #[.slice (some ⟨g,o,none⟩) dLen dCap, .slice (some a) sLen sCap]).run P w=
  .ok (goInt (Nat.min sLen dLen)) (w.setRow g (cur.toList.take o++cs++cur.toList.drop (o+cs.length)).toArray):=by
 have hl:=run_loadCells_list (P:=P) w a cs hsrc
 have hst:=run_storeCells_at (P:=P) g o t cs 0 cur w hg (by simpa using hfit) h1
 rw [hn]at hl
 simp [Builtin.copy_,run_underlying hu,Builtin.lenOf,Builtin.firstCells,hs,hl,hst]
theorem b0O {P:Program} (w:World) (tS tR e:TypeId) (ht:P.underlying tS=some (.slice e)) (size:Nat) (hz:∀w,(Go.sizeOf e).run P w= .ok size w)
 (a b:Addr) (la ca lb cb:Nat) (hne:a.block≠b.block) {cA cB:Array Value} {tA tB:TypeId} {fA:Nat×Nat}
 (hsa:w.heap[a.block]?=some (.cells cA tA fA)) (hsb:w.heap[b.block]?=some (.cells cB tB (0,0))) (hkA:cA.size≠0) (hkB:cB.size≠0):
 (Extern.SlicesOverlaps.overlaps #[tS,tS] #[tR] #[.slice (some a) la ca, .slice (some b) lb cb]).run P w= .ok (.bool false) w:=by
 have hnb:(a.block !=b.block)=true:=by simpa using hne
 have hnb':(a.block==b.block)=false:=by simpa using hne
 have sa:w.shape? a.block=some (tA,cA.size):=by simp [World.shape?,hsa]
 have sb:w.shape? b.block=some (tB,cB.size):=by simp [World.shape?,hsb]
 have fb:w.frozen? b=false:=by simp [World.frozen?,hsb]
 have fe:w.frozen? { block:=b.block,off:=cB.size}=false:=by simp [World.frozen?,hsb]
 change Sem.run P (α:=Value) (do
  let some t:=(#[tS,tS]:Array TypeId)[0]?|stuck "slices.overlaps: no parameter types"
  let .slice elem←underlying t|stuck "slices.overlaps: slice type expected"
  let size←sizeOf elem
  match(some a:Option Addr),(some b:Option Addr)with
  |some a,some b=>
   if la=0∨lb=0∨size=0 then pure (Value.bool false)
   else if a.block !=b.block&&(←frozen a)&&(←frozen b)then unsupported .addressObserved
   else do
    if a.block !=b.block then do
     noView a;noView b
     if←mayBeOne a b then return Value.bool ((←choose (.extern "sameAddr.stringBytes" 2))==1)
    pure (Value.bool (a.block==b.block&&a.off<b.off+lb*size&&b.off<a.off+la*size))
  |_,_=>pure (Value.bool false)) w=_
 by_cases h0:la=0∨lb=0∨size=0
 · simp [run_underlying ht,hz,h0]
 · obtain⟨k,hk⟩:∃k,cB.size=k+1:=⟨cB.size-1,by omega⟩
   obtain⟨k',hk'⟩:∃k,cA.size=k+1:=⟨cA.size-1,by omega⟩
   rw [hk]at sb fe
   rw [hk']at sa
   cases hfa:w.frozen? a<;>cases hfe:w.frozen? { block:=a.block,off:=k'+1}<;>
    simp [run_underlying ht,hz,h0,hnb,hnb',frozen,noView,viewAt,mayBeOne,stringish,shape,Sem.run,sa,sb,fb,fe,hfa,hfe]
def puts (a:Act):List (Nat×Value)→Act
 | []=>a
 |(d,v)::L=>(puts a L).put (some d) v
def lk:List (Nat×Value)→Nat→Option Value
 | [],_=>none
 |(d,v)::L,e=>if Nat.beq d e then some v else lk L e
def lkA (a:Act) (L:List (Nat×Value)) (e:Nat):Option Value:=match lk L e with
 |some v=>some v
 |none=>a.tmps[e]?
def inB (n:Nat):List (Nat×Value)→Bool
 | []=>true
 |(d,_)::L=>Nat.blt d n&&inB n L
theorem a4q {a:Act}:∀(L:List (Nat×Value)),(puts a L).tmps.size=a.tmps.size
 | []=>rfl
 |(d,v)::L=>by rw [puts,a4T,a4q L]
theorem a5T {a:Act}:∀(L:List (Nat×Value)),(puts a L).defers=a.defers
 | []=>rfl
 |(d,v)::L=>by rw [puts,a9Q,a5T L]
theorem V2 {a:Act}:∀(L:List (Nat×Value)) (e:Nat),inB a.tmps.size L=true→(puts a L).tmps[e]?=lkA a L e
 | [],e,_=>rfl
 |(d,v)::L,e,h=>by
  simp only [inB,Bool.and_eq_true]at h
  have hd:d<a.tmps.size:=by simpa [Nat.blt_eq]using h.1
  rw [puts]
  unfold lkA lk
  cases hb:Nat.beq d e with
  |true=>
   have:=Nat.eq_of_beq_eq_true hb
   subst this
   simp only [if_true]
   exact b2k (by rw [a4q];exact hd)
  |false=>
   have:d≠e:=Nat.ne_of_beq_eq_false hb
   rw [b9u this,V2 L e h.2]
   simp [lkA]
theorem I4 {a:Act} {L:List (Nat×Value)} {e N:Nat} {v:Value} (hs:a.tmps.size=N) (hb:inB N L=true) (h:lkA a L e=some v):(puts a L).eval (.tmp e)=v:=a9L (by rw [V2 L e (hs▸hb),h])
theorem G4 {P:Program} {ops:Array Oper} {Q:Exit→Act→World→Prop} {o:Oper} {rest:List Oper} {a:Act} {L:List (Nat×Value)} {w w':World} {v:Value} {d:Nat} (hg:o.guard=none) (hd:o.dst=some d) (h:(execOp (puts a L).eval o).run P w= .ok (.value v) w')
 (hn:wpList P ops Q rest (puts a ((d,v)::L)) w'):wpList P ops Q (o::rest) (puts a L) w:=by
 refine a4V hg h ?_
 rw [hd]
 exact hn
theorem a3X {P:Program} {ops:Array Oper} {Q:Act→Prop} {o:Oper} {rest:List Oper} {a:Act} {L:List (Nat×Value)} {w:World} {v:Value} {d:Nat} (hg:o.guard=none) (hd:o.dst=some d) (h:(execOp (puts a L).eval o).run P w= .ok (.value v) w)
 (hn:wpStill P ops w Q rest (puts a ((d,v)::L))):wpStill P ops w Q (o::rest) (puts a L):=by
 have hw:Region.wanted o (yielded ops (puts a L).tmps)=true:=by simp [Region.wanted,hg]
 simp only [wpStill,hw,if_true,Oper.still,h,Oper.stillUpon_value,hd]
 exact hn
section
variable {P : Program} {a : Act} {L : List (Nat × Value)} {o : Oper} {w : World} {x y N : Nat} {u v : Value}
theorem a0L (hs:a.tmps.size=N) (hb:inB N L=true) (ho:o.op= .move (.tmp x)) (hx:lkA a L x=some v):(execOp (puts a L).eval o).run P w= .ok (.value v) w:=by
 simp [execOp,ho,I4 hs hb hx]
theorem c4A (hs:a.tmps.size=N) (hb:inB N L=true) (ho:o.op= .assign (.tmp x)) (hx:lkA a L x=some v):(execOp (puts a L).eval o).run P w= .ok (.value v) w:=by
 simp [execOp,ho,I4 hs hb hx]
theorem b4Q {t t':TypeId} {p q:Nat} (hs:a.tmps.size=N) (hb:inB N L=true) (ho:o.op= .binOp .add t (.tmp x) (.tmp y) t') (hx:lkA a L x=some (.int .i64 (p:Int))) (hy:lkA a L y=some (.int .i64 (q:Int))) (h:p+q≤9223372036854775807):
 (execOp (puts a L).eval o).run P w= .ok (.value (.int .i64 ((p+q:Nat):Int))) w:=by
 have e:IntKind.i64.wrap ((p:Int)+(q:Int))=((p+q:Nat):Int):=by rw [IntKind.wrap_i64];omega
 simp [execOp,ho,I4 hs hb hx,I4 hs hb hy,eqGuard,binOp,Op.intArith,e]
theorem c6J {t t':TypeId} {p q:Nat} (hs:a.tmps.size=N) (hb:inB N L=true) (ho:o.op= .binOp .sub t (.tmp x) (.tmp y) t') (hx:lkA a L x=some (.int .i64 (p:Int))) (hy:lkA a L y=some (.int .i64 (q:Int))) (hq:q≤p) (h:p≤9223372036854775807):
 (execOp (puts a L).eval o).run P w= .ok (.value (.int .i64 ((p-q:Nat):Int))) w:=by
 have e:IntKind.i64.wrap ((p:Int)-(q:Int))=((p-q:Nat):Int):=by rw [IntKind.wrap_i64];omega
 simp [execOp,ho,I4 hs hb hx,I4 hs hb hy,eqGuard,binOp,Op.intArith,e]
theorem c7p {t t':TypeId} {p q:Nat} (hs:a.tmps.size=N) (hb:inB N L=true) (ho:o.op= .binOp .gtr t (.tmp x) (.tmp y) t') (hx:lkA a L x=some (.int .i64 (p:Int))) (hy:lkA a L y=some (.int .i64 (q:Int))):
 (execOp (puts a L).eval o).run P w= .ok (.value (.bool (decide (q<p)))) w:=by
 simp [execOp,ho,I4 hs hb hx,I4 hs hb hy,eqGuard,binOp,Op.intCmp]
theorem c6M {t:TypeId} {c:Bool} (hs:a.tmps.size=N) (hb:inB N L=true) (ho:o.op= .unOp .not t (.tmp x)) (hx:lkA a L x=some (.bool c)):
 (execOp (puts a L).eval o).run P w= .ok (.value (.bool (!c))) w:=by
 simp [execOp,ho,I4 hs hb hx,Op.unary]
section
variable {t e esz bytes : Nat} {i : TI} {g n cap m : Nat}
theorem b9F (hi:R8 P t i) (hd:i.d= .slice e esz bytes) (hs:a.tmps.size=N) (hb:inB N L=true) (ho:o.op= .slice t (.tmp x) (some (.tmp y)) none none) (hx:lkA a L x=some (.slice (some ⟨g,0,none⟩) n cap)) (hy:lkA a L y=some (.int .i64 (m:Int))) (hm:m<n) (hnc:n≤cap):
 (execOp (puts a L).eval o).run P w= .ok (.value (.slice (some ⟨g,m*esz,none⟩) (n-m) (cap-m))) w:=by
 obtain⟨off,h1,h2⟩:=c1M (X:=⟨P, [],0, [], [], [], [], [], []⟩) (g:=g) hi hd (show m≤n by omega) hnc w
 obtain rfl:off=m*esz:=by omega
 simp only [execOp,ho,I4 hs hb hx,I4 hs hb hy,Option.map,Sem.run_bind,h1]
 try rfl
theorem c6p (hi:R8 P t i) (hd:i.d= .slice e esz bytes) (hs:a.tmps.size=N) (hb:inB N L=true) (ho:o.op= .slice t (.tmp x) none (some (.tmp y)) none) (hx:lkA a L x=some (.slice (some ⟨g,0,none⟩) n cap)) (hy:lkA a L y=some (.int .i64 (m:Int))) (hm:m≤cap):
 (execOp (puts a L).eval o).run P w= .ok (.value (.slice (some ⟨g,0,none⟩) m cap)) w:=by
 have h1:=c5H (X:=⟨P, [],0, [], [], [], [], [], []⟩) (g:=g) (n:=n) hi hd hm w
 simp only [execOp,ho,I4 hs hb hx,I4 hs hb hy,Option.map,Sem.run_bind,h1]
 rfl
theorem b4r {b:Builtin} {tys:Array TypeId} {xs:List Nat} {vals:List Value} {v:Value} {w':World} (ho:o.op= .call { callee:= .builtin b,args:=(xs.map Operand.tmp).toArray,argTypes:=tys}) (hs:a.tmps.size=N) (hb:inB N L=true)
 (hx:xs.map (fun x=>lkA a L x)=vals.map some) (h:∀cs,(builtin b tys o.type cs vals.toArray).run P w= .ok (.value v) w'):(execOp (puts a L).eval o).run P w= .ok (.value v) w':=by
 have he:(xs.map Operand.tmp).toArray.map (puts a L).eval=vals.toArray:=by
  apply Array.ext'
  simp only [List.map_toArray,List.map_map]
  clear ho h
  induction xs generalizing vals with
  |nil=>cases vals with
   |nil=>rfl
   |cons=>simp at hx
  |cons x xs ih=>cases vals with
   |nil=>simp at hx
   |cons u us=>
    simp only [List.map_cons,List.cons.injEq]at hx
    simp only [List.map_cons,Function.comp,I4 hs hb hx.1]
    rw [←ih hx.2]
 obtain⟨cs,hr⟩:=U7 (X:=cx (⟨P, [],0, [], [], [], [], [], []⟩:Cy) w []) (a:=puts a L) ho he w
 have hr':(execOp (puts a L).eval o).run P w=_:=hr
 rw [hr']
 exact h cs
theorem c7K {f:FuncId} {tys:Array TypeId} {x1 x2:Nat} {v1 v2 v:Value} {w':World} (ho:o.op= .call { callee:= .value (.func f),args:= #[.tmp x1, .tmp x2],argTypes:=tys}) (hs:a.tmps.size=N) (hb:inB N L=true)
 (h1:lkA a L x1=some v1) (h2:lkA a L x2=some v2) (h:(callFunc f #[v1,v2]).run P w= .ok (.value v) w'):(execOp (puts a L).eval o).run P w= .ok (.value v) w':=by
 simp only [execOp,ho,resolve,invoke,Sem.run_bind,Sem.run_pure,Result.andThen_ok,List.map_toArray,List.map_cons,List.map_nil,I4 hs hb h1,I4 hs hb h2]
 first|exact h|(simp [Act.eval,Operand.func,h];done)|simp [Act.eval,callValue,h]
end
end
theorem c1t {α:Type} (c ls C1:List α) (I M N:Nat) (hI:I≤N) (hl:ls.length=M) (hc:N+M≤c.length) (h1:C1=c.take (I+M)++(c.take N).drop I++c.drop (I+M+(N-I))):
 (C1.take I++ls++C1.drop (I+M)).take (N+M)=c.take I++ls++(c.take N).drop I:=by
 have a1:C1.take I=c.take I:=by
  rw [h1,List.append_assoc,List.take_append_of_le_length (by simp;omega),List.take_take,Nat.min_eq_left (by omega)]
 have a2:C1.drop (I+M)=(c.take N).drop I++c.drop (I+M+(N-I)):=by
  rw [h1,List.append_assoc,List.drop_left' (by simp;omega)]
 rw [a1,a2,←List.append_assoc]
 exact List.take_left' (by simp [hl];omega)
theorem c3A {α:Type} (c ls C1 C2:List α) (I M N:Nat) (hI:I≤N) (hl:ls.length=M) (hc:N≤c.length) (h0:C1.take I=c.take I) (hn:N+M≤C1.length) (h2:C2=C1.take I++ls++C1.drop (I+M)):
 (C2.take (I+M)++(c.take N).drop I++C2.drop (I+M+(N-I))).take (N+M)=c.take I++ls++(c.take N).drop I:=by
 have a1:C2.take (I+M)=c.take I++ls:=by
  rw [h2,h0]
  exact List.take_left' (by simp [hl];omega)
 rw [a1]
 exact List.take_left' (by simp [hl];omega)
theorem c1B {P:Program} {t e esz bytes tn:Nat} {i ie:TI} (hi:R8 P t i) (hd:i.d= .slice e esz bytes) (hie:R8 P e ie) (hiz:ie.n=esz) (h1:0<esz) (hn:P.underlying tn=some (.int .i64)) {w:World} {g cap j k:Nat} {cur:Array Value}
 (hg:w.heap[g]?=some (.cells cur e (0,0))) (hcs:cur.size=cap*esz) (hj:j≤cap) (hk:0<k) (hroom:cap<j+k) (hb:(j+k)*bytes≤140737488355328) (hm:j+k≤maxLen):
 ∃C1 c',(∀ty,(Builtin.append_ #[t,tn] ty #[.slice (some ⟨g,0,none⟩) j cap, .int .i64 (k:Int)]).run P w= .ok (.slice (some ⟨w.heap.size,0,none⟩) (j+k) c') (w.drew.alloc (.cells C1 e)))∧C1.size=c'*esz∧j+k≤c'∧c'≤maxLen∧C1.toList.take (j*esz)=cur.toList.take (j*esz):=by
 obtain⟨hu,inf,hinf,hsz,hby⟩:=hi.slice hd
 obtain⟨inf',z,hinf',hsz',hz,hzc⟩:=hie.info
 obtain rfl:inf=inf':=by rw [hinf]at hinf';exact Option.some.inj hinf'
 have hzs:z.cells.size=esz:=by rw [←Array.length_toList,hzc,hie.zn,hiz]
 have hjc:j*esz≤cur.size:=by rw [hcs];exact Nat.mul_le_mul_right _ hj
 have hm':j+k≤9223372036854775807:=by simpa [maxLen]using hm
 have hol:(cur.toList.take (j*esz)).length=j*esz:=by simp;omega
 have hold:=run_firstCells_some (P:=P) w.drew inf.size j ⟨g,0,none⟩ j cap (cur.toList.take (j*esz)) (by rw [hol,hsz]) (fun q v hq=>by
  have hlt:q<j*esz:=by have:=(List.getElem?_eq_some_iff.1 hq).1;omega
  rw [V5]
  rw [List.getElem?_take_of_lt hlt]at hq
  have hq':cur[q]?=some v:=by simpa using hq
  show(w.cell? ⟨g,0+q,none⟩)=some v
  simp [World.cell?,hg,hq'])
 have hkb:k*inf.bytes≤281474976710656:=by
  have:k*inf.bytes≤(j+k)*inf.bytes:=Nat.mul_le_mul_right _ (by omega)
  rw [hby]at this⊢
  omega
 refine⟨_,grownCap w (j+k) cap e,fun ty=>Lib.run_append_grow_zeros w t tn ty e inf z .i64 .i64 hu hn hinf hz (some ⟨g,0,none⟩) j cap _ hold k hk (by omega) hroom (by omega) hkb (by rw [hby];exact growslice_fits hroom hb), ?_,grownCap_ge _ _ _ _,grownCap_le_maxLen _ _ _ _ hm, ?_⟩
 · have:=grownCap_ge w (j+k) cap e
   simp only [Array.size_append,List.size_toArray,hol,Builtin.zeroCells,Array.size_map,Array.size_range,hzs]
   rw [←Nat.add_mul,←Nat.add_mul]
   congr 1
   omega
 · simp only [Array.toList_append,List.append_assoc]
   exact List.take_left' hol
end Go.Sx
namespace Go.Sx
open Go Go.RowKit
inductive c3z (t:TypeId):List (Int×Nat)→List Oper→Prop
 |nil {T1 T2:TypeId} {p1 p2:String} {f1 f2:Array Edge}:c3z t [] [{ dst:=some 2,op:= .move (.tmp 1),type:=T1,pos:=p1,after:=f1,guard:=none}, { dst:=some 0,op:= .assign (.tmp 2),type:=T2,pos:=p2,after:=f2,guard:=none}]
 |cons {k:Int} {f:Nat} {l:List (Int×Nat)} {ops:List Oper} {T:TypeId} {p:String} {fe:Array Edge}:c3z t l ops→c3z t ((k,f)::l) ({ dst:=none,op:= .insert t (.tmp 1) (.const (.int .i64 k)) (.func f),type:=T,pos:=p,after:=fe,guard:=none}::ops)
inductive c1P (t:TypeId) (l:List (Int×Nat)):Code→Prop
 |mk {T1 T2:TypeId} {p1 p2:String} {f1 f2:Array Edge} {r0 r1:Nat} {rest:List Oper}:c3z t l rest→c1P t l (Code.seq (.region r0 #[{ dst:=some 0,op:= .assign (.const (.map none)),type:=T1,pos:=p1,after:=f1,guard:=none}] false)
  (.seq (.region r1 (List.toArray ({ dst:=some 1,op:= .makeMap t none,type:=T2,pos:=p2,after:=f2,guard:=none}::rest)) false) .ret))
theorem c0w {P:Program} {ops:Array Oper} {Q:Exit→Act→World→Prop} {o:Oper} {rest:List Oper} {a:Act} {w w':World} (hg:o.guard=none) (hd:o.dst=none) (h:(execOp a.eval o).run P w= .ok .skip w') (hn:wpList P ops Q rest a w'):wpList P ops Q (o::rest) a w:=by
 have hw:Region.wanted o (yielded ops a.tmps)=true:=by simp [Region.wanted,hg]
 simp only [wpList,hw,if_true]
 left
 unfold Oper.wp
 rw [h]
 show wpList P ops Q rest (a.put o.dst undef) w'
 rw [hd]
 exact hn
theorem b0b {i:Int}:∀(l:List (Int×Nat)) (es:List MapEntry) (k:Nat),es.map (fun e=>(e.key,e.val))=l.map (fun p=>(Value.int .i64 p.1,Value.func (.func p.2) #[] #[]))→i∉l.map (·.1)→Instr.findNow (.int .i64) (.int .i64 i) es k=some none
 | [], [],_,_,_=>rfl
 | [],_::_,_,he,_=>by simp at he
 |(a,g)::l, [],_,he,_=>by simp at he
 |(a,g)::l,e::es,k,he,h=>by
  simp only [List.map_cons,List.cons.injEq,Prod.mk.injEq]at he
  obtain⟨⟨h1,h2⟩,h3⟩:=he
  simp only [List.map_cons,List.mem_cons,not_or]at h
  have hs:Instr.sameNow (.int .i64) (.int .i64 i) e.key=some (i==a):=by rw [h1];simp [Instr.sameNow]
  have hb:(i==a)=false:=by simpa using h.1
  simp only [Instr.findNow,hs,hb]
  exact b0b l es (k+1) h3 h.2
theorem b9s {P:Program} {w:World} {t kt et:TypeId} {r c:Nat} {i:Int} {es:Array MapEntry} {v:Value} (hu:P.underlying t=some (.map kt et)) (hk:P.underlying kt=some (.int .i64))
 (hb:w.heap[r]?=some (.map es c)) (hf:Instr.findNow (.int .i64) (.int .i64 i) es.toList 0=some none):(Instr.mapUpdate t (.map (some r)) (.int .i64 i) v).run P w= .ok () { w with heap:=w.heap.setIfInBounds r (.map (es.push { key:= .int .i64 i,val:=v,born:=c}) (c+1))}:=by
 have h1:=MapKept.run_getObj_map (P:=P) hb
 have h2:=MapKept.run_checkKey (w:=w) (k:= .int .i64 i) hk (by simp [MapKept.IsKey]) false 9999
 have h3:=MapKept.run_findKey (w:=w) hk hf
 simp [Instr.mapUpdate,run_underlying hu,h1,h2,h3,MapKept.run_setObj_map _ hb,Result.andThen]
structure c5e (w W:World) (l:List (Int×Nat)):Prop where
 ex:∃es c,W.heap[w.heap.size]?=some (.map es c)∧es.toList.map (fun e=>(e.key,e.val))=l.map (fun p=>(Value.int .i64 p.1,Value.func (.func p.2) #[] #[]))
 os:W.os=w.os
 tape:W.tape=w.tape
 output:W.output=w.output
 size:W.heap.size=w.heap.size+1
 block:∀i,i<w.heap.size→W.heap[i]?=w.heap[i]?
theorem b8u {P:Program} {ops:Array Oper} {w:World} {t kt et:TypeId} (hu:P.underlying t=some (.map kt et)) (hk:P.underlying kt=some (.int .i64)) {Q:Exit→Act→World→Prop}:
 ∀(rest:List Oper) (l pre:List (Int×Nat)) (a:Act) (W:World),c3z t l rest→((pre++l).map (·.1)).Nodup→c5e w W pre→3≤a.tmps.size→a.tmps[1]?=some (.map (some w.heap.size))→
  (∀a' W',c5e w W' (pre++l)→a'.defers=a.defers→a'.tmps.size=a.tmps.size→a'.tmps[0]?=some (.map (some w.heap.size))→Q .normal a' W')→wpList P ops Q rest a W:=by
 intro rest l
 induction l generalizing rest with
 |nil=>
  intro pre a W hi hnd hm hs h1 hQ
  cases hi
  refine a4V (v:= .map (some w.heap.size)) (w':=W) rfl (by simp [execOp,a9L h1]) ?_
  have h2:(a.put (some 2) (.map (some w.heap.size))).tmps[2]?=some (.map (some w.heap.size)):=b2k (by omega)
  refine a4V (v:= .map (some w.heap.size)) (w':=W) rfl (by simp [execOp,a9L h2]) ?_
  exact hQ _ W (by simpa using hm) (by rw [a9Q,a9Q]) (by rw [a4T,a4T]) (b2k (by rw [a4T];omega))
 |cons x l ih=>
  intro pre a W hi hnd hm hs h1 hQ
  cases hi with
  |cons hi=>
   rename_i k f ops' T p fe
   obtain⟨es,c,hb,he⟩:=hm.ex
   have hnk:k∉pre.map (·.1):=by
    simp only [List.map_append,List.map_cons]at hnd
    intro hc
    exact(List.nodup_append.1 hnd).2.2 _ hc _ List.mem_cons_self rfl
   have hr:=b9s (v:= .func (.func f) #[] #[]) hu hk hb (b0b pre es.toList 0 he hnk)
   have e1:=a9L h1
   have e2:a.eval (.const (.int .i64 k))= .int .i64 k:=rfl
   have e3:a.eval (.func f)= .func (.func f) #[] #[]:=rfl
   refine c0w rfl rfl (by simp only [execOp,e1,e2,e3,Sem.run_bind,hr];rfl) ?_
   have hlt:w.heap.size<W.heap.size:=by rw [hm.size];omega
   refine ih ops' (pre++ [(k,f)]) a _ hi (by simpa using hnd) ⟨⟨_,_,(by show(W.heap.setIfInBounds w.heap.size _)[w.heap.size]?=_;rw [Array.getElem?_setIfInBounds_self_of_lt hlt]),by simp [he]⟩,hm.os,hm.tape,hm.output,(by show(W.heap.setIfInBounds w.heap.size _).size=_;rw [Array.size_setIfInBounds];exact hm.size),fun i hi=> ?_⟩ hs h1 fun a' W' hm'=>hQ a' W' (by simpa using hm')
   have hne:w.heap.size≠i:=by omega
   show(W.heap.setIfInBounds w.heap.size _)[i]?=_
   rw [Array.getElem?_setIfInBounds_ne hne,hm.block i hi]
theorem c3D {P:Program} {f:FuncId} {fn:Func} {c:Code} {t kt et:TypeId} {l:List (Int×Nat)} (hf:P.funcs[f]?=some fn) (hb:fn.body=some c) (hm:c1P t l c) (hnd:(l.map (·.1)).Nodup) (h3:fn.ntmps=3) (hres:fn.results= #[.tmp 0])
 (hu:P.underlying t=some (.map kt et)) (hk:P.underlying kt=some (.int .i64)):d7 P f [] fun x=>x= .mp l:=by
 intro ok w vl hrep hok
 obtain rfl:vl= []:=List.eq_nil_of_length_eq_zero (by rw [←hrep.length];rfl)
 refine calls_of_wp hf hb ?_
 cases hm with
 |mk hi=>
  generalize ha0:({ tmps:=(([]:List Value).toArray++Array.replicate (fn.ntmps-([]:List Value).toArray.size) undef),defers:= []}:Act)=a0
  have hs0:a0.tmps.size=3:=by rw [←ha0];simp [h3]
  have hd0:a0.defers= []:=by rw [←ha0]
  refine wp_seq (wp_region_list ?_)
  refine a4V (v:= .map none) (w':=w) rfl (by simp [execOp,Act.eval]) ?_
  show Code.wp _ _ _ _ _
  refine wp_seq (wp_region_list ?_)
  have hmk:(Instr.makeMap t none).run P w= .ok (.map (some w.heap.size)) (w.alloc (.map #[] 0)):=by simp [Instr.makeMap,Result.andThen]
  refine a4V (v:= .map (some w.heap.size)) (w':=w.alloc (.map #[] 0)) rfl (by simp only [execOp,Option.map,Sem.run_bind,hmk];rfl) ?_
  have hal:=MapKept.heap_alloc w (.map #[] 0)
  refine b8u hu hk _ l [] _ _ hi (by simpa using hnd) ⟨⟨#[],0,hal.1,rfl⟩,rfl,rfl,rfl,(by show(w.heap.push _).size=_;rw [Array.size_push]),hal.2⟩ (by rw [a4T,a4T];omega) (b2k (by rw [a4T];omega)) fun a' W' hM hdf hsz h0=> ?_
  show Code.wp _ _ _ _ _
  refine wp_ret ?_
  show bodyPost _ _ _ .ret _ _
  obtain⟨es,c,h1,h2⟩:=hM.ex
  refine⟨by rw [hdf,a9Q,a9Q];exact hd0, .map (some w.heap.size), ?_,_,_,rfl,rfl, ?_, ?_⟩
  · rw [show results fn a'.tmps=_ from by unfold results;rw [hres]]
    simp [h0]
  · simp only [Rep]
    exact⟨_,es,c,rfl, .inr ⟨Nat.le_refl _,by rw [hM.size];omega⟩,h1,by simpa using h2⟩
  · exact(Fx.below (a:=w) ⟨hM.os,hM.tape,hM.output,by rw [hM.size];omega,fun i hi _=>hM.block i hi⟩)
end Go.Sx
set_option maxRecDepth 100000
set_option maxHeartbeats 1000000
namespace Go.Sx
open Go Go.RowKit
structure b8H (w W:World) (g esz n m:Nat) (e:TypeId) (R:List Value) (v':Value):Prop where
 ex:∃g' c' C,v'= .slice (some ⟨g',0,none⟩) (n+m) c'∧W.heap[g']?=some (.cells C e (0,0))∧n+m≤c'∧c'≤maxLen∧C.size=c'*esz∧C.toList.take ((n+m)*esz)=R∧(g'=g∨w.heap.size≤g')
 fx:Fx [g] w W
structure b8T (X:Cy) (a:Act) (w:World) (t tI e esz bytes g n cap i m mc:Nat) (sa:Addr) (ls cur:List Value):Prop where
 sz:a.tmps.size=95
 t0:a.tmps[0]?=some (.slice (some ⟨g,0,none⟩) n cap)
 t1:a.tmps[1]?=some (.int .i64 (i:Int))
 t2:a.tmps[2]?=some (.slice (some sa) m mc)
 t7:a.tmps[7]?=some (.int .i64 (m:Int))
 t8:a.tmps[8]?=some (.int .i64 (n:Int))
 hi:i<n
 hm:0<m
 hn:n≤cap
 hcm:cap≤maxLen
 hnm:n+m≤maxLen
 hb:(n+m)*bytes≤140737488355328
 hg:w.heap[g]?=some (.cells cur.toArray e (0,0))
 hcs:cur.length=cap*esz
 hll:ls.length=m*esz
 hl1:∀v,v∈ls→v.oneCell'=true
 hc1:∀v,v∈cur.take (n*esz)→v.oneCell'=true
 hne:sa.block≠g
 hsl:∃cA tA fA,w.heap[sa.block]?=some (.cells cA tA fA)∧cA.size≠0
 hsv:∀W:World,W.heap[sa.block]?=w.heap[sa.block]?→∀j v,ls[j]?=some v→W.cell? (sa.add j)=some v
 hint:X.P.underlying tI=some (.int .i64)
 hz:0<esz
theorem b3U {a:Act} {L:List (Nat×Value)}:∀(L':List (Nat×Value)),puts (puts a L) L'=puts a (L'++L)
 | []=>rfl
 |(d,v)::L'=>by rw [List.cons_append,puts,puts,b3U L']
section
variable {X : Cy} {Q : Exit → Act → World → Prop} {t tI tB e esz bytes : Nat} {i ie : TI} {a : Act} {w : World} {g n cap ix m mc : Nat} {sa : Addr} {ls cur : List Value}
structure c4t (P:Program) (t:TypeId) (ov:FuncId):Prop where
 ex:∃fn tR,P.funcs[ov]?=some fn∧(fn.name== "runtime.NumGoroutine")=false∧fn.body.isNone=true∧Extern.findNext fn=none∧Extern.find fn=some (Extern.SlicesOverlaps.overlaps #[t,t] #[tR])
theorem b1Z {P:Program} {e esz:Nat} (w:World) (dT sT ty:TypeId) (g o dLen dCap:Nat) (a:Addr) (sLen sCap:Nat) (cur:List Value) (t:TypeId) (cs:List Value)
 (hu:P.underlying dT=some (.slice e)) (hs:∀w:World,(sizeOf e).run P w= .ok esz w)
 (hg:w.heap[g]?=some (.cells cur.toArray t (0,0))) (hn:cs.length=Nat.min sLen dLen*esz)
 (hsrc:∀j v,cs[j]?=some v→w.cell? (a.add j)=some v) (hfit:o+cs.length≤cur.length) (h1:∀v,v∈cs→v.oneCell'=true):
 (Builtin.copy_ #[dT,sT] ty #[.slice (some ⟨g,o,none⟩) dLen dCap, .slice (some a) sLen sCap]).run P w=
  .ok (goInt (Nat.min sLen dLen)) (w.setRow g (cur.take o++cs++cur.drop (o+cs.length)).toArray):=by
 have:=b8f w dT sT ty g o dLen dCap a sLen sCap cur.toArray t cs hu hs hg hn hsrc (by simpa using hfit) h1
 simpa using this
theorem c5V {T22 T23 T24 T25 T26 T27 T28 T29 T30:TypeId} {p22 p23 p24 p25 p26 p27 p28 p29 p30:String} {r11:Nat} {v:Value} {W1:World} {g1 n1 c1 g2 n2 c2:Nat} (hP:POK X.P X.tt) (hti:R8 X.P t i) (hd:i.d= .slice e esz bytes) (hs:a.tmps.size=95) (h9:a.tmps[9]?=some (.slice (some ⟨g1,0,none⟩) (n1) (c1))) (h0:a.tmps[0]?=some (.slice (some ⟨g2,0,none⟩) (n2) (c2))) (h1:a.tmps[1]?=some (.int .i64 ((ix:Nat):Int))) (h7:a.tmps[7]?=some (.int .i64 ((m:Nat):Int)))
 (q1:ix+m<n1) (q2:n1≤c1) (q3:ix<n2) (q4:n2≤c2) (q5:ix+m≤9223372036854775807) (hcp:∀ty,(Builtin.copy_ #[t,t] ty #[.slice (some ⟨g1,(ix+m)*esz,none⟩) (n1-(ix+m)) (c1-(ix+m)), .slice (some ⟨g2,ix*esz,none⟩) (n2-ix) (c2-ix)]).run X.P { w with drawn:=w.drawn+1}= .ok v W1)
 (hQ:Q .normal (puts a [(54,v),(53, .slice (some ⟨g2,ix*esz,none⟩) (n2-ix) (c2-ix)),(52, .int .i64 ((ix:Nat):Int)),(51, .slice (some ⟨g2,0,none⟩) (n2) (c2)),(50, .slice (some ⟨g1,(ix+m)*esz,none⟩) (n1-(ix+m)) (c1-(ix+m))),(49, .int .i64 ((ix+m:Nat):Int)),(48, .int .i64 ((m:Nat):Int)),(47, .int .i64 ((ix:Nat):Int)),(46, .slice (some ⟨g1,0,none⟩) (n1) (c1))]) W1):(Code.region r11 #[{ dst:=some 46,op:= .move (.tmp 9),type:=T22,pos:=p22,after:= #[],guard:=none},
 { dst:=some 47,op:= .move (.tmp 1),type:=T23,pos:=p23,after:= #[],guard:=none},
 { dst:=some 48,op:= .move (.tmp 7),type:=T24,pos:=p24,after:= #[],guard:=none},
 { dst:=some 49,op:= .binOp .add tI (.tmp 47) (.tmp 48) tI,type:=T25,pos:=p25,after:= #[{ on:=1,ground:= .data}, { on:=2,ground:= .data}],guard:=none},
 { dst:=some 50,op:= .slice t (.tmp 46) (some (.tmp 49)) none none,type:=T26,pos:=p26,after:= #[{ on:=0,ground:= .data}, { on:=3,ground:= .data}],guard:=none},
 { dst:=some 51,op:= .move (.tmp 0),type:=T27,pos:=p27,after:= #[],guard:=none},
 { dst:=some 52,op:= .move (.tmp 1),type:=T28,pos:=p28,after:= #[],guard:=none},
 { dst:=some 53,op:= .slice t (.tmp 51) (some (.tmp 52)) none none,type:=T29,pos:=p29,after:= #[{ on:=5,ground:= .data}, { on:=6,ground:= .data}],guard:=none},
 { dst:=some 54,op:= .call { callee:= .builtin .copy,args:= #[.tmp 50, .tmp 53],argTypes:= #[t,t]},type:=T30,pos:=p30,after:= #[{ on:=4,ground:= .data}, { on:=7,ground:= .data}],guard:=none}] true:Code).wp X.P Q a w:=by
 refine wp_region_still_tail 8 hP.mix (by kernel_rfl) ?_
 show wpStill _ _ _ _ [_,_,_,_,_,_,_,_] (puts a [])
 refine a3X (v:= .slice (some ⟨g1,0,none⟩) (n1) (c1)) rfl rfl (a0L hs (by rfl) (x:=9) rfl (by exact h9)) ?_
 refine a3X (v:= .int .i64 ((ix:Nat):Int)) rfl rfl (a0L hs (by rfl) (x:=1) rfl (by exact h1)) ?_
 refine a3X (v:= .int .i64 ((m:Nat):Int)) rfl rfl (a0L hs (by rfl) (x:=7) rfl (by exact h7)) ?_
 refine a3X (v:= .int .i64 ((ix+m:Nat):Int)) rfl rfl (b4Q (x:=47) (y:=48) hs (by rfl) rfl (by exact rfl) (by exact rfl) (by omega)) ?_
 refine a3X (v:= .slice (some ⟨g1,(ix+m)*esz,none⟩) (n1-(ix+m)) (c1-(ix+m))) rfl rfl (b9F (x:=46) (y:=49) hti hd hs (by rfl) rfl (by exact rfl) (by exact rfl) (by omega) (by omega)) ?_
 refine a3X (v:= .slice (some ⟨g2,0,none⟩) (n2) (c2)) rfl rfl (a0L hs (by rfl) (x:=0) rfl (by exact h0)) ?_
 refine a3X (v:= .int .i64 ((ix:Nat):Int)) rfl rfl (a0L hs (by rfl) (x:=1) rfl (by exact h1)) ?_
 refine a3X (v:= .slice (some ⟨g2,ix*esz,none⟩) (n2-ix) (c2-ix)) rfl rfl (b9F (x:=51) (y:=52) hti hd hs (by rfl) rfl (by exact rfl) (by exact rfl) (by omega) (by omega)) ?_
 show wpList _ _ _ [_] _ _
 refine G4 (v:=v) (w':=W1) rfl rfl (b4r (b:= .copy) (xs:= [50,53]) (vals:= [.slice (some ⟨g1,(ix+m)*esz,none⟩) (n1-(ix+m)) (c1-(ix+m)), .slice (some ⟨g2,ix*esz,none⟩) (n2-ix) (c2-ix)]) (by exact rfl) hs (by rfl) (by simp only [List.map_cons,List.map_nil];congr 1) (fun cs=>by simp only [builtin,Sem.run_bind,hcp,Result.andThen_ok,Sem.run_pure])) ?_
 exact hQ
theorem c5A {T47 T48 T49 T50 T51 T52 T53 T54 T55:TypeId} {p47 p48 p49 p50 p51 p52 p53 p54 p55:String} {r15:Nat} {v:Value} {W1:World} {g1 n1 c1:Nat} (hP:POK X.P X.tt) (hti:R8 X.P t i) (hd:i.d= .slice e esz bytes) (hs:a.tmps.size=95) (h9:a.tmps[0]?=some (.slice (some ⟨g1,0,none⟩) (n1) (c1))) (h0:a.tmps[0]?=some (.slice (some ⟨g1,0,none⟩) (n1) (c1))) (h1:a.tmps[1]?=some (.int .i64 ((ix:Nat):Int))) (h7:a.tmps[7]?=some (.int .i64 ((m:Nat):Int)))
 (q1:ix+m<n1) (q2:n1≤c1) (q3:ix<n1) (q4:n1≤c1) (q5:ix+m≤9223372036854775807) (hcp:∀ty,(Builtin.copy_ #[t,t] ty #[.slice (some ⟨g1,(ix+m)*esz,none⟩) (n1-(ix+m)) (c1-(ix+m)), .slice (some ⟨g1,ix*esz,none⟩) (n1-ix) (c1-ix)]).run X.P { w with drawn:=w.drawn+1}= .ok v W1)
 (hQ:Q .normal (puts a [(77,v),(76, .slice (some ⟨g1,ix*esz,none⟩) (n1-ix) (c1-ix)),(75, .int .i64 ((ix:Nat):Int)),(74, .slice (some ⟨g1,0,none⟩) (n1) (c1)),(73, .slice (some ⟨g1,(ix+m)*esz,none⟩) (n1-(ix+m)) (c1-(ix+m))),(72, .int .i64 ((ix+m:Nat):Int)),(71, .int .i64 ((m:Nat):Int)),(70, .int .i64 ((ix:Nat):Int)),(69, .slice (some ⟨g1,0,none⟩) (n1) (c1))]) W1):(Code.region r15 #[{ dst:=some 69,op:= .move (.tmp 0),type:=T47,pos:=p47,after:= #[],guard:=none},
 { dst:=some 70,op:= .move (.tmp 1),type:=T48,pos:=p48,after:= #[],guard:=none},
 { dst:=some 71,op:= .move (.tmp 7),type:=T49,pos:=p49,after:= #[],guard:=none},
 { dst:=some 72,op:= .binOp .add tI (.tmp 70) (.tmp 71) tI,type:=T50,pos:=p50,after:= #[{ on:=1,ground:= .data}, { on:=2,ground:= .data}],guard:=none},
 { dst:=some 73,op:= .slice t (.tmp 69) (some (.tmp 72)) none none,type:=T51,pos:=p51,after:= #[{ on:=0,ground:= .data}, { on:=3,ground:= .data}],guard:=none},
 { dst:=some 74,op:= .move (.tmp 0),type:=T52,pos:=p52,after:= #[],guard:=none},
 { dst:=some 75,op:= .move (.tmp 1),type:=T53,pos:=p53,after:= #[],guard:=none},
 { dst:=some 76,op:= .slice t (.tmp 74) (some (.tmp 75)) none none,type:=T54,pos:=p54,after:= #[{ on:=5,ground:= .data}, { on:=6,ground:= .data}],guard:=none},
 { dst:=some 77,op:= .call { callee:= .builtin .copy,args:= #[.tmp 73, .tmp 76],argTypes:= #[t,t]},type:=T55,pos:=p55,after:= #[{ on:=4,ground:= .data}, { on:=7,ground:= .data}],guard:=none}] true:Code).wp X.P Q a w:=by
 refine wp_region_still_tail 8 hP.mix (by kernel_rfl) ?_
 show wpStill _ _ _ _ [_,_,_,_,_,_,_,_] (puts a [])
 refine a3X (v:= .slice (some ⟨g1,0,none⟩) (n1) (c1)) rfl rfl (a0L hs (by rfl) (x:=0) rfl (by exact h0)) ?_
 refine a3X (v:= .int .i64 ((ix:Nat):Int)) rfl rfl (a0L hs (by rfl) (x:=1) rfl (by exact h1)) ?_
 refine a3X (v:= .int .i64 ((m:Nat):Int)) rfl rfl (a0L hs (by rfl) (x:=7) rfl (by exact h7)) ?_
 refine a3X (v:= .int .i64 ((ix+m:Nat):Int)) rfl rfl (b4Q (x:=70) (y:=71) hs (by rfl) rfl (by exact rfl) (by exact rfl) (by omega)) ?_
 refine a3X (v:= .slice (some ⟨g1,(ix+m)*esz,none⟩) (n1-(ix+m)) (c1-(ix+m))) rfl rfl (b9F (x:=69) (y:=72) hti hd hs (by rfl) rfl (by exact rfl) (by exact rfl) (by omega) (by omega)) ?_
 refine a3X (v:= .slice (some ⟨g1,0,none⟩) (n1) (c1)) rfl rfl (a0L hs (by rfl) (x:=0) rfl (by exact h0)) ?_
 refine a3X (v:= .int .i64 ((ix:Nat):Int)) rfl rfl (a0L hs (by rfl) (x:=1) rfl (by exact h1)) ?_
 refine a3X (v:= .slice (some ⟨g1,ix*esz,none⟩) (n1-ix) (c1-ix)) rfl rfl (b9F (x:=74) (y:=75) hti hd hs (by rfl) rfl (by exact rfl) (by exact rfl) (by omega) (by omega)) ?_
 show wpList _ _ _ [_] _ _
 refine G4 (v:=v) (w':=W1) rfl rfl (b4r (b:= .copy) (xs:= [73,76]) (vals:= [.slice (some ⟨g1,(ix+m)*esz,none⟩) (n1-(ix+m)) (c1-(ix+m)), .slice (some ⟨g1,ix*esz,none⟩) (n1-ix) (c1-ix)]) (by exact rfl) hs (by rfl) (by simp only [List.map_cons,List.map_nil];congr 1) (fun cs=>by simp only [builtin,Sem.run_bind,hcp,Result.andThen_ok,Sem.run_pure])) ?_
 exact hQ
theorem c6e {T33 T34 T35 T36 T37 T38 T39 T40 T41 T42 T43 T44 T45 T46 T47 T48 T49 T50 T51 T52 T53 T54 T55 T56 T57 T58 T59 T60 T61 T62:TypeId} {p33 p34 p35 p36 p37 p38 p39 p40 p41 p42 p43 p44 p45 p46 p47 p48 p49 p50 p51 p52 p53 p54 p55 p56 p57 p58 p59 p60 p61 p62:String} {f33 f34 f35 f36 f37 f38 f39 f40 f41 f42 f43 f44 f45 f46 f56 f57 f58 f59 f60 f61 f62:Array Edge} {r13 r14 r15 r16 r17:Nat} {ov:FuncId} {rest:Code} (hP:POK X.P X.tt) (hti:R8 X.P t i) (hd:i.d= .slice e esz bytes) (hte:R8 X.P e ie) (hiz:ie.n=esz) (hA:b8T X a w t tI e esz bytes g n cap ix m mc sa ls cur) (hroom:n+m≤cap) (hov0:c4t X.P t ov)
 (hQ:∀a' W v',b8H w W g esz n m e (cur.take (ix*esz)++ls++(cur.take (n*esz)).drop (ix*esz)) v'→a'.defers=a.defers→a'.tmps[6]?=some v'→Q .ret a' W):
 (Code.seq (.region r13 #[{ dst:=some 56,op:= .move (.tmp 0),type:=T33,pos:=p33,after:=f33,guard:=none},
 { dst:=some 57,op:= .move (.tmp 8),type:=T34,pos:=p34,after:=f34,guard:=none},
 { dst:=some 58,op:= .move (.tmp 7),type:=T35,pos:=p35,after:=f35,guard:=none},
 { dst:=some 59,op:= .binOp .add tI (.tmp 57) (.tmp 58) tI,type:=T36,pos:=p36,after:=f36,guard:=none},
 { dst:=some 60,op:= .slice t (.tmp 56) none (some (.tmp 59)) none,type:=T37,pos:=p37,after:=f37,guard:=none},
 { dst:=some 0,op:= .assign (.tmp 60),type:=T38,pos:=p38,after:=f38,guard:=none}] false) (.seq (.seq (.region r14 #[{ dst:=some 61,op:= .move (.tmp 2),type:=T39,pos:=p39,after:=f39,guard:=none},
 { dst:=some 62,op:= .move (.tmp 0),type:=T40,pos:=p40,after:=f40,guard:=none},
 { dst:=some 63,op:= .move (.tmp 1),type:=T41,pos:=p41,after:=f41,guard:=none},
 { dst:=some 64,op:= .move (.tmp 7),type:=T42,pos:=p42,after:=f42,guard:=none},
 { dst:=some 65,op:= .binOp .add tI (.tmp 63) (.tmp 64) tI,type:=T43,pos:=p43,after:=f43,guard:=none},
 { dst:=some 66,op:= .slice t (.tmp 62) (some (.tmp 65)) none none,type:=T44,pos:=p44,after:=f44,guard:=none},
 { dst:=some 67,op:= .call { callee:= .value (.func ov),args:= #[.tmp 61, .tmp 66],argTypes:= #[t,t]},type:=T45,pos:=p45,after:=f45,guard:=none},
 { dst:=some 68,op:= .unOp .not tB (.tmp 67),type:=T46,pos:=p46,after:=f46,guard:=none}] false) (.cond (.tmp 68) (.seq (.region r15 #[{ dst:=some 69,op:= .move (.tmp 0),type:=T47,pos:=p47,after:= #[],guard:=none},
 { dst:=some 70,op:= .move (.tmp 1),type:=T48,pos:=p48,after:= #[],guard:=none},
 { dst:=some 71,op:= .move (.tmp 7),type:=T49,pos:=p49,after:= #[],guard:=none},
 { dst:=some 72,op:= .binOp .add tI (.tmp 70) (.tmp 71) tI,type:=T50,pos:=p50,after:= #[{ on:=1,ground:= .data}, { on:=2,ground:= .data}],guard:=none},
 { dst:=some 73,op:= .slice t (.tmp 69) (some (.tmp 72)) none none,type:=T51,pos:=p51,after:= #[{ on:=0,ground:= .data}, { on:=3,ground:= .data}],guard:=none},
 { dst:=some 74,op:= .move (.tmp 0),type:=T52,pos:=p52,after:= #[],guard:=none},
 { dst:=some 75,op:= .move (.tmp 1),type:=T53,pos:=p53,after:= #[],guard:=none},
 { dst:=some 76,op:= .slice t (.tmp 74) (some (.tmp 75)) none none,type:=T54,pos:=p54,after:= #[{ on:=5,ground:= .data}, { on:=6,ground:= .data}],guard:=none},
 { dst:=some 77,op:= .call { callee:= .builtin .copy,args:= #[.tmp 73, .tmp 76],argTypes:= #[t,t]},type:=T55,pos:=p55,after:= #[{ on:=4,ground:= .data}, { on:=7,ground:= .data}],guard:=none}] true) (.seq (.region r16 #[{ dst:=some 78,op:= .move (.tmp 0),type:=T56,pos:=p56,after:=f56,guard:=none},
 { dst:=some 79,op:= .move (.tmp 1),type:=T57,pos:=p57,after:=f57,guard:=none},
 { dst:=some 80,op:= .slice t (.tmp 78) (some (.tmp 79)) none none,type:=T58,pos:=p58,after:=f58,guard:=none},
 { dst:=some 81,op:= .move (.tmp 2),type:=T59,pos:=p59,after:=f59,guard:=none},
 { dst:=some 82,op:= .call { callee:= .builtin .copy,args:= #[.tmp 80, .tmp 81],argTypes:= #[t,t]},type:=T60,pos:=p60,after:=f60,guard:=none}] false) (.seq (.region r17 #[{ dst:=some 83,op:= .move (.tmp 0),type:=T61,pos:=p61,after:=f61,guard:=none},
 { dst:=some 6,op:= .assign (.tmp 83),type:=T62,pos:=p62,after:=f62,guard:=none}] false) (.ret)))) .skip)) rest):Code).wp X.P Q a w:=by
 have hs:=hA.sz
 have h1:=hA.hi
 have h2:=hA.hm
 have h3:=hA.hn
 have h4:=hA.hcm
 have h5:=hA.hnm
 simp only [maxLen]at h4 h5
 obtain⟨_,_,_,hzz,_⟩:=hti.slice hd
 have hu:=(hti.slice hd).1
 have hze:∀w:World,(sizeOf e).run X.P w= .ok esz w:=by
  obtain⟨_,inf,q1,q2,_⟩:=hti.slice hd
  intro w
  simp [sizeOf,typeInfo,q1,q2]
 have m1:(ix+m)*esz=ix*esz+m*esz:=Nat.add_mul _ _ _
 have m2:(n+m)*esz=n*esz+m*esz:=Nat.add_mul _ _ _
 have m3:n*esz=ix*esz+(n-ix)*esz:=by rw [←Nat.add_mul];congr 1;omega
 have m4:n*esz≤cur.length:=by rw [hA.hcs];exact Nat.mul_le_mul_right _ h3
 have hll:=hA.hll
 have hcs:=hA.hcs
 obtain⟨cs,hcsE⟩:∃cs,cs=(cur.take (n*esz)).drop (ix*esz):=⟨_,rfl⟩
 have hcsl:cs.length=(n-ix)*esz:=by rw [hcsE];simp;omega
 have hcs1:∀v,v∈cs→v.oneCell'=true:=fun v hv=>hA.hc1 v (by rw [hcsE]at hv;exact List.mem_of_mem_drop hv)
 have hcg:∀j v,cs[j]?=some v→cur[ix*esz+j]?=some v:=by
  intro j v hj
  rw [hcsE,List.getElem?_drop,List.getElem?_take]at hj
  split at hj
  · exact hj
  · cases hj
 have m5:(n+m)*esz≤cur.length:=by rw [hA.hcs];exact Nat.mul_le_mul_right _ hroom
 have hzp:=hA.hz
 have hne:=hA.hne
 have hov:∀lb cb,(callFunc ov #[.slice (some sa) m mc, .slice (some ⟨g,(ix+m)*esz,none⟩) lb cb]).run X.P w= .ok (.value (.bool false)) w:=by
  intro lb cb
  obtain⟨fn,tR,q1,q2,q3,q4,q5⟩:=hov0.ex
  obtain⟨cA,tA,fA,q6,q7⟩:=hA.hsl
  rw [run_callFunc_extern q1 q2 q3 q4 q5,b0O w t tR e hu esz hze sa ⟨g,(ix+m)*esz,none⟩ m mc lb cb hne q6 hA.hg q7 (by
   have:0<n*esz:=Nat.mul_pos (by omega) hzp
   simp only [List.size_toArray]
   omega)]
  rfl
 obtain⟨Wd,hWd⟩:∃Wd:World,Wd= { w with drawn:=w.drawn+1}:=⟨_,rfl⟩
 have hWg:Wd.heap=w.heap:=by rw [hWd]
 obtain⟨C1,hC1⟩:∃C1,C1=cur.take ((ix+m)*esz)++cs++cur.drop ((ix+m)*esz+cs.length):=⟨_,rfl⟩
 obtain⟨W1,hW1⟩:∃W1,W1=Wd.setRow g C1.toArray:=⟨_,rfl⟩
 have hcp1:∀ty,(Builtin.copy_ #[t,t] ty #[.slice (some ⟨g,(ix+m)*esz,none⟩) (n+m-(ix+m)) (cap-(ix+m)), .slice (some ⟨g,ix*esz,none⟩) (n+m-ix) (cap-ix)]).run X.P Wd= .ok (goInt (Nat.min (n+m-ix) (n+m-(ix+m)))) W1:=by
  intro ty
  rw [hW1,hC1]
  refine b1Z Wd t t ty g _ _ _ _ _ _ cur e cs hu hze (by rw [hWg];exact hA.hg) ?_ (fun j v hj=> ?_) (by omega) hcs1
  · rw [hcsl]
    congr 1
    simp only [Nat.min_def]
    split<;>omega
  · rw [V5]
    have:=hcg j v hj
    simp [World.cell?,hWg,hA.hg,this]
 have hg0:W1.heap[g]?=some (.cells C1.toArray e (0,0)):=by rw [hW1];exact setRow_heap _ _ _ _ _ _ (by rw [hWg];exact hA.hg)
 have hC1l:C1.length=cur.length:=by rw [hC1];simp;omega
 obtain⟨C2,hC2⟩:∃C2,C2=C1.take (ix*esz)++ls++C1.drop (ix*esz+ls.length):=⟨_,rfl⟩
 obtain⟨W2,hW2⟩:∃W2,W2=W1.setRow g C2.toArray:=⟨_,rfl⟩
 have hsaW:W1.heap[sa.block]?=w.heap[sa.block]?:=by rw [hW1,setRow_other _ _ _ _ hne,hWg]
 have hcp2:∀ty,(Builtin.copy_ #[t,t] ty #[.slice (some ⟨g,ix*esz,none⟩) (n+m-ix) (cap-ix), .slice (some sa) m mc]).run X.P W1= .ok (goInt (Nat.min m (n+m-ix))) W2:=by
  intro ty
  rw [hW2,hC2]
  refine b1Z W1 t t ty g _ _ _ _ _ _ C1 e ls hu hze hg0 ?_ (fun j v hj=>hA.hsv W1 hsaW j v hj) (by omega) hA.hl1
  rw [hll]
  congr 1
  simp only [Nat.min_def]
  split<;>omega
 have hg2:W2.heap[g]?=some (.cells C2.toArray e (0,0)):=by rw [hW2];exact setRow_heap _ _ _ _ _ _ hg0
 have hC2l:C2.length=cur.length:=by rw [hC2];simp;omega
 have hfin:C2.take ((n+m)*esz)=cur.take (ix*esz)++ls++(cur.take (n*esz)).drop (ix*esz):=by
  rw [hC2,m2,hll]
  refine c1t cur ls C1 _ _ _ (by omega) hll (by omega) ?_
  rw [hC1,m1,hcsE,←hcsE,hcsl]
  congr 2
  omega
 refine wp_seq (wp_region_list ?_)
 show wpList _ _ _ _ (puts a []) _
 refine G4 (v:= .slice (some ⟨g,0,none⟩) (n) (cap)) (w':=w) rfl rfl (a0L hs (by rfl) (x:=0) rfl (by exact hA.t0)) ?_
 refine G4 (v:= .int .i64 ((n:Nat):Int)) (w':=w) rfl rfl (a0L hs (by rfl) (x:=8) rfl (by exact hA.t8)) ?_
 refine G4 (v:= .int .i64 ((m:Nat):Int)) (w':=w) rfl rfl (a0L hs (by rfl) (x:=7) rfl (by exact hA.t7)) ?_
 refine G4 (v:= .int .i64 ((n+m:Nat):Int)) (w':=w) rfl rfl (b4Q (x:=57) (y:=58) hs (by rfl) rfl (by exact rfl) (by exact rfl) (by omega)) ?_
 refine G4 (v:= .slice (some ⟨g,0,none⟩) (n+m) (cap)) (w':=w) rfl rfl (c6p (x:=56) (y:=59) hti hd hs (by rfl) rfl (by exact rfl) (by exact rfl) (by omega)) ?_
 refine G4 (v:= .slice (some ⟨g,0,none⟩) (n+m) (cap)) (w':=w) rfl rfl (c4A hs (by rfl) (x:=60) rfl (by exact rfl)) ?_
 show Code.wp _ _ _ _ _
 refine wp_seq (wp_seq (wp_region_list ?_))
 refine G4 (v:= .slice (some sa) m mc) (w':=w) rfl rfl (a0L hs (by rfl) (x:=2) rfl (by exact hA.t2)) ?_
 refine G4 (v:= .slice (some ⟨g,0,none⟩) (n+m) (cap)) (w':=w) rfl rfl (a0L hs (by rfl) (x:=0) rfl (by exact rfl)) ?_
 refine G4 (v:= .int .i64 ((ix:Nat):Int)) (w':=w) rfl rfl (a0L hs (by rfl) (x:=1) rfl (by exact hA.t1)) ?_
 refine G4 (v:= .int .i64 ((m:Nat):Int)) (w':=w) rfl rfl (a0L hs (by rfl) (x:=7) rfl (by exact hA.t7)) ?_
 refine G4 (v:= .int .i64 ((ix+m:Nat):Int)) (w':=w) rfl rfl (b4Q (x:=63) (y:=64) hs (by rfl) rfl (by exact rfl) (by exact rfl) (by omega)) ?_
 refine G4 (v:= .slice (some ⟨g,(ix+m)*esz,none⟩) (n+m-(ix+m)) (cap-(ix+m))) (w':=w) rfl rfl (b9F (x:=62) (y:=65) hti hd hs (by rfl) rfl (by exact rfl) (by exact rfl) (by omega) (by omega)) ?_
 refine G4 (v:= .bool false) (w':=w) rfl rfl (c7K rfl hs (by rfl) (by exact rfl) (by exact rfl) (hov _ _)) ?_
 refine G4 (v:= .bool true) (w':=w) rfl rfl (c6M (x:=67) (c:=false) hs (by rfl) rfl (by exact rfl)) ?_
 show Code.wp _ _ _ _ _
 refine wp_cond_true (I4 hs (by rfl) (by exact rfl)) ?_
 refine wp_seq (c5A (W1:=W1) hP hti hd (by rw [a4q];exact hs) (by rw [V2 _ _ (by rw [hs];rfl)];rfl) (by rw [V2 _ _ (by rw [hs];rfl)];rfl) (by rw [V2 _ _ (by rw [hs];rfl)];exact hA.t1) (by rw [V2 _ _ (by rw [hs];rfl)];exact hA.t7) (by omega) (by omega) (by omega) (by omega) (by omega) (by rw [←hWd];exact hcp1) ?_)
 show Code.wp _ _ _ _ _
 rw [b3U]
 refine wp_seq (wp_region_list ?_)
 show wpList _ _ _ _ (puts a (_::_::_::_::_::_::_::_::_::_)) _
 refine G4 (v:= .slice (some ⟨g,0,none⟩) (n+m) (cap)) (w':=W1) rfl rfl (a0L hs (by rfl) (x:=0) rfl (by exact rfl)) ?_
 refine G4 (v:= .int .i64 ((ix:Nat):Int)) (w':=W1) rfl rfl (a0L hs (by rfl) (x:=1) rfl (by exact hA.t1)) ?_
 refine G4 (v:= .slice (some ⟨g,ix*esz,none⟩) (n+m-ix) (cap-ix)) (w':=W1) rfl rfl (b9F (x:=78) (y:=79) hti hd hs (by rfl) rfl (by exact rfl) (by exact rfl) (by omega) (by omega)) ?_
 refine G4 (v:= .slice (some sa) m mc) (w':=W1) rfl rfl (a0L hs (by rfl) (x:=2) rfl (by exact hA.t2)) ?_
 refine G4 (v:=goInt (Nat.min m (n+m-ix))) (w':=W2) rfl rfl (b4r (b:= .copy) (xs:= [80,81]) (vals:= [.slice (some ⟨g,ix*esz,none⟩) (n+m-ix) (cap-ix), .slice (some sa) m mc]) (by exact rfl) hs (by rfl) (by simp only [List.map_cons,List.map_nil];congr 1) (fun cs=>by simp only [builtin,Sem.run_bind,hcp2,Result.andThen_ok,Sem.run_pure])) ?_
 show Code.wp _ _ _ _ _
 refine wp_seq (wp_region_list ?_)
 refine G4 (v:= .slice (some ⟨g,0,none⟩) (n+m) (cap)) (w':=W2) rfl rfl (a0L hs (by rfl) (x:=0) rfl (by exact rfl)) ?_
 refine G4 (v:= .slice (some ⟨g,0,none⟩) (n+m) (cap)) (w':=W2) rfl rfl (c4A hs (by rfl) (x:=83) rfl (by exact rfl)) ?_
 show Code.wp _ _ _ _ _
 refine wp_ret (hQ _ _ _ ?_ (by rw [a5T]) (by rw [V2 _ _ (by rw [hs];rfl)];rfl))
 refine⟨⟨g,cap,C2.toArray,rfl,hg2,hroom,hA.hcm,by simp [hC2l,hcs],by simpa using hfin, .inl rfl⟩, ?_⟩
 refine⟨by rw [hW2,hW1,hWd];rfl,by rw [hW2,hW1,hWd];rfl,by rw [hW2,hW1,hWd];rfl,by rw [hW2,setRow_size,hW1,setRow_size,hWg];exact Nat.le_refl _,fun k hk hn=> ?_⟩
 have hkg:k≠g:=fun q=>hn g (by simp) q.symm
 rw [hW2,setRow_other _ _ _ _ hkg,hW1,setRow_other _ _ _ _ hkg,hWg]
theorem c7m {T7 T8 T9 T10 T11 T12 T13 T14 T15 T16 T17 T18 T19 T20 T21 T22 T23 T24 T25 T26 T27 T28 T29 T30 T31 T32:TypeId} {p7 p8 p9 p10 p11 p12 p13 p14 p15 p16 p17 p18 p19 p20 p21 p22 p23 p24 p25 p26 p27 p28 p29 p30 p31 p32:String} {f7 f8 f9 f10 f11 f12 f13 f14 f15 f16 f17 f18 f19 f20 f21 f31 f32:Array Edge} {r9 r10 r11 r12:Nat} (hP:POK X.P X.tt) (hti:R8 X.P t i) (hd:i.d= .slice e esz bytes) (hte:R8 X.P e ie) (hiz:ie.n=esz) (hA:b8T X a w t tI e esz bytes g n cap ix m mc sa ls cur) (hroom:cap<n+m)
 (hQ:∀a' W v',b8H w W g esz n m e (cur.take (ix*esz)++ls++(cur.take (n*esz)).drop (ix*esz)) v'→a'.defers=a.defers→a'.tmps[6]?=some v'→Q .ret a' W):
 (Code.seq (.region r9 #[{ dst:=some 32,op:= .move (.tmp 0),type:=T7,pos:=p7,after:=f7,guard:=none},
 { dst:=some 33,op:= .move (.tmp 1),type:=T8,pos:=p8,after:=f8,guard:=none},
 { dst:=some 34,op:= .slice t (.tmp 32) none (some (.tmp 33)) none,type:=T9,pos:=p9,after:=f9,guard:=none},
 { dst:=some 35,op:= .move (.tmp 8),type:=T10,pos:=p10,after:=f10,guard:=none},
 { dst:=some 36,op:= .move (.tmp 7),type:=T11,pos:=p11,after:=f11,guard:=none},
 { dst:=some 37,op:= .binOp .add tI (.tmp 35) (.tmp 36) tI,type:=T12,pos:=p12,after:=f12,guard:=none},
 { dst:=some 38,op:= .move (.tmp 1),type:=T13,pos:=p13,after:=f13,guard:=none},
 { dst:=some 39,op:= .binOp .sub tI (.tmp 37) (.tmp 38) tI,type:=T14,pos:=p14,after:=f14,guard:=none},
 { dst:=some 40,op:= .call { callee:= .builtin .append,args:= #[.tmp 34, .tmp 39],argTypes:= #[t,tI]},type:=T15,pos:=p15,after:=f15,guard:=none},
 { dst:=some 9,op:= .assign (.tmp 40),type:=T16,pos:=p16,after:=f16,guard:=none}] false) (.seq (.region r10 #[{ dst:=some 41,op:= .move (.tmp 9),type:=T17,pos:=p17,after:=f17,guard:=none},
 { dst:=some 42,op:= .move (.tmp 1),type:=T18,pos:=p18,after:=f18,guard:=none},
 { dst:=some 43,op:= .slice t (.tmp 41) (some (.tmp 42)) none none,type:=T19,pos:=p19,after:=f19,guard:=none},
 { dst:=some 44,op:= .move (.tmp 2),type:=T20,pos:=p20,after:=f20,guard:=none},
 { dst:=some 45,op:= .call { callee:= .builtin .copy,args:= #[.tmp 43, .tmp 44],argTypes:= #[t,t]},type:=T21,pos:=p21,after:=f21,guard:=none}] false) (.seq (.region r11 #[{ dst:=some 46,op:= .move (.tmp 9),type:=T22,pos:=p22,after:= #[],guard:=none},
 { dst:=some 47,op:= .move (.tmp 1),type:=T23,pos:=p23,after:= #[],guard:=none},
 { dst:=some 48,op:= .move (.tmp 7),type:=T24,pos:=p24,after:= #[],guard:=none},
 { dst:=some 49,op:= .binOp .add tI (.tmp 47) (.tmp 48) tI,type:=T25,pos:=p25,after:= #[{ on:=1,ground:= .data}, { on:=2,ground:= .data}],guard:=none},
 { dst:=some 50,op:= .slice t (.tmp 46) (some (.tmp 49)) none none,type:=T26,pos:=p26,after:= #[{ on:=0,ground:= .data}, { on:=3,ground:= .data}],guard:=none},
 { dst:=some 51,op:= .move (.tmp 0),type:=T27,pos:=p27,after:= #[],guard:=none},
 { dst:=some 52,op:= .move (.tmp 1),type:=T28,pos:=p28,after:= #[],guard:=none},
 { dst:=some 53,op:= .slice t (.tmp 51) (some (.tmp 52)) none none,type:=T29,pos:=p29,after:= #[{ on:=5,ground:= .data}, { on:=6,ground:= .data}],guard:=none},
 { dst:=some 54,op:= .call { callee:= .builtin .copy,args:= #[.tmp 50, .tmp 53],argTypes:= #[t,t]},type:=T30,pos:=p30,after:= #[{ on:=4,ground:= .data}, { on:=7,ground:= .data}],guard:=none}] true) (.seq (.region r12 #[{ dst:=some 55,op:= .move (.tmp 9),type:=T31,pos:=p31,after:=f31,guard:=none},
 { dst:=some 6,op:= .assign (.tmp 55),type:=T32,pos:=p32,after:=f32,guard:=none}] false) (.ret)))):Code).wp X.P Q a w:=by
 have hs:=hA.sz
 have h1:=hA.hi
 have h2:=hA.hm
 have h3:=hA.hn
 have h4:=hA.hcm
 have h5:=hA.hnm
 simp only [maxLen]at h4 h5
 obtain⟨_,_,_,hzz,_⟩:=hti.slice hd
 have hu:=(hti.slice hd).1
 have hze:∀w:World,(sizeOf e).run X.P w= .ok esz w:=by
  obtain⟨_,inf,q1,q2,_⟩:=hti.slice hd
  intro w
  simp [sizeOf,typeInfo,q1,q2]
 have m1:(ix+m)*esz=ix*esz+m*esz:=Nat.add_mul _ _ _
 have m2:(n+m)*esz=n*esz+m*esz:=Nat.add_mul _ _ _
 have m3:n*esz=ix*esz+(n-ix)*esz:=by rw [←Nat.add_mul];congr 1;omega
 have m4:n*esz≤cur.length:=by rw [hA.hcs];exact Nat.mul_le_mul_right _ h3
 have hll:=hA.hll
 have hcs:=hA.hcs
 obtain⟨cs,hcsE⟩:∃cs,cs=(cur.take (n*esz)).drop (ix*esz):=⟨_,rfl⟩
 have hcsl:cs.length=(n-ix)*esz:=by rw [hcsE];simp;omega
 have hcs1:∀v,v∈cs→v.oneCell'=true:=fun v hv=>hA.hc1 v (by rw [hcsE]at hv;exact List.mem_of_mem_drop hv)
 have hcg:∀j v,cs[j]?=some v→cur[ix*esz+j]?=some v:=by
  intro j v hj
  rw [hcsE,List.getElem?_drop,List.getElem?_take]at hj
  split at hj
  · exact hj
  · cases hj
 have hgs:g<w.heap.size:=(Array.getElem?_eq_some_iff.1 hA.hg).1
 obtain⟨cA,tA,fA,hsa0,_⟩:=hA.hsl
 have hss:sa.block<w.heap.size:=(Array.getElem?_eq_some_iff.1 hsa0).1
 have e1:ix+(n+m-ix)=n+m:=by omega
 obtain⟨C0,c',happ0,hC0l,hcc,hcx,hC0t⟩:=c1B (k:=n+m-ix) hti hd hte hiz hA.hz hA.hint hA.hg (by simpa using hcs) (show ix≤cap by omega) (by omega) (by omega) (by rw [e1];exact hA.hb) (by rw [e1];exact hA.hnm)
 rw [e1]at happ0 hcc
 obtain⟨B,hB⟩:∃B,B=w.heap.size:=⟨_,rfl⟩
 obtain⟨C1,hC1⟩:∃C1,C1=C0.toList:=⟨_,rfl⟩
 have hC10:C0=C1.toArray:=by rw [hC1]
 obtain⟨W1,hW1⟩:∃W1,W1=w.drew.alloc (.cells C1.toArray e):=⟨_,rfl⟩
 have happ:∀ty,(Builtin.append_ #[t,tI] ty #[.slice (some ⟨g,0,none⟩) ix cap, .int .i64 ((n+m-ix:Nat):Int)]).run X.P w= .ok (.slice (some ⟨B,0,none⟩) (n+m) (c')) W1:=by
  intro ty
  rw [happ0,hW1,hC10,hB]
 have hC1l:C1.length=c'*esz:=by rw [hC1];simpa using hC0l
 have m6:(n+m)*esz≤c'*esz:=Nat.mul_le_mul_right _ hcc
 rw [List.toList_toArray,←hC1]at hC0t
 have hg1:W1.heap[B]?=some (.cells C1.toArray e (0,0)):=by rw [hW1,hB];exact heap_alloc_new w.drew _
 have hold:∀k,k<w.heap.size→W1.heap[k]?=w.heap[k]?:=by
  intro k hk
  rw [hW1]
  exact heap_alloc_old w.drew _ hk
 obtain⟨C2,hC2⟩:∃C2,C2=C1.take (ix*esz)++ls++C1.drop (ix*esz+ls.length):=⟨_,rfl⟩
 have hC2l:C2.length=C1.length:=by rw [hC2];simp;omega
 obtain⟨W2,hW2⟩:∃W2,W2=W1.setRow B C2.toArray:=⟨_,rfl⟩
 have hcp1:∀ty,(Builtin.copy_ #[t,t] ty #[.slice (some ⟨B,ix*esz,none⟩) (n+m-ix) (c'-ix), .slice (some sa) m mc]).run X.P W1= .ok (goInt (Nat.min m (n+m-ix))) W2:=by
  intro ty
  rw [hW2,hC2]
  refine b1Z W1 t t ty B _ _ _ _ _ _ C1 e ls hu hze hg1 ?_ (fun j v hj=>hA.hsv W1 (hold _ hss) j v hj) (by omega) hA.hl1
  rw [hll]
  congr 1
  simp only [Nat.min_def]
  split<;>omega
 have hg2:W2.heap[B]?=some (.cells C2.toArray e (0,0)):=by rw [hW2];exact setRow_heap _ _ _ _ _ _ hg1
 have hold2:∀k,k<w.heap.size→W2.heap[k]?=w.heap[k]?:=by
  intro k hk
  rw [hW2,setRow_other _ _ _ _ (by omega)]
  exact hold k hk
 obtain⟨Wd,hWd⟩:∃Wd:World,Wd= { W2 with drawn:=W2.drawn+1}:=⟨_,rfl⟩
 have hWg:Wd.heap=W2.heap:=by rw [hWd]
 obtain⟨C3,hC3⟩:∃C3,C3=C2.take ((ix+m)*esz)++cs++C2.drop ((ix+m)*esz+cs.length):=⟨_,rfl⟩
 have hC3l:C3.length=C1.length:=by rw [hC3];simp;omega
 obtain⟨W3,hW3⟩:∃W3,W3=Wd.setRow B C3.toArray:=⟨_,rfl⟩
 have hcp2:∀ty,(Builtin.copy_ #[t,t] ty #[.slice (some ⟨B,(ix+m)*esz,none⟩) (n+m-(ix+m)) (c'-(ix+m)), .slice (some ⟨g,ix*esz,none⟩) (n-ix) (cap-ix)]).run X.P Wd= .ok (goInt (Nat.min (n-ix) (n+m-(ix+m)))) W3:=by
  intro ty
  rw [hW3,hC3]
  refine b1Z Wd t t ty B _ _ _ _ _ _ C2 e cs hu hze (by rw [hWg];exact hg2) ?_ (fun j v hj=> ?_) (by omega) hcs1
  · rw [hcsl]
    congr 1
    simp only [Nat.min_def]
    split<;>omega
  · rw [V5]
    have:=hcg j v hj
    simp [World.cell?,hWg,hold2 g hgs,hA.hg,this]
 have hg3:W3.heap[B]?=some (.cells C3.toArray e (0,0)):=by rw [hW3];exact setRow_heap _ _ _ _ _ _ (by rw [hWg];exact hg2)
 have hfin:C3.take ((n+m)*esz)=cur.take (ix*esz)++ls++(cur.take (n*esz)).drop (ix*esz):=by
  have:=c3A cur ls C1 C2 (ix*esz) (m*esz) (n*esz) (by omega) hll (by omega) hC0t (by omega) (by rw [hC2,hll])
  rw [hC3,m2,m1,←this,hcsE,←hcsE,hcsl]
  congr 3
  omega
 refine wp_seq (wp_region_list ?_)
 show wpList _ _ _ _ (puts a []) _
 refine G4 (v:= .slice (some ⟨g,0,none⟩) (n) (cap)) (w':=w) rfl rfl (a0L hs (by rfl) (x:=0) rfl (by exact hA.t0)) ?_
 refine G4 (v:= .int .i64 ((ix:Nat):Int)) (w':=w) rfl rfl (a0L hs (by rfl) (x:=1) rfl (by exact hA.t1)) ?_
 refine G4 (v:= .slice (some ⟨g,0,none⟩) (ix) (cap)) (w':=w) rfl rfl (c6p (x:=32) (y:=33) hti hd hs (by rfl) rfl (by exact rfl) (by exact rfl) (by omega)) ?_
 refine G4 (v:= .int .i64 ((n:Nat):Int)) (w':=w) rfl rfl (a0L hs (by rfl) (x:=8) rfl (by exact hA.t8)) ?_
 refine G4 (v:= .int .i64 ((m:Nat):Int)) (w':=w) rfl rfl (a0L hs (by rfl) (x:=7) rfl (by exact hA.t7)) ?_
 refine G4 (v:= .int .i64 ((n+m:Nat):Int)) (w':=w) rfl rfl (b4Q (x:=35) (y:=36) hs (by rfl) rfl (by exact rfl) (by exact rfl) (by omega)) ?_
 refine G4 (v:= .int .i64 ((ix:Nat):Int)) (w':=w) rfl rfl (a0L hs (by rfl) (x:=1) rfl (by exact hA.t1)) ?_
 refine G4 (v:= .int .i64 ((n+m-ix:Nat):Int)) (w':=w) rfl rfl (c6J (x:=37) (y:=38) hs (by rfl) rfl (by exact rfl) (by exact rfl) (by omega) (by omega)) ?_
 refine G4 (v:= .slice (some ⟨B,0,none⟩) (n+m) (c')) (w':=W1) rfl rfl (b4r (b:= .append) (xs:= [34,39]) (vals:= [.slice (some ⟨g,0,none⟩) (ix) (cap), .int .i64 ((n+m-ix:Nat):Int)]) (by exact rfl) hs (by rfl) (by simp only [List.map_cons,List.map_nil];congr 1) (fun cs=>by simp only [builtin,Sem.run_bind,happ,Result.andThen_ok,Sem.run_pure])) ?_
 refine G4 (v:= .slice (some ⟨B,0,none⟩) (n+m) (c')) (w':=W1) rfl rfl (c4A hs (by rfl) (x:=40) rfl (by exact rfl)) ?_
 show Code.wp _ _ _ _ _
 refine wp_seq (wp_region_list ?_)
 refine G4 (v:= .slice (some ⟨B,0,none⟩) (n+m) (c')) (w':=W1) rfl rfl (a0L hs (by rfl) (x:=9) rfl (by exact rfl)) ?_
 refine G4 (v:= .int .i64 ((ix:Nat):Int)) (w':=W1) rfl rfl (a0L hs (by rfl) (x:=1) rfl (by exact hA.t1)) ?_
 refine G4 (v:= .slice (some ⟨B,ix*esz,none⟩) (n+m-ix) (c'-ix)) (w':=W1) rfl rfl (b9F (x:=41) (y:=42) hti hd hs (by rfl) rfl (by exact rfl) (by exact rfl) (by omega) (by omega)) ?_
 refine G4 (v:= .slice (some sa) m mc) (w':=W1) rfl rfl (a0L hs (by rfl) (x:=2) rfl (by exact hA.t2)) ?_
 refine G4 (v:=goInt (Nat.min m (n+m-ix))) (w':=W2) rfl rfl (b4r (b:= .copy) (xs:= [43,44]) (vals:= [.slice (some ⟨B,ix*esz,none⟩) (n+m-ix) (c'-ix), .slice (some sa) m mc]) (by exact rfl) hs (by rfl) (by simp only [List.map_cons,List.map_nil];congr 1) (fun cs=>by simp only [builtin,Sem.run_bind,hcp1,Result.andThen_ok,Sem.run_pure])) ?_
 show Code.wp _ _ _ _ _
 refine wp_seq (c5V (W1:=W3) hP hti hd (by rw [a4q];exact hs) (by rw [V2 _ _ (by rw [hs];rfl)];rfl) (by rw [V2 _ _ (by rw [hs];rfl)];exact hA.t0) (by rw [V2 _ _ (by rw [hs];rfl)];exact hA.t1) (by rw [V2 _ _ (by rw [hs];rfl)];exact hA.t7) (by omega) (by omega) (by omega) (by omega) (by omega) (by rw [←hWd];exact hcp2) ?_)
 show Code.wp _ _ _ _ _
 rw [b3U]
 refine wp_seq (wp_region_list ?_)
 show wpList _ _ _ _ (puts a (_::_::_::_::_::_::_::_::_::_)) _
 refine G4 (v:= .slice (some ⟨B,0,none⟩) (n+m) (c')) (w':=W3) rfl rfl (a0L hs (by rfl) (x:=9) rfl (by exact rfl)) ?_
 refine G4 (v:= .slice (some ⟨B,0,none⟩) (n+m) (c')) (w':=W3) rfl rfl (c4A hs (by rfl) (x:=55) rfl (by exact rfl)) ?_
 show Code.wp _ _ _ _ _
 refine wp_ret (hQ _ _ _ ?_ (by rw [a5T]) (by rw [V2 _ _ (by rw [hs];rfl)];rfl))
 refine⟨⟨B,c',C3.toArray,rfl,hg3,hcc,hcx,by simp [hC3l,hC1l],by simpa using hfin, .inr (by omega)⟩, ?_⟩
 refine⟨by rw [hW3,hWd,hW2,hW1];rfl,by rw [hW3,hWd,hW2,hW1];rfl,by rw [hW3,hWd,hW2,hW1];rfl,by rw [hW3,setRow_size,hWg,hW2,setRow_size,hW1];simp,fun k hk hn=> ?_⟩
 rw [hW3,setRow_other _ _ _ _ (by omega),hWg]
 exact hold2 k hk
theorem b8T.puts {L:List (Nat×Value)} (h:b8T X a w t tI e esz bytes g n cap ix m mc sa ls cur) (hb:inB 95 L=true) (k0:lk L 0=none) (k1:lk L 1=none) (k2:lk L 2=none) (k7:lk L 7=none) (k8:lk L 8=none):b8T X (puts a L) w t tI e esz bytes g n cap ix m mc sa ls cur:=by
 have q:∀d,lk L d=none→(Sx.puts a L).tmps[d]?=a.tmps[d]?:=fun d hd=>by rw [V2 L d (by rw [h.sz];exact hb)];simp [lkA,hd]
 exact⟨by rw [a4q];exact h.sz,by rw [q _ k0];exact h.t0,by rw [q _ k1];exact h.t1,by rw [q _ k2];exact h.t2,by rw [q _ k7];exact h.t7,by rw [q _ k8];exact h.t8,h.hi,h.hm,h.hn,h.hcm,h.hnm,h.hb,h.hg,h.hcs,h.hll,h.hl1,h.hc1,h.hne,h.hsl,h.hsv,h.hint,h.hz⟩
inductive a8a (t tI tB:TypeId) (ov:FuncId):Code→Prop
 |mk {T1 T2 T3 T4 T5 T6 T7 T8 T9 T10 T11 T12 T13 T14 T15 T16 T17 T18 T19 T20 T21 T22 T23 T24 T25 T26 T27 T28 T29 T30 T31 T32 T33 T34 T35 T36 T37 T38 T39 T40 T41 T42 T43 T44 T45 T46 T47 T48 T49 T50 T51 T52 T53 T54 T55 T56 T57 T58 T59 T60 T61 T62:TypeId} {p1 p2 p3 p4 p5 p6 p7 p8 p9 p10 p11 p12 p13 p14 p15 p16 p17 p18 p19 p20 p21 p22 p23 p24 p25 p26 p27 p28 p29 p30 p31 p32 p33 p34 p35 p36 p37 p38 p39 p40 p41 p42 p43 p44 p45 p46 p47 p48 p49 p50 p51 p52 p53 p54 p55 p56 p57 p58 p59 p60 p61 p62:String} {f1 f2 f3 f4 f5 f6 f7 f8 f9 f10 f11 f12 f13 f14 f15 f16 f17 f18 f19 f20 f21 f31 f32 f33 f34 f35 f36 f37 f38 f39 f40 f41 f42 f43 f44 f45 f46 f56 f57 f58 f59 f60 f61 f62:Array Edge} {r8 r9 r10 r11 r12 r13 r14 r15 r16 r17:Nat} {rest:Code}:a8a t tI tB ov (Code.seq (.seq (.region r8 #[{ dst:=some 26,op:= .move (.tmp 8),type:=T1,pos:=p1,after:=f1,guard:=none},
  { dst:=some 27,op:= .move (.tmp 7),type:=T2,pos:=p2,after:=f2,guard:=none},
  { dst:=some 28,op:= .binOp .add tI (.tmp 26) (.tmp 27) tI,type:=T3,pos:=p3,after:=f3,guard:=none},
  { dst:=some 29,op:= .move (.tmp 0),type:=T4,pos:=p4,after:=f4,guard:=none},
  { dst:=some 30,op:= .call { callee:= .builtin .cap,args:= #[.tmp 29],argTypes:= #[t]},type:=T5,pos:=p5,after:=f5,guard:=none},
  { dst:=some 31,op:= .binOp .gtr tI (.tmp 28) (.tmp 30) tI,type:=T6,pos:=p6,after:=f6,guard:=none}] false) (.cond (.tmp 31) (.seq (.region r9 #[{ dst:=some 32,op:= .move (.tmp 0),type:=T7,pos:=p7,after:=f7,guard:=none},
  { dst:=some 33,op:= .move (.tmp 1),type:=T8,pos:=p8,after:=f8,guard:=none},
  { dst:=some 34,op:= .slice t (.tmp 32) none (some (.tmp 33)) none,type:=T9,pos:=p9,after:=f9,guard:=none},
  { dst:=some 35,op:= .move (.tmp 8),type:=T10,pos:=p10,after:=f10,guard:=none},
  { dst:=some 36,op:= .move (.tmp 7),type:=T11,pos:=p11,after:=f11,guard:=none},
  { dst:=some 37,op:= .binOp .add tI (.tmp 35) (.tmp 36) tI,type:=T12,pos:=p12,after:=f12,guard:=none},
  { dst:=some 38,op:= .move (.tmp 1),type:=T13,pos:=p13,after:=f13,guard:=none},
  { dst:=some 39,op:= .binOp .sub tI (.tmp 37) (.tmp 38) tI,type:=T14,pos:=p14,after:=f14,guard:=none},
  { dst:=some 40,op:= .call { callee:= .builtin .append,args:= #[.tmp 34, .tmp 39],argTypes:= #[t,tI]},type:=T15,pos:=p15,after:=f15,guard:=none},
  { dst:=some 9,op:= .assign (.tmp 40),type:=T16,pos:=p16,after:=f16,guard:=none}] false) (.seq (.region r10 #[{ dst:=some 41,op:= .move (.tmp 9),type:=T17,pos:=p17,after:=f17,guard:=none},
  { dst:=some 42,op:= .move (.tmp 1),type:=T18,pos:=p18,after:=f18,guard:=none},
  { dst:=some 43,op:= .slice t (.tmp 41) (some (.tmp 42)) none none,type:=T19,pos:=p19,after:=f19,guard:=none},
  { dst:=some 44,op:= .move (.tmp 2),type:=T20,pos:=p20,after:=f20,guard:=none},
  { dst:=some 45,op:= .call { callee:= .builtin .copy,args:= #[.tmp 43, .tmp 44],argTypes:= #[t,t]},type:=T21,pos:=p21,after:=f21,guard:=none}] false) (.seq (.region r11 #[{ dst:=some 46,op:= .move (.tmp 9),type:=T22,pos:=p22,after:= #[],guard:=none},
  { dst:=some 47,op:= .move (.tmp 1),type:=T23,pos:=p23,after:= #[],guard:=none},
  { dst:=some 48,op:= .move (.tmp 7),type:=T24,pos:=p24,after:= #[],guard:=none},
  { dst:=some 49,op:= .binOp .add tI (.tmp 47) (.tmp 48) tI,type:=T25,pos:=p25,after:= #[{ on:=1,ground:= .data}, { on:=2,ground:= .data}],guard:=none},
  { dst:=some 50,op:= .slice t (.tmp 46) (some (.tmp 49)) none none,type:=T26,pos:=p26,after:= #[{ on:=0,ground:= .data}, { on:=3,ground:= .data}],guard:=none},
  { dst:=some 51,op:= .move (.tmp 0),type:=T27,pos:=p27,after:= #[],guard:=none},
  { dst:=some 52,op:= .move (.tmp 1),type:=T28,pos:=p28,after:= #[],guard:=none},
  { dst:=some 53,op:= .slice t (.tmp 51) (some (.tmp 52)) none none,type:=T29,pos:=p29,after:= #[{ on:=5,ground:= .data}, { on:=6,ground:= .data}],guard:=none},
  { dst:=some 54,op:= .call { callee:= .builtin .copy,args:= #[.tmp 50, .tmp 53],argTypes:= #[t,t]},type:=T30,pos:=p30,after:= #[{ on:=4,ground:= .data}, { on:=7,ground:= .data}],guard:=none}] true) (.seq (.region r12 #[{ dst:=some 55,op:= .move (.tmp 9),type:=T31,pos:=p31,after:=f31,guard:=none},
  { dst:=some 6,op:= .assign (.tmp 55),type:=T32,pos:=p32,after:=f32,guard:=none}] false) (.ret))))) .skip)) (.seq (.region r13 #[{ dst:=some 56,op:= .move (.tmp 0),type:=T33,pos:=p33,after:=f33,guard:=none},
  { dst:=some 57,op:= .move (.tmp 8),type:=T34,pos:=p34,after:=f34,guard:=none},
  { dst:=some 58,op:= .move (.tmp 7),type:=T35,pos:=p35,after:=f35,guard:=none},
  { dst:=some 59,op:= .binOp .add tI (.tmp 57) (.tmp 58) tI,type:=T36,pos:=p36,after:=f36,guard:=none},
  { dst:=some 60,op:= .slice t (.tmp 56) none (some (.tmp 59)) none,type:=T37,pos:=p37,after:=f37,guard:=none},
  { dst:=some 0,op:= .assign (.tmp 60),type:=T38,pos:=p38,after:=f38,guard:=none}] false) (.seq (.seq (.region r14 #[{ dst:=some 61,op:= .move (.tmp 2),type:=T39,pos:=p39,after:=f39,guard:=none},
  { dst:=some 62,op:= .move (.tmp 0),type:=T40,pos:=p40,after:=f40,guard:=none},
  { dst:=some 63,op:= .move (.tmp 1),type:=T41,pos:=p41,after:=f41,guard:=none},
  { dst:=some 64,op:= .move (.tmp 7),type:=T42,pos:=p42,after:=f42,guard:=none},
  { dst:=some 65,op:= .binOp .add tI (.tmp 63) (.tmp 64) tI,type:=T43,pos:=p43,after:=f43,guard:=none},
  { dst:=some 66,op:= .slice t (.tmp 62) (some (.tmp 65)) none none,type:=T44,pos:=p44,after:=f44,guard:=none},
  { dst:=some 67,op:= .call { callee:= .value (.func ov),args:= #[.tmp 61, .tmp 66],argTypes:= #[t,t]},type:=T45,pos:=p45,after:=f45,guard:=none},
  { dst:=some 68,op:= .unOp .not tB (.tmp 67),type:=T46,pos:=p46,after:=f46,guard:=none}] false) (.cond (.tmp 68) (.seq (.region r15 #[{ dst:=some 69,op:= .move (.tmp 0),type:=T47,pos:=p47,after:= #[],guard:=none},
  { dst:=some 70,op:= .move (.tmp 1),type:=T48,pos:=p48,after:= #[],guard:=none},
  { dst:=some 71,op:= .move (.tmp 7),type:=T49,pos:=p49,after:= #[],guard:=none},
  { dst:=some 72,op:= .binOp .add tI (.tmp 70) (.tmp 71) tI,type:=T50,pos:=p50,after:= #[{ on:=1,ground:= .data}, { on:=2,ground:= .data}],guard:=none},
  { dst:=some 73,op:= .slice t (.tmp 69) (some (.tmp 72)) none none,type:=T51,pos:=p51,after:= #[{ on:=0,ground:= .data}, { on:=3,ground:= .data}],guard:=none},
  { dst:=some 74,op:= .move (.tmp 0),type:=T52,pos:=p52,after:= #[],guard:=none},
  { dst:=some 75,op:= .move (.tmp 1),type:=T53,pos:=p53,after:= #[],guard:=none},
  { dst:=some 76,op:= .slice t (.tmp 74) (some (.tmp 75)) none none,type:=T54,pos:=p54,after:= #[{ on:=5,ground:= .data}, { on:=6,ground:= .data}],guard:=none},
  { dst:=some 77,op:= .call { callee:= .builtin .copy,args:= #[.tmp 73, .tmp 76],argTypes:= #[t,t]},type:=T55,pos:=p55,after:= #[{ on:=4,ground:= .data}, { on:=7,ground:= .data}],guard:=none}] true) (.seq (.region r16 #[{ dst:=some 78,op:= .move (.tmp 0),type:=T56,pos:=p56,after:=f56,guard:=none},
  { dst:=some 79,op:= .move (.tmp 1),type:=T57,pos:=p57,after:=f57,guard:=none},
  { dst:=some 80,op:= .slice t (.tmp 78) (some (.tmp 79)) none none,type:=T58,pos:=p58,after:=f58,guard:=none},
  { dst:=some 81,op:= .move (.tmp 2),type:=T59,pos:=p59,after:=f59,guard:=none},
  { dst:=some 82,op:= .call { callee:= .builtin .copy,args:= #[.tmp 80, .tmp 81],argTypes:= #[t,t]},type:=T60,pos:=p60,after:=f60,guard:=none}] false) (.seq (.region r17 #[{ dst:=some 83,op:= .move (.tmp 0),type:=T61,pos:=p61,after:=f61,guard:=none},
  { dst:=some 6,op:= .assign (.tmp 83),type:=T62,pos:=p62,after:=f62,guard:=none}] false) (.ret)))) .skip)) rest)))
theorem c2k {ov:FuncId} (hP:POK X.P X.tt) (hti:R8 X.P t i) (hd:i.d= .slice e esz bytes) (hte:R8 X.P e ie) (hiz:ie.n=esz) (hA:b8T X a w t tI e esz bytes g n cap ix m mc sa ls cur) (hov0:c4t X.P t ov) {tB:TypeId} {c:Code} (hc:a8a t tI tB ov c)
 (hQ:∀a' W v',b8H w W g esz n m e (cur.take (ix*esz)++ls++(cur.take (n*esz)).drop (ix*esz)) v'→a'.defers=a.defers→a'.tmps[6]?=some v'→Q .ret a' W):c.wp X.P Q a w:=by
 cases hc
 have hs:=hA.sz
 have h1:=hA.hi
 have h2:=hA.hm
 have h3:=hA.hn
 have h4:=hA.hcm
 have h5:=hA.hnm
 simp only [maxLen]at h4 h5
 have hu:=(hti.slice hd).1
 have hcap:∀ty,(Builtin.cap_ #[t] ty #[.slice (some ⟨g,0,none⟩) (n) (cap)]).run X.P w= .ok (.int .i64 ((cap:Nat):Int)) w:=by
  intro ty
  simp [Builtin.cap_,H7 hu,goInt]
 refine wp_seq (wp_seq (wp_region_list ?_))
 show wpList _ _ _ _ (puts a []) _
 refine G4 (v:= .int .i64 ((n:Nat):Int)) (w':=w) rfl rfl (a0L hs (by rfl) (x:=8) rfl (by exact hA.t8)) ?_
 refine G4 (v:= .int .i64 ((m:Nat):Int)) (w':=w) rfl rfl (a0L hs (by rfl) (x:=7) rfl (by exact hA.t7)) ?_
 refine G4 (v:= .int .i64 ((n+m:Nat):Int)) (w':=w) rfl rfl (b4Q (x:=26) (y:=27) hs (by rfl) rfl (by exact rfl) (by exact rfl) (by omega)) ?_
 refine G4 (v:= .slice (some ⟨g,0,none⟩) (n) (cap)) (w':=w) rfl rfl (a0L hs (by rfl) (x:=0) rfl (by exact hA.t0)) ?_
 refine G4 (v:= .int .i64 ((cap:Nat):Int)) (w':=w) rfl rfl (b4r (b:= .cap) (xs:= [29]) (vals:= [.slice (some ⟨g,0,none⟩) (n) (cap)]) (by exact rfl) hs (by rfl) (by simp only [List.map_cons,List.map_nil];congr 1) (fun cs=>by simp only [builtin,Sem.run_bind,hcap,Result.andThen_ok,Sem.run_pure])) ?_
 refine G4 (v:= .bool (decide (cap<n+m))) (w':=w) rfl rfl (c7p (x:=28) (y:=30) hs (by rfl) rfl (by exact rfl) (by exact rfl)) ?_
 show Code.wp _ _ _ _ _
 have hev:(puts a [(31,Value.bool (decide (cap<n+m))),(30, .int .i64 ((cap:Nat):Int)),(29, .slice (some ⟨g,0,none⟩) (n) (cap)),(28, .int .i64 ((n+m:Nat):Int)),(27, .int .i64 ((m:Nat):Int)),(26, .int .i64 ((n:Nat):Int))]).eval (.tmp 31)= .bool (decide (cap<n+m)):=I4 hs (by rfl) (by exact rfl)
 by_cases hroom:cap<n+m
 · rw [decide_eq_true hroom]at hev⊢
   refine wp_cond_true hev ?_
   exact c7m hP hti hd hte hiz (hA.puts rfl rfl rfl rfl rfl rfl) hroom fun a' W v' h1 h2 h3=>hQ a' W v' h1 (by rw [h2,a5T]) h3
 · rw [decide_eq_false hroom]at hev⊢
   refine wp_cond_false hev (wp_skip ?_)
   show Code.wp _ _ _ _ _
   exact c6e hP hti hd hte hiz (hA.puts rfl rfl rfl rfl rfl rfl) (by omega) hov0 fun a' W v' h1 h2 h3=>hQ a' W v' h1 (by rw [h2,a5T]) h3
end
end Go.Sx
namespace Go.Sx
open Go Go.RowKit
theorem c1b {w:World} {b o:Nat} {v:Value} (h:w.cell? ⟨b,o,none⟩=some v):∃cA tA fA,w.heap[b]?=some (.cells cA tA fA)∧cA.size≠0:=by
 cases hb:w.heap[b]? with
 |none=>
  have h1:w.cell? ⟨b,o,none⟩=none:=by simp [World.cell?,hb]
  rw [h1]at h;cases h
 |some ob=>
  cases ob with
  |cells c t f=>
   refine⟨c,t,f,rfl,fun h0=> ?_⟩
   have h1:w.cell? ⟨b,o,none⟩=c[o]?:=by simp [World.cell?,hb]
   rw [h1,Array.getElem?_eq_none (by omega)]at h
   cases h
  |_=>
   have h1:w.cell? ⟨b,o,none⟩=none:=by simp [World.cell?,hb]
   rw [h1]at h;cases h
structure c5p (z bytes:Nat) (l':List D) (n':Nat) (ty:TypeId) (sy:Sy):Prop where
 ex:∃l1 n i m lv,s7 sy.T 0=some (.row 0 z)∧s7 sy.T 1=some (.v (.int .i64 ((i:Nat):Int)))∧s7 sy.T 2=some (.lst z m lv)∧s7 sy.T 7=some (.v (.int .i64 ((m:Nat):Int)))∧s7 sy.T 8=some (.v (.int .i64 ((n:Nat):Int)))∧
  j3 sy.H 0=some (.row z n l1 ty)∧i<n∧0<m∧(n+m)*bytes≤140737488355328∧n+m≤maxLen∧l'=l1.take (i*z)++lv++l1.drop (i*z)∧n'=n+m
theorem c2X:∀(l:List Value),(vs l).length=l.length
 | []=>rfl
 |_::l=>by simp [vs,c2X l]
inductive a8i (t:TypeId) (c2:Code):Code→Prop
 |mk {T1 T2 T3 T4:TypeId} {p1 p2 p3 p4:String} {f1 f2 f3 f4:Array Edge} {r0 r1:Nat}:a8i t c2 (Code.seq (.region r0 #[{ dst:=some 6,op:= .assign (.const (.slice none 0 0)),type:=T1,pos:=p1,after:=f1,guard:=none}] false)
  (.seq (.region r1 #[{ dst:=some 10,op:= .move (.tmp 0),type:=T2,pos:=p2,after:=f2,guard:=none}, { dst:=some 11,op:= .move (.tmp 1),type:=T3,pos:=p3,after:=f3,guard:=none},
   { dst:=some 12,op:= .slice t (.tmp 10) (some (.tmp 11)) none none,type:=T4,pos:=p4,after:=f4,guard:=none}] false) c2))
theorem c3q {X:Cy} {Q:Exit→Act→World→Prop} {t e esz bytes B e':Nat} {i:TI} {a:Act} {w:World} {v:Value} {n ix:Nat} {xs:List Value} {c c2:Code} (hti:R8 X.P t i) (hd:i.d= .slice e esz bytes) (hc:a8i t c2 c)
 (hs:a.tmps.size=95) (h0:a.tmps[0]?=some v) (h1:a.tmps[1]?=some (.int .i64 (ix:Int))) (hown:w.ownsRow B e' esz v n xs) (hix:ix≤n)
 (hK:∀a':Act,a'.tmps.size=95→a'.defers=a.defers→(∀d,d<6→a'.tmps[d]?=a.tmps[d]?)→c2.wp X.P Q a' w):c.wp X.P Q a w:=by
 cases hc
 obtain⟨u,hu⟩:∃u,(Instr.sliceAt t v (some (.int .i64 (ix:Int))) none none).run X.P w= .ok u w:=by
  rcases hown.2 with⟨rfl,rfl⟩|⟨g,cap,cur,rfl,_,hg,hnc,_⟩
  · obtain rfl:ix=0:=by omega
    have hu:=(hti.slice hd).1
    have hsz:(sizeOf e).run X.P w= .ok esz w:=by
     obtain⟨_,inf,h1,h2,_⟩:=hti.slice hd
     simp [sizeOf,typeInfo,h1,h2]
    exact⟨.slice none 0 0,by simp [Instr.sliceAt,Instr.slice,H7 hu,Instr.sliceBounds,run_sliceBound,hsz]⟩
  · obtain⟨o,h,_⟩:=c1M (X:=X) (g:=g) (cap:=cap) hti hd hix hnc w
    exact⟨_,h⟩
 refine wp_seq (wp_region_list ?_)
 show wpList _ _ _ _ (puts a []) _
 refine G4 (v:= .slice none 0 0) (w':=w) rfl rfl (by simp [execOp,Act.eval]) ?_
 show Code.wp _ _ _ _ _
 refine wp_seq (wp_region_list ?_)
 show wpList _ _ _ _ (puts a (_::_)) _
 refine G4 (v:=v) (w':=w) rfl rfl (a0L hs (by rfl) (x:=0) rfl (by exact h0)) ?_
 refine G4 (v:= .int .i64 (ix:Int)) (w':=w) rfl rfl (a0L hs (by rfl) (x:=1) rfl (by exact h1)) ?_
 refine G4 (v:=u) (w':=w) rfl rfl (by
  simp only [execOp,I4 (L:= [(11,Value.int .i64 (ix:Int)),(10,v),(6, .slice none 0 0)]) (e:=10) hs (by rfl) (by exact rfl),I4 (L:= [(11,Value.int .i64 (ix:Int)),(10,v),(6, .slice none 0 0)]) (e:=11) hs (by rfl) (by exact rfl),Option.map,Sem.run_bind,hu]
  rfl) ?_
 show Code.wp _ _ _ _ _
 refine hK _ (by rw [a4q];exact hs) (by rw [a5T]) fun d hd=> ?_
 rw [V2 _ _ (by rw [hs];rfl)]
 have:d=0∨d=1∨d=2∨d=3∨d=4∨d=5:=by omega
 rcases this with rfl|rfl|rfl|rfl|rfl|rfl<;>rfl
theorem c3N {X:Cy} (hP:POK X.P X.tt) {f:FuncId} {fn:Func} {c:Code} {z n n':Nat} {l l':List D} {ty t tI tB:TypeId} {ov:FuncId} {args:List D} {i ie:TI} {bytes ix0:Nat} {c2:Code}
 (hf:X.P.funcs[f]?=some fn) (hb:fn.body=some c) (hn:X.nt=fn.ntmps) (hhd:a8i t c2 c) (htl:a8a t tI tB ov (b6Z 4 c2)) (hal:args.length≤1) (hix0:ix0≤n) (hi:I8 X.tt t=some i) (hd:i.d= .slice ty z bytes) (hie:I8 X.tt ty=some ie) (hiz:ie.n=z) (h95:fn.ntmps=95) (hres:fn.results= #[.tmp 6])
 (hint:X.P.underlying tI=some (.int .i64)) (hov:c4t X.P t ov) (hz:0<z)
 (h:b9K X 4 c2 ⟨a2z 0 (.row 0 z:: .v (.int .i64 (ix0:Int))::args), [(0, .row z n l ty)],1⟩ (b7y X fn.results.toList z n' l' ty) (c5p z bytes l' n' ty)) (h0:X.dfs= []:=by rfl) (hg:fn.ntmps≤N8:=by exact Nat.le_of_ble_eq_true rfl):b3u X.P f z n l ty (.v (.int .i64 (ix0:Int))::args) z n' l':=by
 intro ok w v vl hrow hnok hrep hok
 have hg0:=hg
 obtain⟨xs,hown,hrl,hfl,hlen⟩:=hrow
 obtain⟨hsim,hrel⟩:=b8R (X:=X) hn (by simp only [List.length_cons];omega) hown hrl hfl hlen hnok hrep hok h0 hg
 have hA:∀b,(w.heap.size≤b∨b∈o6 v)→(fun b=>b<w.heap.size→ok b∨b∈o6 v) b:=by
  rintro b (hb|hb) hlt
  · omega
  · exact .inr hb
 have q1:∃y,vl[0]?=some y∧y= .int .i64 (ix0:Int):=by
  cases vl with
  |nil=>simp [d6]at hrep
  |cons y r=>
   simp only [d6,Rep]at hrep
   exact⟨y,rfl,hrep.1.1⟩
 obtain⟨y1,q1,rfl⟩:=q1
 have hvl:vl.length≤2:=by rw [←hrep.length];simp;omega
 generalize hst0:(⟨a4c 0 (.row 0::vs vl), [(0, .row v n xs z ty)],1,w,w.heap.size, []⟩:St)=st0 at hsim hrel
 refine calls_of_wp hf hb (c3q (hP.tt t i hi) hd hhd (by rw [hrel.size.1];show X.nt=95;omega) ?_ ?_ hown hix0 fun a1 s1 s2 s3=> ?_)
 · show((v::vl).toArray++_)[0]?=some v
   rw [Array.getElem?_append_left (by simp)]
   simp
 · cases vl with
   |nil=>simp at q1
   |cons y r=>
    simp at q1
    show((v::y::r).toArray++_)[1]?=_
    rw [Array.getElem?_append_left (by simp)]
    simp [q1]
 have hrel1:Rel (cx X w (o6 v)) st0 a1 w:=by
  refine⟨⟨by rw [s1];show 95=X.nt;omega,hrel.size.2⟩,fun d s hs=> ?_,by rw [s2];exact hrel.dfs,hrel.cls,hrel.lo,hrel.iv⟩
  have hd6:d<6:=by
   subst hst0
   obtain⟨_,h2⟩:=a2r (n:=0) hs
   have h3:=(List.getElem?_eq_some_iff.1 h2).1
   rw [List.length_cons,c2X]at h3
   omega
  rcases hrel.T d s hs with h|h
  · exact .inl h
  · right
    rw [P7,if_pos (by simp only [N8];omega)]at h⊢
    rw [s3 d hd6];exact h
 refine(b6M (A:=fun b=>b<w.heap.size→ok b∨b∈o6 v) (w0:=w) (bor:=o6 v) hA hP 4 c2 _ _ _ w _ _ h hsim hrel1 (fun e st' sy' a' w' hp hk hs' hl'=> ?_) fun st' sy' a' w' hk hs' hl'=> ?_)
 · refine c0p hP hp hk hs' hl'.rel (fun v' hrow hbl=>⟨v',rfl,hbl, ?_, ?_⟩) h0
   · obtain⟨xs',g1,g2,g3,g4⟩:=hrow
     refine⟨xs',g1,d6.mono (fun b hbk=>⟨⟨?_,hbk.2⟩,rfl⟩) _ _ g2,g3,g4⟩
     by_cases hlt:b<w.heap.size
     · rcases hbk.1.1 hlt with h|h
       · exact .inl h
       · exact .inr (.inl h)
     · exact .inr (.inr ⟨by omega,hbk.1.2⟩)
   · exact hl'.rel.cls.fx0
 · obtain⟨l1,n2,ix,m,lv,k0,k1,k2,k7,k8,kH,hix,hm,hbb,hnm,rfl,rfl⟩:=hk.ex
   generalize b6Z 4 c2=tc at htl⊢
   have hr:=hl'.rel
   obtain⟨e',hf',hre⟩:=hs'.H _ _ kH
   cases e' with
   |blk=>exact hre.elim
   |row v1 n1 xs1 z1 ty1=>
    obtain⟨rfl,rfl,rfl,hrp,hfl1,hlen1⟩:=hre
    have hdv:den st'.H (.row 0)=v1:=by simp [den,m8,hf']
    have tv:∀d x,d<X.nt→s7 sy'.T d=some (.v x)→a'.tmps[d]?=some x:=by
     intro d x hd hx
     rcases hs'.T _ _ hx with h|⟨s,h1,h2⟩
     · cases h
     · simp only [c6]at h2
       obtain⟨rfl,_⟩:=h2
       rcases hr.T _ _ h1 with h|h
       · cases h
       · rw [P7,if_pos (Nat.lt_of_lt_of_le hd (by rw [hn];exact hg0))]at h;rw [h];rfl
    have hnt:X.nt=95:=by omega
    have t0:a'.tmps[0]?=some v1:=by
     rcases hs'.T _ _ k0 with h|⟨s,h1,h2⟩
     · cases h
     · simp only [c6]at h2
       obtain⟨rfl,_⟩:=h2
       rcases hr.T _ _ h1 with h|h
       · cases h
       · rw [P7,if_pos (by decide)]at h;rw [h,hdv]
    have t1:=tv 1 _ (by omega) k1
    have t7:=tv 7 _ (by omega) k7
    have t8:=tv 8 _ (by omega) k8
    obtain⟨y,t2,hy⟩:∃y,a'.tmps[2]?=some y∧Rep (okS (fun b=>b<w.heap.size→ok b∨b∈o6 v) st') w' (.lst z m lv) y:=by
     rcases hs'.T _ _ k2 with h|⟨s,h1,h2⟩
     · cases h
     · simp only [c6]at h2
       obtain⟨y,rfl,h2⟩:=h2
       refine⟨y, ?_,Rep.mono (fun b hb=>⟨hb,(a5G hr.cls b hb).2⟩) _ _ h2⟩
       rcases hr.T _ _ h1 with h|h
       · cases h
       · rw [P7,if_pos (by decide)]at h;rw [h];rfl
    have hrp':d6 (okS (fun b=>b<w.heap.size→ok b∨b∈o6 v) st') w' l1 xs1:=d6.mono (fun b hb=>⟨hb,(a5G hr.cls b hb).2⟩) _ _ hrp
    simp only [Rep]at hy
    obtain⟨sa0,mc,rfl,hmc,_,hlv,hflv,hyc⟩:=hy
    obtain⟨sb,so,ls,rfl,hokb,hrls,hcell⟩:∃b o xs,sa0=some ⟨b,o,none⟩∧okS (fun b=>b<w.heap.size→ok b∨b∈o6 v) st' b∧d6 (okS (fun b=>b<w.heap.size→ok b∨b∈o6 v) st') w' lv xs∧∀j,j<m*z→w'.cell? ⟨b,o+j,none⟩=xs[j]?:=by
     rcases hyc with h|h
     · omega
     · exact h
    have hown1:=hr.cls.row hf'
    obtain⟨hx1,hx2⟩:=hown1
    rcases hx2 with⟨_,h0⟩|⟨g,cap,cur,rfl,_,hg,hnc,hcm,hcs,htk⟩
    · omega
    have hgb:g∈bs st'.H:=A7.2 ⟨0,_,n5 hf',by simp [bsE,o6]⟩
    have hgl:=hr.cls.lb g hgb
    have hlsl:ls.length=m*z:=by rw [←hrls.length,hlv]
    have hpos:0<m*z:=Nat.mul_pos hm hz
    have one:∀ {l:List D} {r:List Value},d6 (okS (fun b=>b<w.heap.size→ok b∨b∈o6 v) st') w' l r→A9 l=true→∀x,x∈r→x.oneCell'=true:=fun hrr hff x hx=>by rw [←a8k];exact d6.one hrr hff x hx
    have hsb:∃cA tA fA,w'.heap[sb]?=some (.cells cA tA fA)∧cA.size≠0:=by
     have h1:=hcell 0 hpos
     rw [List.getElem?_eq_getElem (by omega)]at h1
     exact c1b h1
    have hIA:b8T X a' w' t tI ty z bytes g n2 cap ix m mc ⟨sb,so,none⟩ ls cur.toList:=by
     refine⟨by rw [hr.size.1];exact hnt,t0,t1,t2,t7,t8,hix,hm,hnc,hcm,hnm,hbb,by simpa using hg,by simpa using hcs,hlsl,one hrls hflv, ?_, ?_,hsb, ?_,hint,hz⟩
     · rw [htk];exact one hrp' hfl1
     · exact fun e=>hokb.2.2 g hgb e.symm
     · intro W hW j u hu
       have hj:j<m*z:=by rw [←hlsl];exact(List.getElem?_eq_some_iff.1 hu).1
       rw [V5,←hu,←hcell j hj]
       simp only [World.cell?]
       rw [hW]
    refine c2k hP (hP.tt t i hi) hd (hP.tt ty ie hie) hiz hIA hov htl fun a'' W v' hO hdf h6=> ?_
    obtain⟨⟨g',c',C,rfl,hg',hc1,hc2,hCs,hCt,hgg⟩,hfx⟩:=hO
    show bodyPost _ _ _ .ret _ _
    have f0:=hr.cls.fx0
    have hgl':g'∈o6 v∨w.heap.size≤g':=by
     rcases hgg with rfl|h
     · exact hgl
     · exact .inr (Nat.le_trans f0.size h)
    refine⟨by rw [hdf];exact hr.dfs.trans h0, .slice (some ⟨g',0,none⟩) (n2+m) c', ?_,_,rfl, ?_, ?_, ?_⟩
    · rw [show results fn a''.tmps=_ from by unfold results;rw [hres]]
      simp [h6]
    · intro b hb
      simp [o6]at hb;subst hb;exact hgl'
    · have hcx:cur.toList.take (ix*z)=xs1.take (ix*z):=by
       rw [←htk,List.take_take,Nat.min_eq_left (Nat.mul_le_mul_right _ (Nat.le_of_lt hix))]
      rw [hcx,htk]at hCt
      have hl2:(n2+m)*z=n2*z+m*z:=Nat.add_mul _ _ _
      have hl3:ix*z≤n2*z:=Nat.mul_le_mul_right _ (Nat.le_of_lt hix)
      refine⟨xs1.take (ix*z)++ls++xs1.drop (ix*z),⟨?_, .inr ⟨g',c',C,rfl,Nat.zero_le _,hg',hc1,hc2,hCs,hCt⟩⟩, ?_, ?_, ?_⟩
      · rw [List.length_append,List.length_append,List.length_take,List.length_drop,hx1,hlsl,hl2];omega
      · refine d6.mono (fun b hb=> ?_) _ _ (d6.app (d6.app (d6.take hrp' (ix*z)) hrls) (d6.drop hrp' (ix*z)))
        have hb2:=a5G hr.cls b hb
        have hbw:b<w'.heap.size:=hb2.1.2.1
        have hbg:b≠g:=fun e=>hb.2.2 g hgb e.symm
        have hbg':b≠g':=by
         rcases hgg with rfl|h
         · exact hbg
         · omega
        refine⟨⟨?_,by simpa [o6]using hbg'⟩,hfx.block b hbw fun c hc=>by simp at hc;subst hc;exact fun e=>hbg e.symm⟩
        by_cases hlt:b<w.heap.size
        · rcases hb.1.2 hlt with h|h
          · exact .inl h
          · exact .inr (.inl h)
        · exact .inr (.inr ⟨by omega,Nat.lt_of_lt_of_le hbw hfx.size⟩)
      · refine R9 fun d hd=> ?_
        rcases List.mem_append.1 hd with hd|hd
        · rcases List.mem_append.1 hd with hd|hd
          · exact w8 hfl1 (List.mem_of_mem_take hd)
          · exact w8 hflv hd
        · exact w8 hfl1 (List.mem_of_mem_drop hd)
      · rw [List.length_append,List.length_append,List.length_take,List.length_drop,hlen1,hlv,hl2];omega
    · refine⟨hfx.os.trans f0.os,hfx.tape.trans f0.tape,hfx.output.trans f0.output,Nat.le_trans f0.size hfx.size,fun k hk hn=> ?_⟩
      have hkg:∀c,c∈ [g]→c≠k:=by
       intro c hc e
       simp at hc;subst hc;subst e
       rcases hgl with h|h
       · exact hn _ h rfl
       · exact absurd hk (Nat.not_lt.2 h)
      rw [hfx.block k (Nat.lt_of_lt_of_le hk f0.size) hkg]
      exact f0.block k hk hn
theorem a8j {X:Cy} (hP:POK X.P X.tt) {f:FuncId} {fn:Func} {c:Code} {z n n':Nat} {l l':List D} {ty t tI tB:TypeId} {ov:FuncId} {args:List D} {i ie:TI} {bytes:Nat} {ix:Int} {c2:Code}
 (hf:X.P.funcs[f]?=some fn) (hb:fn.body=some c) (hn:X.nt=fn.ntmps) (hhd:a8i t c2 c) (htl:a8a t tI tB ov (b6Z 4 c2)) (hal:args.length≤1) (hix0:0≤ix∧ix.toNat≤n) (hi:I8 X.tt t=some i) (hd:i.d= .slice ty z bytes) (hie:I8 X.tt ty=some ie) (hiz:ie.n=z) (h95:fn.ntmps=95) (hres:fn.results= #[.tmp 6])
 (hint:X.P.underlying tI=some (.int .i64)) (hov:c4t X.P t ov) (hz:0<z)
 (h:b9H X 4 c2 ⟨a2z 0 (.row 0 z::DI ix::args), [(0, .row z n l ty)],1⟩ (b7y X fn.results.toList z n' l' ty) (c5p z bytes l' n' ty)) (h0:X.dfs= []:=by rfl) (hg:fn.ntmps≤N8:=by exact Nat.le_of_ble_eq_true rfl):b3u X.P f z n l ty (DI ix::args) z n' l':=by
 obtain⟨k,rfl⟩:∃k:Nat,ix=(k:Int):=⟨ix.toNat,(Int.toNat_of_nonneg hix0.1).symm⟩
 exact c3N hP hf hb hn hhd htl hal (by have:=hix0.2;simpa using this) hi hd hie hiz h95 hres hint hov hz (by rw [c0Q]at h;exact h) h0 hg
theorem b9P {α:Type} {c:α→List D} {z bytes:Nat} {l lv:List α} {i:Int} {ty:TypeId} {T:List (Nat×D)} {H:Hy} {nk:Nat} (hc:∀x,(c x).length=z)
 (h:0≤i∧i.toNat<l.length∧0<lv.length∧(l.length+lv.length)*bytes≤140737488355328∧l.length+lv.length≤9223372036854775807)
 (h0:s7 T 0=some (.row 0 z):=by rfl) (h1:s7 T 1=some (DI i):=by rfl) (h2:s7 T 2=some (.lst z lv.length (lv.flatMap c)):=by rfl) (h7:s7 T 7=some (DI lv.length):=by rfl) (h8:s7 T 8=some (DI l.length):=by rfl)
 (hH:j3 H 0=some (.row z l.length (l.flatMap c) ty):=by rfl):c5p z bytes ((l.take i.toNat++lv++l.drop i.toNat).flatMap c) (l.take i.toNat++lv++l.drop i.toNat).length ty ⟨T,H,nk⟩:=by
 obtain⟨g1,g2,g3,g4,g5⟩:=h
 refine⟨l.flatMap c,l.length,i.toNat,lv.length,lv.flatMap c,h0, ?_,h2,h7,h8,hH,g2,g3,g4,by simpa [maxLen]using g5, ?_, ?_⟩
 · rw [h1,Int.toNat_of_nonneg g1]
 · rw [List.flatMap_append,List.flatMap_append,b0K hc]
   congr 1
   have h3:(l.take i.toNat).flatMap c++(l.drop i.toNat).flatMap c=l.flatMap c:=by rw [←List.flatMap_append,List.take_append_drop]
   have h4:((l.take i.toNat).flatMap c).length=i.toNat*z:=by
    rw [a0s hc,List.length_take,Nat.min_eq_left (Nat.le_of_lt g2)]
   rw [←h3,List.drop_left' h4]
 · simp;omega
end Go.Sx
namespace Go.Sx
open Go Go.RowKit
def a8I (l:List Int):List Int:=l.mergeSort fun x y=>decide (x≤y)
theorem c6V {ok:Nat→Prop} {w:World}:∀ {x:List Int} {xs:List Value},d6 ok w (x.flatMap cI) xs→xs=x.map (Value.int .i64)
 | [], [],_=>rfl
 | [],_::_,h=>by simp [d6]at h
 |z::x, [],h=>by simp [cI,d6]at h
 |z::x,y::xs,h=>by
  simp only [List.flatMap_cons,cI,List.singleton_append,d6,Rep]at h
  rw [List.map_cons,←c6V h.2,h.1.1]
theorem b9W {ok:Nat→Prop} {w:World}:∀(x:List Int),d6 ok w (x.flatMap cI) (x.map (Value.int .i64))
 | []=>trivial
 |z::x=>by
  simp only [List.flatMap_cons,cI,List.singleton_append,List.map_cons,d6,Rep]
  exact⟨⟨trivial,rfl⟩,b9W x⟩
theorem c5i:∀(x:List Int),A9 (x.flatMap cI)=true
 | []=>rfl
 |z::x=>by simp only [List.flatMap_cons,cI,List.singleton_append,A9,a5B];exact c5i x
theorem c8g (x:List Int):(x.flatMap cI).length=x.length*1:=by
 induction x with
 |nil=>rfl
 |cons z x ih=>simp only [List.flatMap_cons,cI,List.singleton_append,List.length_cons,ih];omega
theorem c5w {w:World} {g ty:Nat} {cur:Array Value} {x:List Int} {c:Nat} (hg:w.heap[g]?=some (.cells cur ty (0,0))) (hc:x.length*1≤c) (ht:cur.toList.take (x.length*1)=x.map (Value.int .i64)):Sort.Holds (Value.int .i64) w g 0 x.toArray:=by
 intro j hj
 have hj:j<x.length:=by simpa using hj
 refine⟨?_,by simp [World.frozen?,hg]⟩
 simp only [World.cell?,hg,Nat.zero_add]
 have h1:cur[j]?=(cur.toList.take (x.length*1))[j]?:=by
  rw [List.getElem?_take,if_pos (by omega),Array.getElem?_toList]
 simp only [Option.isSome_none,Bool.false_eq_true,if_false,h1,ht]
 simp [hj]
theorem c5K {w w':World} {g ty:Nat} {cur:Array Value} {d:Array Int} {q:Nat} {os:Array Obj} (hg:w.heap[g]?=some (.cells cur ty (0,0))) (h:w'=Sort.grow (Sort.putRow (Value.int .i64) (Sort.ahead w q) g 0 d) os):
 w'.heap[g]?=some (.cells (Sort.putCells (Value.int .i64) 0 d cur) ty (0,0))∧Fx [g] w w':=by
 have hlt:g<w.heap.size:=(Array.getElem?_eq_some_iff.1 hg).1
 subst h
 have e:∀i,i<w.heap.size→(Sort.grow (Sort.putRow (Value.int .i64) (Sort.ahead w q) g 0 d) os).heap[i]?=if g=i then(w.heap[i]?).map (Sort.onCells (Sort.putCells (Value.int .i64) 0 d))else w.heap[i]?:=by
  intro i hi
  rw [Sort.heap_grow_old _ _ (by simpa using hi)]
  simp only [Sort.putRow,Sort.mapBlock,Sort.heap_ahead,Array.getElem?_modify]
 refine⟨by rw [e g hlt,if_pos rfl,hg];rfl,rfl,rfl,rfl,by simp,fun i hi hn=> ?_⟩
 rw [e i hi,if_neg (hn g (by simp))]
theorem c2v {cur:Array Value} {d:Array Int} (h:d.size≤cur.size):(Sort.putCells (Value.int .i64) 0 d cur).toList.take d.size=d.toList.map (Value.int .i64):=by
 apply List.ext_getElem?
 intro j
 rw [List.getElem?_take,List.getElem?_map]
 by_cases hj:j<d.size
 · rw [if_pos hj,Array.getElem?_toList,Array.getElem?_toList]
   simp only [Sort.putCells,Array.getElem?_mapIdx]
   rw [Array.getElem?_eq_getElem (show j<cur.size by omega),Option.map_some,if_pos ⟨by omega,by omega⟩,Array.getElem?_eq_getElem hj,Option.map_some,Nat.sub_zero,getElem!_pos d j hj]
 · rw [if_neg hj,Array.getElem?_toList,Array.getElem?_eq_none (by omega)]
   rfl
theorem c2x {cur:Array Value} {d:Array Int}:(Sort.putCells (Value.int .i64) 0 d cur).size=cur.size:=by simp [Sort.putCells]
theorem a5S (x:List Int):(a8I x).length=x.length:=List.length_mergeSort x
theorem c1E {P:Program} {ρ:Go.Shelf.Ren} (Ly:Go.Proofs.Lays.n189 P ρ) (x:List Int) (ty:TypeId) (hx:x.length<4611686018427387904):c1U P (ρ.f 189) 1 x.length (x.flatMap cI) ty [] (a8I x).length ((a8I x).flatMap cI):=by
 refine⟨a5S x, ?_⟩
 intro ok w v vs ⟨xs,hown,hrep,_,_⟩ _ hvs _
 cases vs with
 |cons=>simp [d6]at hvs
 |nil=>
  obtain rfl:=c6V hrep
  obtain⟨hl,h|⟨g,cap,cur,rfl,_,hg,hnc,hcm,hcs,htk⟩⟩:=hown
  · obtain⟨rfl,hn⟩:=h
    obtain rfl:=List.eq_nil_of_length_eq_zero hn
    refine(Go.Proofs.Any.slices_Sort_int_none Ly none 0 w).mono fun e w' ⟨he,hw⟩=> ?_
    subst hw
    have h0:a8I []= []:=List.length_eq_zero_iff.1 (a5S [])
    rw [h0]
    exact⟨he,⟨[],⟨rfl, .inl ⟨rfl,rfl⟩⟩,trivial,rfl,rfl⟩,Fx.refl _ _⟩
  · have hlt:g<w.heap.size:=(Array.getElem?_eq_some_iff.1 hg).1
    refine(Go.Proofs.Any.slices_Sort_int Ly g 0 cap x w (c5w hg (Nat.le_refl _) htk) hlt hx).mono fun e w' ⟨he,q,os,hw⟩=> ?_
    obtain⟨h1,h2⟩:=c5K hg hw
    refine⟨he,⟨(a8I x).map (Value.int .i64),⟨by simp [a5S], .inr ⟨g,cap,_,rfl,Nat.zero_le _,h1,hnc,hcm,by rw [c2x];exact hcs, ?_⟩⟩,b9W _,c5i _,by rw [c8g,a5S]⟩,h2⟩
    have hs:(a8I x).toArray.size=x.length:=by simp [a5S]
    have:=c2v (cur:=cur) (d:=(a8I x).toArray) (by rw [hs,hcs];omega)
    rw [hs]at this
    simpa [a8I]using this
end Go.Sx
namespace Go.Sx
open Go Go.RowKit
end Go.Sx
namespace Go.Sx
open Go Go.RowKit
def c5g (n:Int):ByteArray:=⟨(Lib.decDigits n.toNat).toArray⟩
theorem c0H {P:Program} {ρ:Go.Shelf.Ren} (Ly:Go.Proofs.Lays.n171 P ρ) (n:Int) (h:0≤n∧n<100):d7 P (ρ.f 171) [.v (.int .i64 n)] fun x=>x= .v (.string (c5g n)):=by
 intro ok w vs hr _
 obtain⟨v,rfl,hv⟩:∃v,vs= [v]∧v= .int .i64 n:=by
  match vs,hr with
  | [v],hr=>exact⟨v,rfl,by simp only [d6,Rep]at hr;exact hr.1.1⟩
  | [],hr=>simp [d6]at hr
  |_::_::_,hr=>simp [d6]at hr
 subst hv
 obtain⟨k,rfl⟩:∃k:Nat,n=(k:Int):=⟨n.toNat,(Int.toNat_of_nonneg h.1).symm⟩
 refine(Go.Proofs.Any.strconv_Itoa_small Ly k (by omega) w).mono fun e w' ⟨he,hw⟩=> ?_
 subst hw
 exact⟨_,_,he,rfl,by simp only [Rep];exact⟨rfl,rfl⟩,⟨rfl,rfl,rfl,Nat.le_refl _,fun _ _=>rfl⟩⟩
end Go.Sx
namespace Go.Sx
open Go Go.RowKit
def InK (k:IntKind) (x:Int):Prop:=k.min≤x∧x≤k.max
structure w3 (P:Program) (t:TypeId) {X:Type} (c:X→List D) (G:X→Prop):Prop where
 op:∀ {H:Type} (enc:TypeId×Value→H) (w:World) (fuel:Nat) (cs:List Value) (d:DataW H) (ps:List MemPlace),DataW.trod enc P w 0 (fun _=>true) true fuel t cs=some (d,ps)→(∀n,n∈d.weights P t→n≤reachBytes)→
  ∃x,d6 (fun b=>b<w.heap.size) w (c x) cs∧G x
structure F9 (P:Program) (fs:List Field) (o n:Nat) {X:Type} (c:X→List D) (G:X→Prop):Prop where
 op:∀ {H:Type} (enc:TypeId×Value→H) (w:World) (fuel:Nat) (cs:List Value) (xs:List (DataW H×List MemPlace)),cs.length=n→(fs.mapM fun f=>DataW.trod enc P w 0 (fun _=>true) true fuel f.type ((cs.drop f.offset).take (P.cellsOf f.type)))=some xs→
  (∀m,m∈DataW.weightsEach P (fs.map (·.type)) (xs.map (·.1))→m≤reachBytes)→∃x,d6 (fun b=>b<w.heap.size) w (c x) (cs.drop o)∧G x
structure a6w (P:Program) (e:TypeId) (is:List Nat) (o n:Nat) {X:Type} (c:X→List D) (G:X→Prop):Prop where
 op:∀ {H:Type} (enc:TypeId×Value→H) (w:World) (fuel:Nat) (cs:List Value) (xs:List (DataW H×List MemPlace)),cs.length=n→(is.mapM fun i=>DataW.trod enc P w 0 (fun _=>true) true fuel e ((cs.drop (i*P.cellsOf e)).take (P.cellsOf e)))=some xs→
  (∀m,m∈DataW.weightsAll P e (xs.map (·.1))→m≤reachBytes)→∃x,d6 (fun b=>b<w.heap.size) w (c x) (cs.drop o)∧G x
section
variable {P : Program} {t e : TypeId}
theorem c0u {α β:Type} {f:α→Option β}:∀ {l:List α} {r:List β},l.mapM f=some r→r.length=l.length∧∀(i:Nat) (a:α),l[i]?=some a→∃b,r[i]?=some b∧f a=some b:=by
 intro l
 induction l with
 |nil=>intro r h;simp at h;subst h;simp
 |cons a l ih=>
  intro r h
  rw [List.mapM_cons]at h
  cases ha:f a with
  |none=>rw [ha]at h;cases h
  |some b=>
   rw [ha]at h
   cases hl:l.mapM f with
   |none=>rw [hl]at h;cases h
   |some s=>
    rw [hl]at h
    cases h
    obtain⟨h1,h2⟩:=ih hl
    refine⟨by simp [h1],fun i x hx=> ?_⟩
    cases i with
    |zero=>simp at hx;subst hx;exact⟨b,by simp,ha⟩
    |succ i=>simp at hx;simpa using h2 i x hx
theorem a4K {α β:Type} {f:α→Option β} {a:α} {l:List α} {r:List β} (h:(a::l).mapM f=some r):∃b s,f a=some b∧l.mapM f=some s∧r=b::s:=by
 rw [List.mapM_cons]at h
 cases ha:f a with
 |none=>rw [ha]at h;cases h
 |some b=>
  rw [ha]at h
  cases hl:l.mapM f with
  |none=>rw [hl]at h;cases h
  |some s=>rw [hl]at h;cases h;exact⟨b,s,rfl,rfl,rfl⟩
theorem w3.int {k:IntKind} (hu:P.underlying t=some (.int k)):w3 P t (fun x:Int=> [.v (.int k x)]) (fun x=>InK k x):=by
 refine⟨fun enc w fuel cs d ps h _=> ?_⟩
 obtain⟨n,rfl,_,hwf⟩:=DataW.trod_int hu h
 exact⟨n,⟨⟨rfl,rfl⟩,trivial⟩,by simpa [Lit.wf,InK]using hwf⟩
theorem w3.bool (hu:P.underlying t=some .bool):w3 P t (fun x:Bool=> [.v (.bool x)]) (fun _=>True):=by
 refine⟨fun enc w fuel cs d ps h _=> ?_⟩
 obtain⟨b,rfl,_⟩:=DataW.trod_bool hu h
 exact⟨b,⟨⟨rfl,rfl⟩,trivial⟩,trivial⟩
theorem w3.str (hu:P.underlying t=some .string):w3 P t (fun x:ByteArray=> [.v (.string x)]) (fun x=>x.size≤reachBytes):=by
 refine⟨fun enc w fuel cs d ps h hw=> ?_⟩
 obtain⟨s,rfl,hx,_⟩:=DataW.trod_string hu h
 cases hx
 refine⟨s,⟨⟨rfl,rfl⟩,trivial⟩, ?_⟩
 have:=hw s.data.toList.length (by simp [DataW.weights])
 simpa using this
theorem w3.iso {X Y:Type} {c:X→List D} {G:X→Prop} {c':Y→List D} {G':Y→Prop} (h:w3 P t c G) (f:X→Y) (hc:∀x,c x=c' (f x)) (hG:∀x,G x→G' (f x)):w3 P t c' G':=
 ⟨fun enc w fuel cs d ps ht hw=>by obtain⟨x,h1,h2⟩:=h.op enc w fuel cs d ps ht hw;exact⟨f x,hc x▸h1,hG x h2⟩⟩
theorem F9.nil {o:Nat}:F9 P [] o o (fun _:Unit=> []) (fun _=>True):=
 ⟨fun enc w fuel cs xs hl _ _=>⟨(),by rw [List.drop_of_length_le (by omega)];trivial,trivial⟩⟩
theorem F9.cons {f:Field} {fs:List Field} {o s n:Nat} {X Y:Type} {c:X→List D} {G:X→Prop} {c':Y→List D} {G':Y→Prop} (h:w3 P f.type c G) (hk:F9 P fs (o+s) n c' G') (ho:f.offset=o) (hs:P.cellsOf f.type=s):
 F9 P (f::fs) o n (fun x:X×Y=>c x.1++c' x.2) (fun x=>G x.1∧G' x.2):=by
 refine⟨fun enc w fuel cs xs hl hm hw=> ?_⟩
 obtain⟨b,r,h1,h2,rfl⟩:=a4K hm
 obtain⟨d,ps⟩:=b
 simp only [List.map_cons,DataW.weightsEach]at hw
 obtain⟨x,g1,g2⟩:=h.op enc w fuel _ d ps h1 fun n hn=>hw n (List.mem_append_left _ hn)
 obtain⟨y,g3,g4⟩:=hk.op enc w fuel cs r hl h2 fun n hn=>hw n (List.mem_append_right _ hn)
 rw [ho,hs]at g1
 refine⟨(x,y), ?_,g2,g4⟩
 have:cs.drop o=(cs.drop o).take s++cs.drop (o+s):=by rw [←List.drop_drop,List.take_append_drop]
 rw [this]
 exact d6.app g1 g3
theorem F9.last {f:Field} {o s n:Nat} {X:Type} {c:X→List D} {G:X→Prop} (h:w3 P f.type c G) (ho:f.offset=o) (hs:P.cellsOf f.type=s) (hn:o+s=n):F9 P [f] o n c G:=by
 subst hn
 refine⟨fun enc w fuel cs xs hl hm hw=> ?_⟩
 obtain⟨x,h1,h2⟩:=(F9.cons h (F9.nil (P:=P) (o:=o+s)) ho hs).op enc w fuel cs xs hl hm hw
 exact⟨x.1,by simpa using h1,h2.1⟩
theorem w3.struct {F:Array Field} {n:Nat} {X:Type} {c:X→List D} {G:X→Prop} (hu:P.underlying t=some (.struct F)) (h:F9 P F.toList 0 n c G) (hn:P.cellsOf t=n):w3 P t c G:=by
 refine⟨fun enc w fuel cs d ps ht hw=> ?_⟩
 cases fuel with
 |zero=>simp [DataW.trod]at ht
 |succ fuel=>
  simp only [DataW.trod,hu]at ht
  split at ht
  · rename_i hl
    rw [Option.map_eq_some_iff]at ht
    obtain⟨xs,hx,he⟩:=ht
    cases he
    simp only [DataW.weights,hu]at hw
    obtain⟨x,h1,h2⟩:=h.op enc w fuel cs xs (by omega) hx hw
    exact⟨x,by simpa using h1,h2⟩
  · cases ht
theorem a6w.last {i o s n:Nat} {X:Type} {c:X→List D} {G:X→Prop} (h:w3 P e c G) (ho:i*s=o) (hs:P.cellsOf e=s) (hn:o+s=n):a6w P e [i] o n c G:=by
 refine⟨fun enc w fuel cs xs hl hm hw=> ?_⟩
 obtain⟨b,r,h1,h2,rfl⟩:=a4K hm
 obtain⟨d,ps⟩:=b
 simp only [List.map_cons,DataW.weightsAll]at hw
 obtain⟨x,g1,g2⟩:=h.op enc w fuel _ d ps h1 fun n hn=>hw n (List.mem_append_left _ hn)
 rw [hs,ho]at g1
 refine⟨x, ?_,g2⟩
 rwa [List.take_of_length_le (by simp;omega)]at g1
theorem a6w.cons {i:Nat} {is:List Nat} {o s n:Nat} {X Y:Type} {c:X→List D} {G:X→Prop} {c':Y→List D} {G':Y→Prop} (h:w3 P e c G) (hk:a6w P e is (o+s) n c' G') (ho:i*s=o) (hs:P.cellsOf e=s):
 a6w P e (i::is) o n (fun x:X×Y=>c x.1++c' x.2) (fun x=>G x.1∧G' x.2):=by
 refine⟨fun enc w fuel cs xs hl hm hw=> ?_⟩
 obtain⟨b,r,h1,h2,rfl⟩:=a4K hm
 obtain⟨d,ps⟩:=b
 simp only [List.map_cons,DataW.weightsAll]at hw
 obtain⟨x,g1,g2⟩:=h.op enc w fuel _ d ps h1 fun n hn=>hw n (List.mem_append_left _ hn)
 obtain⟨y,g3,g4⟩:=hk.op enc w fuel cs r hl h2 fun n hn=>hw n (List.mem_append_right _ hn)
 rw [hs,ho]at g1
 refine⟨(x,y), ?_,g2,g4⟩
 have:cs.drop o=(cs.drop o).take s++cs.drop (o+s):=by rw [←List.drop_drop,List.take_append_drop]
 rw [this]
 exact d6.app g1 g3
theorem w3.arr {m n:Nat} {X:Type} {c:X→List D} {G:X→Prop} (hu:P.underlying t=some (.array m e)) (h:a6w P e (List.range m) 0 n c G) (hn:P.cellsOf t=n):w3 P t c G:=by
 refine⟨fun enc w fuel cs d ps ht hw=> ?_⟩
 cases fuel with
 |zero=>simp [DataW.trod]at ht
 |succ fuel=>
  simp only [DataW.trod,hu]at ht
  split at ht
  · rename_i hl
    rw [Option.map_eq_some_iff]at ht
    obtain⟨xs,hx,he⟩:=ht
    cases he
    simp only [DataW.weights,hu]at hw
    obtain⟨x,h1,h2⟩:=h.op enc w fuel cs xs (by omega) hx hw
    exact⟨x,by simpa using h1,h2⟩
  · cases ht
theorem a8V {w:World} {a:Addr} {n:Nat} {cs:List Value} (h:w.cells? 0 a n=some cs):cs.length=n∧∀i,i<n→w.cell? (a.add i)=cs[i]?:=by
 unfold World.cells? at h
 rw [if_pos (Nat.zero_le _)]at h
 obtain⟨h1,h2⟩:=c0u h
 refine⟨by simpa using h1,fun i hi=> ?_⟩
 obtain⟨b,h3,h4⟩:=h2 i i (by simp [hi])
 rw [h4,h3]
theorem a7Z {H:Type} {e:TypeId}:∀ {l:List (DataW H)} {d:DataW H},d∈l→∀n,n∈d.weights P e→n∈DataW.weightsAll P e l
 |x::l,d,h,n,hn=>by
  simp only [DataW.weightsAll]
  rcases List.mem_cons.1 h with rfl|h
  · exact List.mem_append_left _ hn
  · exact List.mem_append_right _ (a7Z h n hn)
 | [],_,h,_,_=>by cases h
theorem b4P {X:Type} {c:X→List D} {G:X→Prop} {ok:Nat→Prop} {w:World} {b o z:Nat} (hc:∀x,(c x).length=z):∀(n k:Nat),(∀i,i<n→∃x cs,d6 ok w (c x) cs∧G x∧∀j,j<z→w.cell? ⟨b,o+((k+i)*z+j),none⟩=cs[j]?)→
 ∃(l:List X) (vs:List Value),l.length=n∧(∀x,x∈l→G x)∧d6 ok w (l.flatMap c) vs∧∀j,j<n*z→w.cell? ⟨b,o+(k*z+j),none⟩=vs[j]?
 |0,k,h=>⟨[], [],rfl,by simp,trivial,fun j hj=>by simp at hj⟩
 |n+1,k,h=>by
  obtain⟨x,cs,h1,h2,h3⟩:=h 0 (by omega)
  obtain⟨l,vs,g1,g2,g3,g4⟩:=b4P hc n (k+1) fun i hi=>by
   obtain⟨x,cs,h1,h2,h3⟩:=h (i+1) (by omega)
   exact⟨x,cs,h1,h2,fun j hj=>by rw [←h3 j hj];congr 3;rw [show k+1+i=k+(i+1) from by omega]⟩
  have hl:=h1.length
  rw [hc]at hl
  refine⟨x::l,cs++vs,by simp [g1], ?_, ?_,fun j hj=> ?_⟩
  · intro y hy
    rcases List.mem_cons.1 hy with rfl|hy
    · exact h2
    · exact g2 y hy
  · rw [List.flatMap_cons];exact d6.app h1 g3
  · by_cases hlt:j<z
    · rw [List.getElem?_append_left (by omega),←h3 j hlt];simp
    · rw [List.getElem?_append_right (by omega),←hl,←g4 (j-z) (by rw [Nat.add_mul]at hj;omega)]
      congr 3
      rw [Nat.add_mul];omega
theorem c1v {X:Type} {c:X→List D} (h:∀x,A9 (c x)=true) (l:List X):A9 (l.flatMap c)=true:=by
 refine R9 fun d hd=> ?_
 obtain⟨x,_,hx⟩:=List.mem_flatMap.1 hd
 exact w8 (h x) hx
theorem w3.slice {z bytes:Nat} {X:Type} {c:X→List D} {G:X→Prop} (hu:P.underlying t=some (.slice e)) (h:w3 P e c G) (hz:P.cellsOf e=z) (hb:P.bytesOf e=bytes) (hc:∀x,(c x).length=z) (hfl:∀x,A9 (c x)=true) (hpos:0<z):
 w3 P t (fun l:List X=> [.lst z l.length (l.flatMap c)]) (fun l=>l.length*bytes≤reachBytes∧l.length≤maxLen∧∀x,x∈l→G x):=by
 refine⟨fun enc w fuel cs d ps ht hw=> ?_⟩
 rcases DataW.trod_slice hu ht with⟨rfl,_⟩|⟨a,n,cap,elems,rest,fuel',rfl,rfl,hx,_,hnc,hcm,e1,e2,hrest,_⟩
 · refine⟨[],⟨?_,trivial⟩,by simp,by simp,by simp⟩
   simp only [Rep]
   exact⟨none,0,rfl,Nat.le_refl _,by simp,by simp,rfl, .inl rfl⟩
 · obtain⟨r1,r2⟩:=hrest rfl
   obtain⟨rfl,rfl⟩:=Prod.mk.inj hx
   simp only [DataW.weights,hu]at hw
   have hbytes:(n+(cap-n))*bytes≤reachBytes:=by
    have:=hw _ List.mem_cons_self
    simpa [e1,r1,hb]using this
   have hnb:n*bytes≤reachBytes:=Nat.le_trans (Nat.mul_le_mul_right _ (by omega)) hbytes
   by_cases hc0:cap=0
   · obtain rfl:n=0:=by omega
     refine⟨[],⟨?_,trivial⟩,by simp,by simp,by simp⟩
     simp only [Rep]
     exact⟨some a,cap,rfl,hnc,by simp,by simp,rfl, .inl hc0⟩
   · --the first place lies in memory
     have hspot:a.spot=none∧a.block<w.heap.size:=by
      have hcell:∃v,w.cell? a=some v:=by
       by_cases hn0:0<n
       · have h4:=e2 0 hn0
         rw [List.getElem?_eq_getElem (by omega),Option.bind_eq_some_iff]at h4
         obtain⟨cs,h5,_⟩:=h4
         obtain⟨h6,h7⟩:=a8V h5
         have:=h7 0 (by omega)
         simp only [Nat.zero_mul,Addr.add,if_true]at this
         exact⟨cs[0]'(by omega),by rw [this];simp [h6,hz,hpos]⟩
       · have h4:=r2 0 (by omega)
         rw [List.getElem?_eq_getElem (by omega),Option.bind_eq_some_iff]at h4
         obtain⟨cs,h5,_⟩:=h4
         obtain⟨h6,h7⟩:=a8V h5
         have:=h7 0 (by omega)
         have hn0':n=0:=by omega
         simp only [hn0',Nat.add_zero,Nat.zero_mul,Addr.add,if_true]at this
         exact⟨cs[0]'(by omega),by rw [this];simp [h6,hz,hpos]⟩
      obtain⟨v,hv⟩:=hcell
      unfold World.cell? at hv
      split at hv
      · rename_i c t fr hcl
        split at hv
        · cases hv
        · rename_i hs
          exact⟨by simpa using hs,(Array.getElem?_eq_some_iff.1 hcl).1⟩
      · cases hv
     obtain⟨b,o,sp⟩:=a
     obtain⟨hsp,hblk⟩:=hspot
     simp only at hsp hblk
     subst hsp
     have haddr:∀k j:Nat,((⟨b,o,none⟩:Addr).add k).add j=⟨b,o+(k+j),none⟩:=by
      intro k j
      unfold Addr.add
      by_cases hk:k=0<;>by_cases hj:j=0<;>simp [hk,hj]<;>omega
     obtain⟨l,vs,g1,g2,g3,g4⟩:=b4P (ok:=fun b=>b<w.heap.size) (G:=G) (w:=w) (b:=b) (o:=o) hc n 0 fun i hi=>by
      have h4:=e2 i hi
      have h3:elems[i]?=some (elems[i]'(by omega)):=List.getElem?_eq_getElem (by omega)
      rw [h3,Option.bind_eq_some_iff]at h4
      obtain⟨cs,h5,h6⟩:=h4
      obtain⟨h7,h8⟩:=a8V h5
      obtain⟨x,x1,x2⟩:=h.op enc w fuel' cs _ _ h6 fun n hn=>hw n (List.mem_cons_of_mem _ (List.mem_append_left _ (a7Z (List.mem_map.2 ⟨_,List.mem_of_getElem? h3,rfl⟩) n hn)))
      refine⟨x,cs,x1,x2,fun j hj=> ?_⟩
      rw [←h8 j (by omega),haddr,hz,Nat.zero_add]
     refine⟨l,⟨?_,trivial⟩,by rw [g1];exact hnb,by omega,g2⟩
     simp only [Rep]
     refine⟨some ⟨b,o,none⟩,cap,by rw [g1],by omega,by rw [g1];simp only [maxLen]at hcm;omega,by rw [a0s hc],c1v hfl l, .inr ⟨b,o,vs,rfl,hblk,g3,fun j hj=> ?_⟩⟩
     have:=g4 j (by rw [←g1];exact hj)
     simpa using this
theorem w3.arg_agg {X:Type} {c:X→List D} {G:X→Prop} (h:w3 P t c G) (hfl:∀x,A9 (c x)=true) {H:Type} {enc:TypeId×Value→H} {w:World} {r:Reach} {b0:Nat} {v:Value} {d:DataW H} {ps:List MemPlace}
 (hu:(match P.underlying t with|some (.struct _)=>true|some (.array _ _)=>true|_=>false)=true) (hval:Value.okWide P w r b0 t v) (ht:DataW.Trod enc P w 0 (fun _=>true) true t v d ps) (hw:∀n,n∈d.weights P t→n≤reachBytes):
 ∃x,Rep (fun b=>b<w.heap.size) w (.agg (c x)) v∧G x:=by
 obtain⟨fuel,ht⟩:=ht
 obtain⟨x,h1,h2⟩:=h.op enc w fuel _ d ps ht hw
 refine⟨x, ?_,h2⟩
 unfold Value.okWide at hval
 split at hval
 · obtain⟨cs,rfl,_⟩:=hval
   simp only [Rep];exact⟨cs,rfl,h1,hfl x⟩
 · obtain⟨cs,rfl,_⟩:=hval
   simp only [Rep];exact⟨cs,rfl,h1,hfl x⟩
 · rename_i h3 h4
   split at hu
   · rename_i hx;exact absurd hx (h3 _)
   · rename_i hx;exact absurd hx (h4 _ _)
   · cases hu
theorem w3.arg_one {X:Type} {f:X→D} {G:X→Prop} (h:w3 P t (fun x=> [f x]) G) {H:Type} {enc:TypeId×Value→H} {w:World} {r:Reach} {b0:Nat} {v:Value} {d:DataW H} {ps:List MemPlace}
 (hu:(match P.underlying t with|some .bool=>true|some .string=>true|some (.int _)=>true|some (.slice _)=>true|_=>false)=true) (hval:Value.okWide P w r b0 t v) (ht:DataW.Trod enc P w 0 (fun _=>true) true t v d ps) (hw:∀n,n∈d.weights P t→n≤reachBytes):
 ∃x,Rep (fun b=>b<w.heap.size) w (f x) v∧G x:=by
 obtain⟨fuel,ht⟩:=ht
 obtain⟨x,h1,h2⟩:=h.op enc w fuel _ d ps ht hw
 refine⟨x, ?_,h2⟩
 have hc:v.cells= #[v]:=by
  cases v with
  |agg cs=>
   exfalso
   unfold Value.okWide Cell.okWide Cell.ok at hval
   split at hu<;>rename_i hx<;>first|(rw [hx]at hval;simp at hval;done)|(cases hu;done)|skip
  |_=>rfl
 rw [hc]at h1
 simpa [d6]using h1
theorem a8E {H:Type} {enc:TypeId×Value→H} (hl:laidOutB P=true) {W W':World} (hb:Below W.heap.size W W'):∀ {ts:List TypeId} {vs:List Value} {ds:List (DataW H)} {ps:List MemPlace},(∀t,t∈ts→P.readableRec t=true∧t<P.types.size)→
 DataW.TrodAll enc P W 0 (fun _=>true) true ts vs ds ps→(∀x,x∈ps→x.block<W.heap.size)→DataW.TrodAll enc P W' 0 (fun b=>decide (b<W.heap.size)) true ts vs ds ps
 | [], [], [],ps,_,h,_=>h
 |t::ts,v::vs,d::ds,ps,hr,h,hlt=>by
  obtain⟨p,q,h1,h2,rfl⟩:=h
  exact⟨p,q,Below.trod hl (hr t List.mem_cons_self).1 (hr t List.mem_cons_self).2 h1 hb fun x hx=>hlt x (List.mem_append_left _ hx),a8E hl hb (fun t ht=>hr t (List.mem_cons_of_mem _ ht)) h2 fun x hx=>hlt x (List.mem_append_right _ hx),rfl⟩
 | [],_::_,_,_,_,h,_=>by simp [DataW.TrodAll]at h
 | [], [],_::_,_,_,h,_=>by simp [DataW.TrodAll]at h
 |_::_, [],_,_,_,h,_=>by simp [DataW.TrodAll]at h
 |_::_,_::_, [],_,_,h,_=>by simp [DataW.TrodAll]at h
theorem c3e {H:Type} {enc:TypeId×Value→H} {f:Func} {n:FuncId} {s:ChangeSpec} {W:World} {args:Array Value} {ds gs:List (DataW H)} {before:List MemPlace} {Ds:List D} {tb:TypeId}
 (hl:laidOutB P=true) (hr:∀t,t∈f.params.toList→P.readableRec t=true∧t<P.types.size) (hvars:s.vars= []) (hrt:f.resultTypes= #[tb]) (htb:P.underlying tb=some .bool)
 (hfn:(s.fn H (ds++gs)).results= [.lit (.bool true)]) (hfa:(s.fn H (ds++gs)).args=ds) (hfv:(s.fn H (ds++gs)).vars= [])
 (hW:DataW.Whole enc P f.params.toList s.vars false W args.toList ds gs before) (hrep:d6 (fun b=>b<W.heap.size) W Ds args.toList) (hd:d7 P n Ds fun x=>x= .v (.bool true)):
 Calls P n args W fun e W'=>∃v,e= .returned v∧s.post enc P f false true false false W args v W':=by
 refine(hd (fun b=>b<W.heap.size) W args.toList hrep fun _ h=>h).mono fun e W' ⟨v,r,he,hq,hrp,hb⟩=> ?_
 subst he;subst hq
 simp only [Rep]at hrp
 obtain⟨rfl,_⟩:=hrp
 refine⟨_,rfl, ?_⟩
 have hW':=hW
 have hlt:=hW.lt
 obtain⟨p,q,hA,hV,rfl,hfz,hnd⟩:=hW
 rw [hvars]at hV
 obtain⟨rfl,rfl⟩:gs= []∧q= []:=by
  cases gs with
  |nil=>exact⟨rfl,hV⟩
  |cons=>simp [DataW.TrodVars]at hV
 refine⟨ds, [],_, [],p, [],hW', ?_, ?_, ?_, ?_,fun h=>by cases h⟩
 · rw [hfn,hrt]
   exact⟨[], [],shut_bool htb true,rfl,rfl⟩
 · rw [hfa]
   exact a8E hl hb hr hA fun x hx=>hlt x (by simpa using hx)
 · rw [hvars,hfv];rfl
 · refine⟨hb.os,hb.output,fun i hi=> ?_⟩
   rw [hb.block i hi]
   split<;>simp_all
structure R3 (P:Program) (ts:List TypeId) {X:Type} (c:X→List D) (G:X→Prop):Prop where
 op:∀ {H:Type} (enc:TypeId×Value→H) (w:World) (r:Reach) (b0:Nat) (vs:List Value) (ds:List (DataW H)) (ps:List MemPlace),DataW.TrodAll enc P w 0 (fun _=>true) true ts vs ds ps→(∀(j:Nat) t v,ts[j]?=some t→vs[j]?=some v→Value.okWide P w r b0 t v)→
  (∀n,n∈DataW.weightsEach P ts ds→n≤reachBytes)→∃x,d6 (fun b=>b<w.heap.size) w (c x) vs∧G x
theorem R3.nil:R3 P [] (fun _:Unit=> []) (fun _=>True):=by
 refine⟨fun enc w r b0 vs ds ps h _ _=> ?_⟩
 cases vs with
 |nil=>exact⟨(),trivial,trivial⟩
 |cons=>cases ds<;>simp [DataW.TrodAll]at h
theorem R3.agg {ts:List TypeId} {X Y:Type} {c:X→List D} {G:X→Prop} {c':Y→List D} {G':Y→Prop} (h:w3 P t c G) (hfl:∀x,A9 (c x)=true) (hu:(match P.underlying t with|some (.struct _)=>true|some (.array _ _)=>true|_=>false)=true) (hk:R3 P ts c' G'):
 R3 P (t::ts) (fun x:X×Y=> .agg (c x.1)::c' x.2) (fun x=>G x.1∧G' x.2):=by
 refine⟨fun enc w r b0 vs ds ps h0 hval hw=> ?_⟩
 obtain⟨v,vs',d,ds',p,q,rfl,rfl,rfl,h1,h2⟩:=Go.ChangeShapes.trodAll_cons h0
 simp only [DataW.weightsEach]at hw
 obtain⟨x,g1,g2⟩:=h.arg_agg hfl hu (hval 0 t v rfl rfl) h1 fun n hn=>hw n (List.mem_append_left _ hn)
 obtain⟨y,g3,g4⟩:=hk.op enc w r b0 vs' ds' q h2 (fun j t v ht hv=>hval (j+1) t v (by simpa using ht) (by simpa using hv)) fun n hn=>hw n (List.mem_append_right _ hn)
 exact⟨(x,y),⟨g1,g3⟩,g2,g4⟩
theorem R3.one {ts:List TypeId} {X Y:Type} {f:X→D} {G:X→Prop} {c':Y→List D} {G':Y→Prop} (h:w3 P t (fun x=> [f x]) G) (hu:(match P.underlying t with|some .bool=>true|some .string=>true|some (.int _)=>true|some (.slice _)=>true|_=>false)=true) (hk:R3 P ts c' G'):
 R3 P (t::ts) (fun x:X×Y=>f x.1::c' x.2) (fun x=>G x.1∧G' x.2):=by
 refine⟨fun enc w r b0 vs ds ps h0 hval hw=> ?_⟩
 obtain⟨v,vs',d,ds',p,q,rfl,rfl,rfl,h1,h2⟩:=Go.ChangeShapes.trodAll_cons h0
 simp only [DataW.weightsEach]at hw
 obtain⟨x,g1,g2⟩:=h.arg_one hu (hval 0 t v rfl rfl) h1 fun n hn=>hw n (List.mem_append_left _ hn)
 obtain⟨y,g3,g4⟩:=hk.op enc w r b0 vs' ds' q h2 (fun j t v ht hv=>hval (j+1) t v (by simpa using ht) (by simpa using hv)) fun n hn=>hw n (List.mem_append_right _ hn)
 exact⟨(x,y),⟨g1,g3⟩,g2,g4⟩
theorem b6A {X:Type} {c:X→List D} {G:X→Prop} {H:Type} {enc:TypeId×Value→H} {f:Func} {n:FuncId} {s:ChangeSpec} {W:World} {base:Nat} {args:Array Value} {ds gs:List (DataW H)} {before:List MemPlace} {tb:TypeId} {ts:List TypeId}
 (hop:R3 P ts c G) (hlaw:∀x,G x→d7 P n (c x) fun y=>y= .v (.bool true)) (hts:f.params.toList=ts)
 (hl:laidOutB P=true) (hr:(ts.all fun t=>P.readableRec t&&Nat.blt t P.types.size)=true) (hvars:s.vars= []) (hrt:f.resultTypes= #[tb]) (htb:P.underlying tb=some .bool)
 (hfn:∀ds:List (DataW H),ds.length=ts.length→(s.fn H ds).results= [.lit (.bool true)]∧(s.fn H ds).args=ds∧(s.fn H ds).vars= [])
 (hval:∀(j:Nat) t v,f.params[j]?=some t→args[j]?=some v→Value.okWide P W .any base t v) (hW:DataW.Whole enc P f.params.toList s.vars false W args.toList ds gs before)
 (hwt:(DataW.weightsEach P (f.params.toList++s.plain.varTypes P) (ds++gs)).all (· ≤reachBytes)=true):
 Calls P n args W fun e W'=>∃v,e= .returned v∧s.post enc P f false true false false W args v W':=by
 have hW0:=hW
 obtain⟨p,q,hA,hV,rfl,hfz,hnd⟩:=hW
 rw [hvars]at hV
 obtain⟨rfl,rfl⟩:gs= []∧q= []:=by
  cases gs with
  |nil=>exact⟨rfl,hV⟩
  |cons=>simp [DataW.TrodVars]at hV
 rw [hts]at hA
 have hlen:ds.length=ts.length:=by
  have:∀ {ts:List TypeId} {vs:List Value} {ds:List (DataW H)} {ps:List MemPlace},DataW.TrodAll enc P W 0 (fun _=>true) true ts vs ds ps→ds.length=ts.length:=by
   intro ts
   induction ts with
   |nil=>intro vs ds ps h;cases vs<;>cases ds<;>simp_all [DataW.TrodAll]
   |cons t ts ih=>
    intro vs ds ps h
    obtain⟨v,vs',d,ds',p,q,rfl,rfl,rfl,h1,h2⟩:=Go.ChangeShapes.trodAll_cons h
    simp [ih h2]
  exact this hA
 have hwt':∀m,m∈DataW.weightsEach P ts ds→m≤reachBytes:=by
  intro m hm
  have key:∀(ts r:List TypeId) (ds:List (DataW H)),m∈DataW.weightsEach P ts ds→m∈DataW.weightsEach P (ts++r) ds:=by
   intro ts r
   induction ts with
   |nil=>intro ds h;simp [DataW.weightsEach]at h
   |cons t ts ih=>
    intro ds h
    cases ds with
    |nil=>simp [DataW.weightsEach]at h
    |cons d ds=>
     simp only [List.cons_append,DataW.weightsEach]at h⊢
     rcases List.mem_append.1 h with h|h
     · exact List.mem_append_left _ h
     · exact List.mem_append_right _ (ih ds h)
  rw [hts,List.append_nil]at hwt
  simpa using List.all_eq_true.1 hwt m (key ts _ ds hm)
 obtain⟨x,h1,h2⟩:=hop.op enc W .any base args.toList ds p hA (fun j t v ht hv=>hval j t v (by rw [←hts]at ht;simpa using ht) (by simpa using hv)) hwt'
 obtain⟨f1,f2,f3⟩:=hfn (ds++ []) (by simpa using hlen)
 refine c3e (Ds:=c x) hl (fun t ht=> ?_) hvars hrt htb f1 (by simpa using f2) f3 hW0 h1 (hlaw x h2)
 rw [hts]at ht
 have:=List.all_eq_true.1 hr t ht
 simp only [Bool.and_eq_true,Nat.blt_eq]at this
 exact this
end
end Go.Sx
namespace Go.Sx
open Go Go.RowKit
theorem b1d {S E:Type} {body:S→Option (Sum S E)} (P:S→Prop) (μ:S→Nat) (Q:E→Prop) (h:∀s,P s→(∃e,body s=some (.inr e)∧Q e)∨(∃s',body s=some (.inl s')∧P s'∧μ s'<μ s)) (s0:S) (h0:P s0) (hf:μ s0<a7j):∃e,j4 body s0=some e∧Q e:=by
 have key:∀(n:Nat) (s:S),P s→μ s<n→∃e,a2j body n s=some e∧Q e:=by
  intro n
  induction n with
  |zero=>intro s _ hn;omega
  |succ n ih=>
   intro s hs hn
   rcases h s hs with⟨e,h1,h2⟩|⟨s',h1,h2,h3⟩
   · exact⟨e,by simp only [a2j,h1],h2⟩
   · obtain⟨e,h4,h5⟩:=ih s' h2 (by omega)
     exact⟨e,by simp only [a2j,h1,h4],h5⟩
 exact key a7j s0 h0 hf
theorem c0b {z:Int} (h: -9223372036854775808≤z∧z≤9223372036854775807):IntKind.i64.wrap z=z:=IntWalk.i64_in z h
theorem c5y {k:Nat} (h:k<9223372036854775807):IntKind.i64.wrap ((k:Int)+1)=((k+1:Nat):Int):=by rw [c0b (by omega)];rfl
section
variable {α : Type} (pr : α → Option Bool)
end
end Go.Sx
