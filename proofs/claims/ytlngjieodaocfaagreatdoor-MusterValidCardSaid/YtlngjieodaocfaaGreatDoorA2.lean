/- A reflective walk over the code of the model: its definitions and that it is sound. -/
import Derived.Test.YtlngjieodaocfaaGreatDoorA1
set_option linter.unusedVariables false
set_option linter.unusedSimpArgs false
namespace Go.Sx
open Go Go.RowKit
section
variable {X : Cx} {ops : Array Oper} {st : St} {a : Act} {w : World} {K : St → Prop} {o : Oper} {Q : Exit → Act → World → Prop}
theorem c2Z {dst:Option Nat} {s:SV} (h:put X st dst s K):put X st dst s fun st'=>K st'∧Sm st st'∧∀d,dst≠some d→a7l st.T d→a7l st'.T d:=by
 unfold put at*
 cases dst with
 |none=>exact⟨h,Sm.refl _,fun _ _ h=>h⟩
 |some d=>
  obtain⟨T,H,nk,w0,lo,iv⟩:=st
  simp only at*
  split at h
  · rename_i hd heq
    cases heq
    exact⟨h,⟨rfl,rfl,rfl,rfl,rfl⟩,fun e hne he=>a3u he fun x=>hne (by rw [x])⟩
  · exact h.elim
theorem Cls.add {H:Hp} {nk b ty:Nat} {ws:World} {cs:List SV} (hc:Cls X H nk ws w) (hfr:G0 nk H=true) (hb:w.heap[b]?=some (.cells (i0 H cs).toArray ty (0,0))) (hcs:M3 nk cs=false)
 (hn:b∉bs H) (hlb:X.w0.heap.size≤b):Cls X ((nk, .blk b cs ty)::H) (nk+1) ws w:=by
 refine⟨⟨hc.fx.os,hc.fx.tape,hc.fx.output,hc.fx.size,fun i hi hh=>hc.fx.block i hi fun c hc=>hh c (by simp [bs,hc])⟩,hc.fx0,fun k e hm=> ?_, ?_,fun c hcm=> ?_, ?_,fun k e hm=> ?_⟩
 · rcases List.mem_cons.1 hm with h|h
   · cases h
     refine⟨i0 H cs, ?_,hb⟩
     have:=a6l (H:=(nk, .blk b cs ty)::H) cs
     rwa [b6Q hcs]at this
   · have h1:=hc.own k e h
     cases e with
     |row v n xs sz ty=>exact h1
     |blk b' cs' ty'=>
      obtain⟨xs,h2,h3⟩:=h1
      exact⟨xs,a2x h2 fun s hs _=>b0r (b0N (a9j hfr h) hs),h3⟩
 · simp only [bs,bsE,List.singleton_append,List.nodup_cons]
   exact⟨hn,hc.nd⟩
 · simp only [bs,bsE,List.singleton_append,List.mem_cons]at hcm
   rcases hcm with rfl|hcm
   · exact .inr hlb
   · exact hc.lb c hcm
 · simp only [List.map_cons,List.nodup_cons]
   refine⟨fun hm=> ?_,hc.keys⟩
   obtain⟨⟨k,e'⟩,h1,h2⟩:=List.mem_map.1 hm
   have:=hc.lt k e' h1
   simp only at h2
   omega
 · rcases List.mem_cons.1 hm with h|h
   · cases h;omega
   · have:=hc.lt k e h;omega
theorem c1p {l:List (Nat×Nat)} (h:(l.map (·.2)).Nodup) {x y b:Nat} (h1:(x,b)∈l) (h2:(y,b)∈l):(x,b)=(y,b):=by
 induction l with
 |nil=>cases h1
 |cons p l ih=>
  simp only [List.map_cons,List.nodup_cons]at h
  rcases List.mem_cons.1 h1 with e1|m1<;>rcases List.mem_cons.1 h2 with e2|m2
  · rw [e1,e2]
  · subst e1;exact absurd (List.mem_map.2 ⟨(y,b),m2,rfl⟩:b∈l.map (·.2)) h.1
  · subst e2;exact absurd (List.mem_map.2 ⟨(x,b),m1,rfl⟩:b∈l.map (·.2)) h.1
  · exact ih h.2 m1 m2
theorem c4e {iv:List (Nat×Nat)} {b:Nat} (h:a6i iv b) {p:Nat×Nat} (hp:p∈iv) (h1:p.1≤b) (h2:b<p.2):False:=by
 induction iv with
 |nil=>cases hp
 |cons x l ih=>
  simp only [a6i]at h
  rcases List.mem_cons.1 hp with rfl|hp
  · omega
  · exact ih h.2 hp
theorem c7u {fl:Bool} {i:Nat} {op:Op} {pr:List (Nat×Option Nat)} {K:List (Nat×Option Nat)→Prop} {R E:List Nat} (h:rdP X fl i op st pr K) (hR:c6P st op R w) (hc:Cls X st.H st.nk st.w w)
 (hE:∀b,b∈E→X.w0.heap.size≤b∧st.lo≤b∧b∉bs st.H∧a6i st.iv b) (hfl:fl=true∨a7U op=false∨E= []):∃pr',K pr'∧(∀j,j≠i→a1Q pr' j=a1Q pr j)∧Rok st.H w pr' E i op R:=by
 have other:∀t:Option Nat,∀j,j≠i→a1Q ((i,t)::pr) j=a1Q pr j:=fun t j hj=>by simp [a1Q,Z1 (Ne.symm hj)]
 have same:∀t:Option Nat,a1Q ((i,t)::pr) i=some t:=fun t=>by simp [a1Q]
 unfold rdP at h
 split at h
 · rename_i t0 p
   split at h
   · rename_i s hs
     split at h
     · rename_i k hk
       refine⟨_,h,other _, ?_⟩
       rcases hR with rfl|⟨t,p',s',b,hop,hs',rfl,hlt,htag⟩|⟨_,_,_,_,hop⟩
       rotate_left 2
       · cases hop
       · exact .inl rfl
       · cases hop
         rw [hs]at hs';cases hs'
         rcases htag with⟨k',e,g1,g2,g3⟩|⟨g1,_⟩
         · rw [hk]at g1;cases g1
           refine .inr ⟨b,some k,rfl,rfl,same _,hlt,fun k' e' hm hne hb=> ?_,fun hb=>(hE b hb).2.2.1 (A7.2 ⟨k,e,n5 g2,g3⟩)⟩
           exact a4y hc.nd hc.keys (n5 g2) hm (Ne.symm hne) g3 hb
         · rw [hk]at g1;cases g1
     · rename_i hk
       have fin:∀(hb:∀b off,s= .v (.pointer (some ⟨b,off,none⟩))→b∉E),K ((i,none)::pr)→∃pr',K pr'∧(∀j,j≠i→a1Q pr' j=a1Q pr j)∧Rok st.H w pr' E i (.load t0 p) R:=by
        intro hb hK
        refine⟨_,hK,other _, ?_⟩
        rcases hR with rfl|⟨t,p',s',b,hop,hs',rfl,hlt,htag⟩|⟨_,_,_,_,hop⟩
        rotate_left 2
        · cases hop
        · exact .inl rfl
        · cases hop
          rw [hs]at hs';cases hs'
          rcases htag with⟨k',e,g1,g2,g3⟩|⟨g1,⟨off,g2⟩,g3⟩
          · rw [hk]at g1;cases g1
          · exact .inr ⟨b,none,rfl,rfl,same _,hlt,g3,hb b off g2⟩
       split at h
       · refine fin (fun b off _=> ?_) h
         rcases hfl with h1|h1|h1
         · cases h1
         · cases h1
         · rw [h1];simp
       · split at h
         · rename_i b _ _
           obtain⟨h1,h2⟩:=h
           refine fin (fun b' off hb hm=> ?_) h2
           cases hb
           obtain⟨g1,g2,_,g4⟩:=hE _ hm
           rcases h1 with h1|h1|⟨p,h1,h3,h5⟩
           · omega
           · omega
           · exact c4e g4 h1 h3 h5
         · exact h.elim
   · exact h.elim
 · exact h.elim
 · rename_i hno hnl
   refine⟨pr,h,fun _ _=>rfl, ?_⟩
   rcases hR with rfl|⟨t,p',s',b,hop,_⟩|⟨_,_,_,_,hop⟩
   · exact .inl rfl
   · exact absurd hop (hno t p')
   · exact absurd hop (hnl _ _ _ _)
theorem c5O {pr:List (Nat×Option Nat)} {S:List Nat} {k:Nat} (h:b7q pr S k=true) {j:Nat} (hj:j∈S) {t:Option Nat} (ht:a1Q pr j=some t):t≠some k:=by
 induction S with
 |nil=>cases hj
 |cons x S ih=>
  simp only [b7q]at h
  split at h
  · rename_i k' hk'
    split at h
    · cases h
    · rename_i hb
      rcases List.mem_cons.1 hj with rfl|hj
      · rw [hk']at ht;cases ht
        intro e;cases e;exact a2V hb rfl
      · exact ih h hj
  · rename_i hno
    rcases List.mem_cons.1 hj with rfl|hj
    · intro e;subst e;exact hno k ht
    · exact ih h hj
theorem c1o {o:Oper} (h:a7D o=true):E8 o=false:=by
 unfold E8;unfold a7D at h
 cases o.guard with
 |some g=>rfl
 |none=>cases hop:o.op<;>simp only [hop]at h⊢<;>first|rfl|cases h
theorem c2w {o:Oper} (h:a7D o=true):a1X o=false:=by
 unfold a7D at h
 unfold a1X
 cases hop:o.op<;>simp_all
 rename_i c
 cases hc:c.callee<;>simp_all
theorem b3g {ops:Array Oper}:∀ {p:PT} {L:List Nat},a3L ops L p=true→∀j,j<ops.size→j∉L→j∈b5M p
 | .nil,L,h,j,hj,hL=>by
  simp only [a3L]at h
  exact absurd (K2.1 (List.all_eq_true.1 h j (by simpa using hj))) hL
 | .op i S fl r,L,h,j,hj,hL=>by
  simp only [a3L]at h
  split at h
  · simp only [Bool.and_eq_true]at h
    by_cases e:j=i
    · simp [b5M,e]
    · exact List.mem_cons_of_mem _ (b3g h.2.2.2.2 j hj (by simp [e,hL]))
  · cases h
 | .fork (.op i S fl r) (.op k S' fl' r'),L,h,j,hj,hL=>by
  simp only [a3L]at h
  split at h
  · simp only [Bool.and_eq_true]at h
    simp only [b5M]
    by_cases e:j=i
    · simp [e]
    · exact List.mem_append_left _ (List.mem_cons_of_mem _ (b3g h.2.2.1 j hj (by simp [e,hL])))
  · cases h
 | .fork .nil _,L,h,_,_,_=>by simp [a3L]at h
 | .fork (.fork _ _) _,L,h,_,_,_=>by simp [a3L]at h
 | .fork (.op ..) .nil,L,h,_,_,_=>by simp [a3L]at h
 | .fork (.op ..) (.fork _ _),L,h,_,_,_=>by simp [a3L]at h
theorem c1x {ops:Array Oper} {T:List (Nat×SV)} {l:List Nat} {i:Nat} {o:Oper} {d:Nat} (hi:i∈l) (ho:ops[i]?=some o) (ha:E8 o=true) (hd:o.dst=some d):a7l (a2Y .bad ops.toList l T) d:=by
 induction l with
 |nil=>cases hi
 |cons k l ih=>
  intro s hs
  simp only [a2Y]at hs
  rcases List.mem_cons.1 hi with rfl|hi
  · simp only [b6k,Array.getElem?_toList,ho,ha,hd,y0]at hs
    simp at hs;exact hs.symm
  · split at hs
    · split at hs
      · simp only [y0]at hs
        split at hs
        · cases hs;rfl
        · exact ih hi s hs
      · exact ih hi s hs
    · exact ih hi s hs
theorem c0K {ops:List Oper} {T:List (Nat×SV)} {l:List Nat} {d:Nat} {s:SV} (h:y0 (a2Y .bad ops l T) d=some s):s= .bad∨y0 T d=some s:=by
 induction l with
 |nil=>exact .inr h
 |cons k l ih=>
  simp only [a2Y]at h
  split at h
  · split at h
    · simp only [y0]at h
      split at h
      · cases h;exact .inl rfl
      · exact ih h
    · exact ih h
  · exact ih h
theorem a9t {rest:PT} {i:Nat} {S:List Nat} {fl:Bool} {pr:List (Nat×Option Nat)} {K:St→List (Nat×Option Nat)→Prop} (h:b1A X ops.toList rest i S fl pr o st K) (hn:¬(a1X o=true∧fl=true)):ev1 X st o.op (b7u X i S fl pr o st K):=by
 cases hc:a1X o<;>cases fl<;>simp only [b1A,hc]at h<;>first|exact h|exact absurd ⟨hc,rfl⟩ hn
set_option maxHeartbeats 2000000 in
theorem b9g (hP:POK X.P X.tt) (hA:b0Q X.tt X.nt ops=true) (hN:ops.toList.all a8F=true) {H0:Hp} {w0:World} {fuel:Nat}
 (ihf:∀f,f<fuel→∀(plan:PT) (L:List Nat) (pend:List (Nat×Value)) (early:List (Nat×Nat)) (listed:Array Bool) (pr:List (Nat×Option Nat)) (st:St) (a:Act) (w:World),a3L ops L plan=true→Pl ops L (pend.map (·.1)) (early.map (·.1)) listed→
  Dy X ops H0 w0 L early st (K9 ops pend a) w→a0y X.P st.H w pr (early.map (·.2)) ops pend a→cnt ops listed≤f→a3A X ops.toList plan st pr K→wpAny X.P .any ops Q f listed a w)
 {i:Nat} {S:List Nat} {fl:Bool} {rest:PT} {L al:List Nat} {pend:List (Nat×Value)} {early:List (Nat×Nat)} {listed:Array Bool} {pr:List (Nat×Option Nat)} {st1:St} {a:Act} {w:World} {oi:Oper} (hi:ops[i]?=some oi) (hL:i∉L) (hdL:∀d,d∈S7 oi→d∈L)
 (hval:a7D oi=false) (hal:E8 oi=false) (hser:c0E ops al oi i S fl L=true) (hrest:a3L ops (i::L) rest=true) (hpl:Pl ops L (pend.map (·.1)) (early.map (·.1)) listed) (hdy1:Dy X ops H0 w0 L early st1 (K9 ops pend a) w) (hpo1:a0y X.P st1.H w pr (early.map (·.2)) ops pend a)
 (hw:Region.wanted oi (yielded ops (K9 ops pend a).tmps)=true) (hy:b1A X ops.toList rest i S fl pr oi st1 fun st pr=>a3A X ops.toList rest st pr K) {f:Nat} (hf:f<fuel) (hd:∀d,d∈S7 oi→Ls listed d) (hcj:cnt ops (listed.setIfInBounds i true)≤f):
 wpOp X.P ops Q i (wpAny X.P .any ops Q f (listed.setIfInBounds i true)) a w:=by
 have hr1:=hdy1.rel
 have heok1:=hdy1.eok
 have hdist:∀e,e∈early.map (·.1)→e≠i→∀oe d,ops[e]?=some oe→oe.dst=some d→oi.dst≠some d:=by
  intro e he hne oe d hoe hd
  obtain⟨oe',h1,h2,_⟩:=hpl.eA e he
  rw [hoe]at h1;cases h1
  obtain⟨_,_,d2,_,_,hd2,_,_,ho2⟩:=a3m hA hoe h2
  rw [hd]at hd2;cases hd2
  exact ho2 i oi hi (Ne.symm hne)
 have hdist2:∀e oe d,ops[e]?=some oe→E8 oe=true→e∉i::L→oe.dst=some d→oi.dst≠some d:=by
  intro e oe d hoe ha hne hd
  obtain⟨_,_,d2,_,_,hd2,_,_,ho2⟩:=a3m hA hoe ha
  rw [hd]at hd2;cases hd2
  exact ho2 i oi hi fun x=>hne (by rw [x];exact List.mem_cons_self)
 have hie:i∉early.map (·.1):=fun he=>by
  obtain⟨oe,h1,h2,_⟩:=hpl.eA i he
  rw [hi]at h1;cases h1
  rw [hal]at h2;cases h2
 have hap:=b3h hpl hi hL hd
 obtain⟨l1,l2⟩:=b0H hN hi hpo1 hap
 simp only [c0E,Bool.and_eq_true]at hser
 obtain⟨honly,hcl⟩:=hser
 by_cases hsem:a1X oi=true∧fl=true
 · obtain⟨hca,rfl⟩:=hsem
   simp only [b1A,hca]at hy
   simp only [hca,Bool.and_eq_true]at hcl
   have hld:=hcl
   have hE:∀b,b∈early.map (·.2)→b∉bs st1.H∧st1.lo≤b∧a6i st1.iv b∧b<w.heap.size:=fun b hb=>by
    obtain⟨⟨e,b'⟩,h1,rfl⟩:=List.mem_map.1 hb
    obtain⟨_,_,_,_,_,_,_,_,_,g5,_,g7,g8,g9,_⟩:=heok1.at_ e b' h1
    exact⟨g7,g8,g9,(Array.getElem?_eq_some_iff.1 g5).1⟩
   rcases a9S (Q:=Q) (a:=a) l1.symm (hy (early.map (·.2)) _ _ hr1 hE) (fun _ _ h=>by
    obtain⟨v,rfl,_,_,hl,_⟩:=h
    exact hl.rel.dfs.trans hr1.dfs.symm)with h|⟨_,_,h⟩
   case inr=>exact h.elim
   refine b6o hi (by rw [←l2];exact hw) (Oper.wp_mono (fun a' w' hh=> ?_) h)
   obtain⟨v,rfl,v',hv',st2,hK2,hlv,hlo,hkp⟩:=hh
   obtain⟨g1,g2⟩:=a5Y hN (v:=v) hpo1 hap
   obtain⟨T2,H2,nk2,w2,lo2,iv2⟩:=st2
   simp only at hK2
   have hrl:=hlv.rel
   have hbs2:∀b,b∈bs H2→b∈bs st1.H∨w.heap.size≤b:=hlv.bs
   refine ihf f hf rest (i::L) pend early _ pr ⟨a2Y .bad ops.toList (b5M rest) T2,H2,nk2,w2,lo2,iv2⟩ (a.put oi.dst v) w' hrest (hpl.exec hi hL hie hdL hd) ?_ ?_ hcj hK2
   · rw [g2]
     refine⟨⟨hrl.size,fun d s hs=>(c0K hs).elim .inl (hrl.T d s),hrl.dfs,hrl.cls,hrl.lo,hrl.iv⟩,⟨heok1.nd,heok1.ndb,fun e b hm=> ?_⟩,fun e oe d h1 h2 h3 h4=>c1x (b3g hrest e (a2C h1) h3) h1 h2 h4,Fx.trans hdy1.fx hlv.fx (fun _ h=>h) (fun b hb=>hdy1.bsn b hb),fun b hb=> ?_,hdy1.x0⟩
     · obtain⟨oe,t',d',zs',sl',h1,h2,h3,h4,h5,h6,h7,h8,h9,h10⟩:=heok1.at_ e b hm
       have hlt:b<w.heap.size:=(Array.getElem?_eq_some_iff.1 h5).1
       have hne:oi.dst≠some d':=hdist e (List.mem_map.2 ⟨_,hm,rfl⟩) (fun x=>hie (x▸List.mem_map.2 ⟨_,hm,rfl⟩)) oe d' h1 h3
       refine⟨oe,t',d',zs',sl',h1,h2,h3,h4,by rw [hlv.fx.block b hlt fun c hc e=>h7 (e▸hc)];exact h5, ?_,fun hb=> ?_,(hlo b (List.mem_map.2 ⟨_,hm,rfl⟩)).1,(hlo b (List.mem_map.2 ⟨_,hm,rfl⟩)).2,h10⟩
       · cases hdst:oi.dst with
         |none=>simpa [Act.put]using h6
         |some x=>
          simp only [Act.put]
          rw [Array.getElem?_setIfInBounds_ne (fun e=>hne (by rw [hdst,e]))];exact h6
       · rcases hbs2 b hb with h|h
         · exact h7 h
         · omega
     · rcases hbs2 b hb with h|h
       · exact hdy1.bsn b h
       · exact .inr (Nat.le_trans hdy1.fx.size h)
   · refine g1.move fun j hj oj hoj R hR=> ?_
     rcases hR with rfl|⟨c,tag,rfl,r1,r2,r3,r4,r5⟩
     · exact⟨.inl rfl,by simp⟩
     · have hjS:=hpl.late hd hld hj hoj r1
       obtain⟨hall,hkb⟩:=hkp (by cases S with|nil=>simp at hjS|cons _ _=>rfl)
       refine⟨.inr ⟨c,tag,rfl,r1,r2,Nat.lt_of_lt_of_le r3 hlv.fx.size, ?_,r5⟩,fun b hb=>by simp at hb;subst hb;exact hall _ r3⟩
       cases tag with
       |none=>
        intro hm
        rcases hbs2 c hm with h|h
        · exact r4 h
        · omega
       |some k=>
        intro k' e' hm hne hce
        rcases hkb k' e' hm c hce with h|⟨e0,h1,h2⟩
        · omega
        · exact r4 k' e0 h1 hne h2
 have hy:=a9t hy hsem
 obtain⟨out,hK,hout⟩:=b5D hP.tt hP.ng hr1.ev (a4m hr1.cls) hy
 simp only [b7u,hval,hal]at hK
 cases hca:a1X oi with
 |true=>
  simp only [hca]at hK
  cases out<;>try exact hK.elim
  rename_i g args
  rcases a9S (Q:=Q) (a:=a) l1.symm (c3V (Q:=fun _ _ _=>False) hK hout hr1) (fun _ _ h=>h.1.trans hr1.dfs.symm)with h|⟨_,_,h⟩
  case inr=>exact h.elim
  refine b6o hi (by rw [←l2];exact hw) (Oper.wp_mono (fun a' w' hh=> ?_) h)
  obtain⟨v,rfl,hdf,st2,hK2,hr2,hfx,hH,hnk,hfw,hlo,hiv,hdd2,hall⟩:=hh
  obtain⟨g1,g2⟩:=a5Y hN (v:=v) hpo1 hap
  refine ihf f hf rest (i::L) pend early _ pr st2 (a.put oi.dst v) w' hrest (hpl.exec hi hL hie hdL hd) ?_ ?_ hcj hK2
  · rw [g2]
    refine⟨hr2,heok1.next (o:=oi) (fun e hem oe d h1 h2=>hdist e hem (fun x=>hie (x▸hem)) oe d h1 h2) (fun b hb hn=>hfx.block b hb fun c hc e=>hn (e▸hc)) (fun b hb=>by rw [hH]at hb;exact .inl hb) hlo (fun b hb h=>by rw [hiv];exact⟨.inl hb,h⟩),
     fun e oe d h1 h2 h3 h4=>hdd2 d (hdist2 e oe d h1 h2 h3 h4) (hdy1.dd e oe d h1 h2 (fun x=>h3 (List.mem_cons_of_mem _ x)) h4),Fx.trans hdy1.fx hfx (fun _ h=>h) (fun b hb=>hdy1.bsn b hb),by rw [hH];exact hdy1.bsn,hdy1.x0⟩
  · rw [hH]
    refine g1.move fun j hj oj _ R hR=> ?_
    rcases hR with rfl|⟨c,tag,rfl,r1,r2,r3,r4,r5⟩
    · exact⟨.inl rfl,by simp⟩
    · exact⟨.inr ⟨c,tag,rfl,r1,r2,Nat.lt_of_lt_of_le r3 hfx.size,r4,r5⟩,fun b hb=>by simp at hb;subst hb;exact hall _ r3⟩
 |false=>
  simp only [hca]at hcl
  have hnc:∀f args,out≠ .call f args:=by
   intro f args e;subst e;simp [hca]at hK
  have hKs:fin X false st1 oi.dst (fun st=>a3A X ops.toList rest st pr K) out∧∀k,a6R out=some k→b7q pr S k=true:=by
   simp only [hca]at hK
   cases out with
   |call f args=>exact absurd rfl (hnc _ _)
   |_=>
    split at hK
    · rename_i k hk
      split at hK
      · rename_i hs;exact⟨hK,fun k' hk'=>by rw [hk]at hk';cases hk';exact hs⟩
      · exact hK.elim
    · rename_i hk;exact⟨hK,fun k' hk'=>by rw [hk]at hk';cases hk'⟩
  obtain⟨hK,hsep⟩:=hKs
  rcases a9S (Q:=Q) (a:=a) l1.symm (c3M (Q:=fun _ _ _=>False) hP.tt (c1S hnc hK) hout hr1) (fun a' w' ⟨_,_,h,_⟩=>h.dfs.trans hr1.dfs.symm)with h|⟨_,_,h⟩
  case inr=>exact h.elim
  refine b6o hi (by rw [←l2];exact hw) (Oper.wp_mono (fun a' w' hh=> ?_) h)
  obtain⟨v,rfl,st2,⟨hK2,htm⟩,hr2,hfx0,hkb⟩:=hh
  obtain⟨g1,g2⟩:=a5Y hN (v:=v) hpo1 hap
  have hfx:=hfx0.wide (fun b h=>c2G b h)
  have hbs:=hkb.bs
  refine ihf f hf rest (i::L) pend early _ pr st2 (a.put oi.dst v) w' hrest (hpl.exec hi hL hie hdL hd) ?_ ?_ hcj hK2
  · rw [g2]
    refine⟨hr2,heok1.next (o:=oi) (fun e hem oe d h1 h2=>hdist e hem (fun x=>hie (x▸hem)) oe d h1 h2) (fun b hb hn=>hfx.block b hb fun c hc e=>hn (e▸hc)) hbs htm.lo (fun b hb h=>by rw [htm.iv];exact h),
     fun e oe d h1 h2 h3 h4=>htm.dd d (hdist2 e oe d h1 h2 h3 h4) (hdy1.dd e oe d h1 h2 (fun x=>h3 (List.mem_cons_of_mem _ x)) h4),Fx.trans hdy1.fx hfx (fun _ h=>h) (fun b hb=>hdy1.bsn b hb),fun b hb=> ?_,hdy1.x0⟩
    rcases hbs b hb with h|h
    · exact hdy1.bsn b h
    · exact .inr (Nat.le_trans hdy1.fx.size h)
  · refine g1.move fun j hj oj hoj R hR=> ?_
    rcases hR with rfl|⟨c,tag,rfl,r1,r2,r3,r4,r5⟩
    · exact⟨.inl rfl,by simp⟩
    · have hjS:=hpl.late hd hcl hj hoj r1
      have hnch:c∉chB st1.H out:=by
       intro hm
       unfold chB at hm
       cases hko:a6R out with
       |none=>simp [hko]at hm
       |some k=>
        simp only [hko]at hm
        have hne:=c5O (hsep k hko) hjS r2
        split at hm
        · rename_i e he
          cases tag with
          |none=>exact r4 (A7.2 ⟨k,e,n5 he,hm⟩)
          |some k'=>exact r4 k e (n5 he) (fun x=>hne (by rw [x])) hm
        · cases hm
      refine⟨.inr ⟨c,tag,rfl,r1,r2,Nat.lt_of_lt_of_le r3 hfx.size, ?_,r5⟩,fun b hb=>by simp at hb;subst hb;exact hfx0.block _ r3 fun x hx e=>hnch (e▸hx)⟩
      cases tag with
      |none=>
       intro hm
       rcases hbs c hm with h|h
       · exact r4 h
       · omega
      |some k=>
       intro k' e' hm hne hce
       rcases hkb k' e' hm c hce with h|⟨e0,h1,h2⟩
       · omega
       · exact r4 k' e0 h1 hne h2
set_option maxHeartbeats 2000000 in
theorem c4w (hP:POK X.P X.tt) (hA:b0Q X.tt X.nt ops=true) (hN:ops.toList.all a8F=true) {H0:Hp} {w0:World} (hQ:∀st' a' w',K st'→Lv X H0 w0 st' a' w'→Q .normal a' w'):
 ∀(fuel:Nat) (plan:PT) (L:List Nat) (pend:List (Nat×Value)) (early:List (Nat×Nat)) (listed:Array Bool) (pr:List (Nat×Option Nat)) (st:St) (a:Act) (w:World),a3L ops L plan=true→Pl ops L (pend.map (·.1)) (early.map (·.1)) listed→
  Dy X ops H0 w0 L early st (K9 ops pend a) w→a0y X.P st.H w pr (early.map (·.2)) ops pend a→cnt ops listed≤fuel→a3A X ops.toList plan st pr K→wpAny X.P .any ops Q fuel listed a w:=by
 intro fuel
 induction fuel using Nat.strongRecOn with
 |_ fuel ihf=>
 intro plan
 induction plan with
 |nil=>
  intro L pend early listed pr st a w hp hpl hdy hpo hc hx
  have hall:∀j,j<ops.size→j∈L:=fun j hj=>K2.1 (List.all_eq_true.1 hp j (by simpa using hj))
  have he:early= []:=by
   cases early with
   |nil=>rfl
   |cons p r=>
    obtain⟨o,h1,_⟩:=hpl.eA p.1 (by simp)
    exact absurd (hall _ (a2C h1)) (hpl.eL p.1 (by simp))
  subst he
  by_cases hpk:pend= []
  · subst hpk
    have hr:Region.ready .any ops listed= []:=by
     rw [List.eq_nil_iff_forall_not_mem]
     intro j hj
     obtain⟨oj,hoj,_,_,hor⟩:=hpl.ready hj
     rcases hor with h|h
     · cases h
     · exact h (hall j (a2C hoj))
    exact wpAny_done hr (hQ st a w hx ⟨hdy.rel,hdy.fx,hdy.bsn⟩) fuel
  · refine a9f hpl.sz hc (hpl.pend_ready (by simpa using hpk)) fun f hf j hj hcj=> ?_
    obtain⟨oj,hoj,hd,_,hor⟩:=hpl.ready hj
    have hjp:=hor.resolve_right fun h=>h (hall j (a2C hoj))
    exact b2U hN hpl hpo hoj hd hjp fun pend' a' h1 h2 h3=>ihf f (by omega) .nil L pend' [] _ pr st a' w hp h1 (by rw [h2];exact hdy) h3 hcj hx
 |fork x y ih1 ih2=>
  clear ih1 ih2
  intro L pend early listed pr st a w hp hpl hdy hpo hc hx
  have hp0:=hp
  have hx0:=hx
  rcases x with _|⟨i,S,fl,r⟩|_<;>rcases y with _|⟨j,S',fl',r'⟩|_<;>simp only [a3L,Bool.false_eq_true]at hp
  split at hp
  case h_2=>cases hp
  rename_i oi oj hi hj
  simp only [Bool.and_eq_true,c2u,Bool.not_eq_true']at hp
  obtain⟨⟨iL,id,iv,ia,ig,is⟩,⟨jL,jd,jv,ja,jg,js⟩,ir,jr⟩:=hp
  have ig:oi.guard=none:=by cases h:oi.guard with|none=>rfl|some _=>rw [h]at ig;cases ig
  have jg:oj.guard=none:=by cases h:oj.guard with|none=>rfl|some _=>rw [h]at jg;cases jg
  have iL:i∉L:=fun h=>by rw [K2.2 h]at iL;cases iL
  have jL:j∉L:=fun h=>by rw [K2.2 h]at jL;cases jL
  have id:=a4I.1 id
  have jd:=a4I.1 jd
  simp only [a3A,b6k,Array.getElem?_toList,hi,hj,ig,jg,a6F]at hx
  have hie:i∉early.map (·.1):=fun he=>by
   obtain⟨oe,h1,h2,_⟩:=hpl.eA i he
   rw [hi]at h1;cases h1
   rw [ia]at h2;cases h2
  have hne:Region.ready .any ops listed≠ []:=by
   by_cases hpk:pend= []
   · subst hpk;exact hpl.head_ready hi iL hie id
   · exact hpl.pend_ready (by simpa using hpk)
  refine a9f hpl.sz hc hne fun f hf k hk hck=> ?_
  obtain⟨ok,hok,hd,hke,hor⟩:=hpl.ready hk
  rcases hor with hkp|hkL
  · exact b2U hN hpl hpo hok hd hkp fun pend' a' h1 h2 h3=>ihf f (by omega) _ L pend' early _ pr st a' w hp0 h1 (by rw [h2];exact hdy) h3 hck hx0
  · have his:=is
    simp only [c0E,Bool.and_eq_true]at his
    rcases hpl.only his.1 hok hkL hd with rfl|hka|hkj
    · rw [hi]at hok;cases hok
      exact b9g hP hA hN ihf hi iL id iv ia is ir hpl hdy hpo (by simp [Region.wanted,ig]) hx.1 (by omega) hd hck
    · obtain⟨ha,hdl⟩:=b1I hka hok
      exact b3p hP.tt hA hN hpl hdy hpo hok hkL hke ha hd hdl fun early' a' w' h1 h2 h3=>ihf f (by omega) _ L pend early' _ pr st a' w' hp0 h1 h2 h3 hck hx0
    · simp at hkj;subst hkj
      rw [hj]at hok;cases hok
      exact b9g hP hA hN ihf hj jL jd jv ja js jr hpl hdy hpo (by simp [Region.wanted,jg]) hx.2 (by omega) hd hck
 |op i S fl rest ih=>
  intro L pend early listed pr st a w hp hpl hdy hpo hc hx
  have hp0:=hp
  simp only [a3L]at hp
  split at hp
  case h_2=>cases hp
  rename_i oi hi
  simp only [Bool.and_eq_true]at hp
  obtain⟨hL,hdL,hfree,hkind,hrest⟩:=hp
  have hL:i∉L:=fun h=>by rw [K2.2 h]at hL;cases hL
  have hdL:=a4I.1 hdL
  have hx0:=hx
  simp only [a3A,b6k,Array.getElem?_toList,hi]at hx
  obtain⟨st1,hsm,hdd,hr1,hg⟩:=b3I hx hdy.rel
  have hpo1:a0y X.P st1.H w pr (early.map (·.2)) ops pend a:=by rw [hsm.H];exact hpo
  have heok1:a9D X w0 st1 ops (K9 ops pend a) w early:=⟨hdy.eok.nd,hdy.eok.ndb,fun i b hm=>by rw [hsm.H,hsm.lo,hsm.iv];exact hdy.eok.at_ i b hm⟩
  have hdy1:Dy X ops H0 w0 L early st1 (K9 ops pend a) w:=⟨hr1,heok1,fun i oi d h1 h2 h3 h4=>hdd d (hdy.dd i oi d h1 h2 h3 h4),hdy.fx,by rw [hsm.H];exact hdy.bsn,hdy.x0⟩
  have hdist:∀e,e∈early.map (·.1)→e≠i→∀oe d,ops[e]?=some oe→oe.dst=some d→oi.dst≠some d:=by
   intro e he hne oe d hoe hd
   obtain⟨oe',h1,h2,_⟩:=hpl.eA e he
   rw [hoe]at h1;cases h1
   obtain⟨_,_,d2,_,_,hd2,_,_,ho2⟩:=a3m hA hoe h2
   rw [hd]at hd2;cases hd2
   exact ho2 i oi hi (Ne.symm hne)
  have hdist2:∀e oe d,ops[e]?=some oe→E8 oe=true→e∉i::L→oe.dst=some d→oi.dst≠some d:=by
   intro e oe d hoe ha hne hd
   obtain⟨_,_,d2,_,_,hd2,_,_,ho2⟩:=a3m hA hoe ha
   rw [hd]at hd2;cases hd2
   exact ho2 i oi hi fun x=>hne (by rw [x];exact List.mem_cons_self)
  have hipk:∀j,j∈pend.map (·.1)→j≠i:=fun j hj e=>hL (e▸hpl.pL j hj)
  have virt:∀(pr':List (Nat×Option Nat)) (v:Value) (s:SV),(∀j,j≠i→a1Q pr' j=a1Q pr j)→(s= .bad∨v=den st1.H s)→put X st1 oi.dst s (fun st=>a3A X ops.toList rest st pr' K)→b9M ops oi i L=true→i∉early.map (·.1)→
   Yl X.P st1.H w pr' (early.map (·.2)) ops i oi v (K9 ops pend a)→wpAny X.P .any ops Q fuel listed a w:=by
   intro pr' v s hpr hv hput hf he hy
   obtain⟨st2,⟨hK2,hs2,hdd2⟩,hr2,hH2⟩:=a2F hr1 (c2Z hput) hv
   have hpa:K9 ops ((i,v)::pend) a=(K9 ops pend a).put oi.dst v:=by simp [K9,b9k,hi]
   refine ih (i::L) ((i,v)::pend) early listed pr' st2 a w hrest (hpl.virt hi hL he hdL hf) ?_ ?_ hc hK2
   · rw [hpa]
     refine⟨hr2,heok1.next (o:=oi) (fun e hem oe d h1 h2=>hdist e hem (fun x=>he (x▸hem)) oe d h1 h2) (fun _ _ _=>rfl) (fun b hb=>by rw [hs2.H]at hb;exact .inl hb) hs2.lo (fun b _ h=>by rw [hs2.iv];exact h),
      fun e oe d h1 h2 h3 h4=>hdd2 d (hdist2 e oe d h1 h2 h3 h4) (hdy1.dd e oe d h1 h2 (fun x=>h3 (List.mem_cons_of_mem _ x)) h4),hdy.fx,by rw [hs2.H];exact hdy1.bsn,hdy.x0⟩
   · rw [hs2.H]
     refine⟨⟨oi,hi,hy,fun q hq oq hoq=>hpl.pfree q.1 (List.mem_map.2 ⟨q,hq,rfl⟩) oq hoq i oi hi hL⟩,hpo1.move fun j hj oj _ R hR=>⟨?_,fun _ _=>rfl⟩⟩
     rcases hR with rfl|⟨b,tag,r0,r1,r2,r3⟩
     · exact .inl rfl
     · exact .inr ⟨b,tag,r0,r1,by rw [hpr j (hipk j hj)];exact r2,r3⟩
  have hnek:E8 oi=false→i∉early.map (·.1):=fun h he=>by
   obtain⟨oe,h1,h2,_⟩:=hpl.eA i he
   rw [hi]at h1;cases h1
   rw [h]at h2;cases h2
  rcases hg with⟨hw,hy⟩|⟨hw,hno⟩
  case inr=>
   have hgs:oi.guard.isSome=true:=by
    cases hgd:oi.guard with
    |none=>simp [Region.wanted,hgd]at hw
    |some g=>rfl
   have hna:E8 oi=false:=by
    cases hgd:oi.guard with
    |none=>simp [hgd]at hgs
    |some g=>
     unfold E8
     rw [hgd]
   refine virt pr undef (.v undef) (fun _ _=>rfl) (.inr rfl) hno ?_ (hnek hna) (.inr ⟨hw,rfl⟩)
   simpa [hgs]using hfree
  case inl=>
  cases hval:a7D oi with
  |true=>
   have hna:E8 oi=false:=c1o hval
   have hy:=a9t hy fun h=>by rw [c2w hval]at h;cases h.1
   obtain⟨out,hK,hout⟩:=b5D hP.tt hP.ng hr1.ev (a4m hr1.cls) hy
   simp only [b7u,hval]at hK
   cases out<;>try exact hK.elim
   rename_i s
   obtain⟨R,hRd,hrun⟩:=hout.2 w hr1.cls
   simp only [hval,Bool.or_eq_true,Bool.not_eq_true']at hkind
   obtain⟨pr',hput,hpr,hRok⟩:=c7u (E:=early.map (·.2)) hK hRd hr1.cls (fun b hb=>by
    obtain⟨⟨e,b'⟩,h1,rfl⟩:=List.mem_map.1 hb
    obtain⟨_,_,_,_,_,_,_,_,_,_,_,g7,g8,g9,g10⟩:=heok1.at_ e b' h1
    exact⟨Nat.le_trans hdy.x0 g10,g8,g7,g9⟩) (by
    rcases hkind with h|h|h
    · exact .inl h
    · exact .inr (.inl h)
    · right;right
      cases hear:early with
      |nil=>rfl
      |cons p r=>
       exfalso
       obtain⟨o,h1,h2,_⟩:=hpl.eA p.1 (by rw [hear];simp)
       have:=List.all_eq_true.1 h p.1 (by simpa using a2C h1)
       simp only [h1,h2,Bool.not_true,Bool.or_false,K2]at this
       exact hpl.eL p.1 (by rw [hear];simp) this)
   refine virt pr' (den st1.H s) s hpr (.inr rfl) hput ?_ (hnek hna) (.inl ⟨hw,R,hRok,hrun⟩)
   simpa [hval]using hfree
  |false=>
  simp only [hval]at hkind
  have step:(∀j oj,ops[j]?=some oj→j∉L→(∀d,d∈S7 oj→Ls listed d)→j=i∨j∈a1k ops L)→i∉early.map (·.1)→
   (∀f,f<fuel→(∀d,d∈S7 oi→Ls listed d)→cnt ops (listed.setIfInBounds i true)≤f→wpOp X.P ops Q i (wpAny X.P .any ops Q f (listed.setIfInBounds i true)) a w)→wpAny X.P .any ops Q fuel listed a w:=by
   intro hcase hie hex
   have hne:Region.ready .any ops listed≠ []:=by
    by_cases hpk:pend= []
    · subst hpk;exact hpl.head_ready hi hL hie hdL
    · exact hpl.pend_ready (by simpa using hpk)
   refine a9f hpl.sz hc hne fun f hf j hj hcj=> ?_
   obtain⟨oj,hoj,hd,hje,hor⟩:=hpl.ready hj
   rcases hor with hjp|hjL
   · exact b2U hN hpl hpo hoj hd hjp fun pend' a' h1 h2 h3=>ihf f (by omega) _ L pend' early _ pr st a' w hp0 h1 (by rw [h2];exact hdy) h3 hcj hx0
   · rcases hcase j oj hoj hjL hd with rfl|hja
     · rw [hi]at hoj;cases hoj
       exact hex f (by omega) hd hcj
     · obtain⟨ha,hdl⟩:=b1I hja hoj
       exact b3p hP.tt hA hN hpl hdy hpo hoj hjL hje ha hd hdl fun early' a' w' h1 h2 h3=>ihf f (by omega) _ L pend early' _ pr st a' w' hp0 h1 h2 h3 hcj hx0
  cases hal:E8 oi with
  |true=>
   simp only [hal]at hkind
   by_cases hin:i∈early.map (·.1)
   · obtain⟨⟨i',b⟩,hm,rfl⟩:=List.mem_map.1 hin
     obtain⟨oe,t,d,zs,sl,h1,hAl,hdst,_,h5,h6,h7,h8,h9,h10⟩:=heok1.at_ _ b hm
     simp only at hi
     rw [hi]at h1;cases h1
     have hnc:=hAl.call
     have hy:=hAl.ev st1 _ (a9t hy fun h=>by rw [hnc]at h;cases h.1)
     simp only [b7u,hval,hal,fin]at hy
     obtain⟨T,H,nk,ws,lo,iv⟩:=st1
     simp only at hy
     split at hy
     case h_2=>exact hy.elim
     rename_i f1 f2 f3
     have ha':(K9 ops pend a).put oi.dst (alV sl b)=K9 ops pend a:=by
      rw [hdst]
      generalize K9 ops pend a=A at h6
      have:A.tmps.setIfInBounds d (alV sl b)=A.tmps:=by
       apply Array.ext_getElem?
       intro k
       by_cases hk:d=k
       · subst hk
         have hlt:=(Array.getElem?_eq_some_iff.1 h6).1
         rw [h6];simp [hlt]
       · rw [Array.getElem?_setIfInBounds_ne hk]
      simp [Act.put,this]
     have tail:∀(e:Ent) (s:SV),bsE e= [b]→a5r 0 ((nk,e)::H) w e→den ((nk,e)::H) s=alV sl b→put X ⟨T,(nk,e)::H,nk+1,ws,lo,iv⟩ oi.dst s (fun st=>a3A X ops.toList rest st pr K)→wpAny X.P .any ops Q fuel listed a w:=by
      intro e s hbe hent hden hput
      have hbeE:=hbe
      have hrel:Rel X ⟨T,(nk,e)::H,nk+1,ws,lo,iv⟩ (K9 ops pend a) w:=hr1.consG f1 f2 hent (fun c hc=>by rw [hbe]at hc;rw [List.mem_singleton.1 hc];exact⟨Nat.le_trans hdy1.x0 h10,h7⟩) (by rw [hbe];simp)
      obtain⟨st2,⟨hK2,hs2,hdd2⟩,hr2,hH2⟩:=a2F hrel (c2Z hput) (v:=alV sl b) (.inr hden.symm)
      rw [ha']at hr2
      refine ih (i'::L) pend (early.filter fun p=> !Nat.beq p.1 i') listed pr st2 a w hrest ?_ ?_ ?_ hc hK2
      · have hf:(early.filter fun p=> !Nat.beq p.1 i').map (·.1)=(early.map (·.1)).filter fun p=> !Nat.beq p i':=by
         rw [List.filter_map];rfl
        rw [hf]
        exact hpl.inst hi hin hdL
      · refine⟨hr2,⟨?_, ?_,fun e be hmm=> ?_⟩,fun e oe d' g1 g2 g3 g4=>hdd2 d' (fun x=>hdist2 e oe d' g1 g2 g3 g4 x) (hdy1.dd e oe d' g1 g2 (fun x=>g3 (List.mem_cons_of_mem _ x)) g4),hdy.fx,fun c hcm=> ?_,hdy.x0⟩
        · exact heok1.nd.sublist (List.Sublist.map _ List.filter_sublist)
        · exact heok1.ndb.sublist (List.Sublist.map _ List.filter_sublist)
        · obtain⟨hmf,hnei⟩:=List.mem_filter.1 hmm
          have hnei:e≠i':=fun x=>by subst x;simp at hnei
          obtain⟨oe,t',d',zs',sl',g1,g2,g3,g4,g5,g6,g7,g8,g9,g10⟩:=heok1.at_ e be hmf
          refine⟨oe,t',d',zs',sl',g1,g2,g3,g4,g5,g6,fun hb=> ?_,by rw [hs2.lo];exact g8,by rw [hs2.iv];exact g9,g10⟩
          rw [hs2.H]at hb
          simp only [bs,hbeE,List.singleton_append,List.mem_cons]at hb
          rcases hb with rfl|hb
          · have hnd:=heok1.ndb
            exact hnei (congrArg Prod.fst (c1p hnd hmf hm))
          · exact g7 hb
        · rw [hs2.H]at hcm
          simp only [bs,hbe,List.singleton_append,List.mem_cons]at hcm
          rcases hcm with rfl|hcm
          · exact .inr h10
          · exact hdy1.bsn c hcm
      · rw [hs2.H]
        refine hpo1.move fun j hj oj _ R hR=>⟨?_,fun _ _=>rfl⟩
        rcases hR with rfl|⟨c,tag,r0,r1,r2,r3,r4,r5⟩
        · exact .inl rfl
        · have hcb:c≠b:=fun e=>r5 (List.mem_map.2 ⟨(i',b),hm,e.symm⟩)
          refine .inr ⟨c,tag,r0,r1,r2,r3, ?_,fun hm2=>r5 ?_⟩
          · cases tag with
            |none=>
             simp only [c5f,bs,hbe,List.singleton_append,List.mem_cons,not_or]
             exact⟨hcb,r4⟩
            |some k=>
             intro k' e' hm2 hne hc2
             rcases List.mem_cons.1 hm2 with h|h
             · cases h;rw [hbe,List.mem_singleton]at hc2;exact hcb hc2
             · exact r4 k' e' h hne hc2
          · obtain⟨q,h1,h2⟩:=List.mem_map.1 hm2
            exact List.mem_map.2 ⟨q,(List.mem_filter.1 h1).1,h2⟩
     rcases hy with hy|⟨n,sz,⟨hn,hl,hmx,ho⟩,hy⟩
     · refine tail (.blk b (vs zs) t) (match alN sl with|none=> .own nk 0|some n=> .osl nk 0 n n) rfl ?_ ?_ (hy b h8 h9)
       · exact⟨zs,(by have h:=a6l (H:=(nk,Ent.blk b (vs zs) t)::H) (vs zs);rwa [L6]at h),h5⟩
       · cases sl
         · simp [alN,den,bOf,c9,alV]
         · simp [alN,den,bOf,c9,alV,m8,b2H,undef]
     · cases sl with
       |false=>cases hn
       |true=>
        cases hn
        have hz:=hAl.nil rfl
        subst hz
        refine tail (.row (.slice (some ⟨b,0,none⟩) 0 0) 0 (i0 H (vs [])) sz t) (.row nk) rfl ?_ ?_ (hy b h8 h9)
        · refine⟨by simp [vs,i0], .inr ⟨b,0, #[],rfl,Nat.zero_le _,h5,Nat.le_refl _,by decide,by simp,by simp [vs,i0]⟩⟩
        · simp [den,m8,c9,alV]
   · exact step (fun j oj hoj hjL hd=>hpl.turn hkind hoj hjL hd hin) hin fun f hf hd hcj=>
      b3p hP.tt hA hN hpl hdy hpo hi hL hin hal hd hdL fun early' a' w' h1 h2 h3=>ihf f hf _ L pend early' _ pr st a' w' hp0 h1 h2 h3 hcj hx0
  |false=>
   simp only [hal]at hkind
   have hks:=hkind
   simp only [c0E,Bool.and_eq_true]at hks
   exact step (fun j oj hoj hjL hd=>by
    rcases hpl.only hks.1 hoj hjL hd with h|h|h
    · exact .inl h
    · exact .inr h
    · cases h) (hnek hal) fun f hf hd hcj=>b9g hP hA hN ihf hi hL hdL hval hal hkind hrest hpl hdy1 hpo1 hw hy hf hd hcj
end
end Go.Sx
namespace Go.Sx
open Go Go.RowKit
section
variable {X : Cx} {st : St} {a : Act} {w : World} {Q : Exit → Act → World → Prop}
theorem c1q {ops:List Oper} {T:List (Nat×SV)} {d:Nat} {s:SV} (h:y0 (a5v ops T) d=some s):s= .bad∨y0 T d=some s:=by
 induction ops with
 |nil=>exact .inr h
 |cons o l ih=>
  simp only [a5v]at h
  split at h
  · simp only [y0]at h
    split at h
    · cases h;exact .inl rfl
    · exact ih h
  · exact ih h
theorem c0U {ops:List Oper} {T:List (Nat×SV)} {o:Oper} (hm:o∈ops) (ha:E8 o=true) {d:Nat} (hd:o.dst=some d):a7l (a5v ops T) d:=by
 intro s hs
 induction ops with
 |nil=>cases hm
 |cons x l ih=>
  simp only [a5v]at hs
  rcases List.mem_cons.1 hm with rfl|hm
  · simp only [ha,hd,y0]at hs
    simp at hs;exact hs.symm
  · split at hs
    · simp only [y0]at hs
      split at hs
      · cases hs;rfl
      · exact ih hm hs
    · exact ih hm hs
theorem Rel.kill {T:List (Nat×SV)} {H:Hp} {nk lo lo':Nat} {ws:World} {iv:List (Nat×Nat)} {T':List (Nat×SV)} (hr:Rel X ⟨T,H,nk,ws,lo,iv⟩ a w) (hT:∀d s,y0 T' d=some s→s= .bad∨y0 T d=some s) (hlo:lo'≤w.heap.size):Rel X ⟨T',H,nk,ws,lo', []⟩ a w:=
 ⟨hr.size,fun d s h=>by
  rcases hT d s h with h|h
  · exact .inl h
  · exact hr.T d s h,hr.dfs,hr.cls,hlo,by simp⟩
theorem a3O (hP:POK X.P X.tt) {ops:Array Oper} {T:List (Nat×SV)} {H:Hp} {nk lo:Nat} {ws:World} {iv:List (Nat×Nat)} {p:PT} {K:St→Prop} (hr:Rel X ⟨T,H,nk,ws,lo,iv⟩ a w) (hp:a6r X.tt X.nt ops p=true)
 (h:a3A X ops.toList p ⟨a5v ops.toList T,H,nk,ws,ws.heap.size, []⟩ [] K) (hQ:∀st' a' w',K st'→Lv X H w st' a' w'→Q .normal a' w'):wpAny X.P .any ops Q ops.size (Array.replicate ops.size false) a { w with drawn:=w.drawn+1}:=by
 simp only [a6r,Bool.and_eq_true]at hp
 obtain⟨hp,hA,hN⟩:=hp
 have hd:Fx (bs H) w { w with drawn:=w.drawn+1}:=⟨rfl,rfl,rfl,Nat.le_refl _,fun _ _ _=>rfl⟩
 have hcls:Cls X H nk ws { w with drawn:=w.drawn+1}:=by
  have hc:=hr.cls
  refine⟨hc.fx.drew,hc.fx0.drew,fun k e hm=> ?_,hc.nd,hc.lb,hc.keys,hc.lt⟩
  exact V8 (hc.own k e hm) fun _ _=>rfl
 have hr0:Rel X ⟨T,H,nk,ws,lo,iv⟩ a { w with drawn:=w.drawn+1}:=⟨hr.size,hr.T,hr.dfs,hcls,hr.lo,hr.iv⟩
 have hr1:Rel X ⟨a5v ops.toList T,H,nk,ws,ws.heap.size, []⟩ a { w with drawn:=w.drawn+1}:=hr0.kill (fun d s h=>c1q h) hr.cls.fx.size
 have hcnt:cnt ops (Array.replicate ops.size false)≤ops.size:=by
  unfold cnt
  exact Nat.le_trans List.countP_le_length (by simp)
 refine c4w (L:= []) (pend:= []) (early:= []) (H0:=H) (w0:=w) (K:=K) hP hA hN (fun st' a' w' hk hl=>hQ st' a' w' hk hl) ops.size p _ [] _ a _ hp ?_ ?_ trivial hcnt h
 · refine⟨by simp,by simp,fun j=> ?_,by simp,by simp,by simp,fun j o hj=> ?_,by simp,by simp,by simp,by simp,by simp⟩
   · simp only [List.not_mem_nil,false_and,List.map_nil,or_self,iff_false]
     unfold Ls;simp [Array.getElem?_replicate];split<;>simp
   · exfalso;unfold Ls at hj;simp [Array.getElem?_replicate]at hj;split at hj<;>simp at hj
 · refine⟨hr1,⟨by simp,by simp,by simp⟩,fun i oi d h1 h2 _ h4=> ?_,hd,fun b hb=> .inl hb,hr.cls.fx0.size⟩
   exact c0U (List.mem_of_getElem? (by simpa using h1)) h2 h4
def plain:Exit→Prop
 | .normal=>True
 | .exit _=>True
 | .ret=>True
 |_=>False
theorem b2E (hT:a5D X.P X.tt) (hr:Rel X st a w):∀(l:List ResultVar) (r:List SV),a8H X st l=some r→
 (l.mapM (fun| .tmp t=>pure (a.tmps.getD t undef)| .cell b t=>do loadVar t (←asAddr (a.tmps.getD b undef)):ResultVar→Sem Value)).run X.P w= .ok (i0 st.H r) w∧ .bad∉r
 | [],r,h=>by cases h;exact⟨rfl,by simp⟩
 | .tmp t::l,r,h=>by
  simp only [a8H]at h
  split at h
  · cases h
  · rename_i s l' hnb hs hl
    cases h
    obtain⟨ih1,ih2⟩:=b2E hT hr l _ hl
    have hv:a.tmps[t]?=some (den st.H s):=by
     obtain⟨hlt,hs⟩:=W8 hs
     rcases hr.T t s hs with h|h
     · exact(hnb h).elim
     · rwa [P7,if_pos hlt]at h
    refine⟨?_,by simp only [List.mem_cons,not_or];exact⟨fun e=>hnb e.symm,ih2⟩⟩
    have ha:a.tmps.getD t undef=den st.H s:=by simp [hv]
    simp only [List.mapM_cons,Sem.run_bind,Sem.run_pure,ha,Result.andThen_ok,ih1,i0]
  · cases h
 | .cell b t::l,r,h=>by
  simp only [a8H]at h
  split at h
  · rename_i i k o l' hi hs hl
    split at h
    · rename_i bb cs ty hf
      split at h
      · rename_i c hc
        split at h
        · rename_i s hm
          cases h
          obtain⟨ih1,ih2⟩:=b2E hT hr l _ hl
          have hti:=hT t i hi
          have hv:a.tmps[b]?=some (.pointer (some ⟨bb,o,none⟩)):=by
           obtain⟨hlt,hs⟩:=W8 hs
           rcases hr.T b _ hs with h|h
           · cases h
           · rw [P7,if_pos hlt]at h;simpa [den,a6t hf]using h
          obtain⟨xs,hx,hh⟩:=hr.cls.blk hf
          obtain⟨h1,h2,h3⟩:=a9Y hx hc
          have hb:=(a7I hc).2.2
          have hone:i.agg=false→(i0 st.H c).length=1:=fun ha=>by rw [n9];exact b6e hm ha
          have hrun:=b1k (P:=X.P) hti (w:=w) (b:=bb) (o:=o) (cs:=i0 st.H c) (by rw [n9,h2]) (fun j hj=>by
           rw [a5Z hh];simp only [List.getElem?_toArray];exact a7w h1 hj) hone
          rw [b6D hm hb]at hrun
          refine⟨?_,by simp only [List.mem_cons,not_or];exact⟨fun e=>(a9I (H:=st.H) hm hb).1 e.symm,ih2⟩⟩
          have ha:(asAddr (a.tmps.getD b undef)).run X.P w= .ok ⟨bb,o,none⟩ w:=by simp [hv,asAddr]
          simp only [List.mapM_cons,Sem.run_bind,Sem.run_pure,ha,hrun,Result.andThen_ok,ih1,i0]
        · cases h
      · cases h
    · cases h
  · cases h
def a8u (H:Hp):List SV→Value
 | [s]=>den H s
 |l=> .tuple (i0 H l).toArray
theorem a1U (hT:a5D X.P X.tt) (hr:Rel X st a w) {fn:Func} {l:List SV} (h:a8H X st fn.results.toList=some l):
 (results fn a.tmps).run X.P w= .ok (a8u st.H l) w:=by
 obtain⟨h1,_⟩:=b2E hT hr _ _ h
 unfold results
 rw [Array.mapM_eq_mapM_toList]
 simp only [Sem.run_bind,map_eq_pure_bind,Sem.run_pure]
 have h2:∀(g:ResultVar→Sem Value),(g=fun| .tmp t=>pure (a.tmps.getD t undef)| .cell b t=>do loadVar t (←asAddr (a.tmps.getD b undef)))→(List.mapM g fn.results.toList).run X.P w= .ok (i0 st.H l) w:=fun g hg=>by subst hg;exact h1
 rw [h2 _ (by funext x;cases x<;>rfl)]
 simp only [Result.andThen_ok]
 match l with
 | []=>simp [i0,a8u]
 | [s]=>simp [i0,a8u]
 |s::s'::l=>simp [i0,a8u]
theorem a2r {n:Nat} {l:List SV} {d:Nat} {s:SV} (h:y0 (a4c n l) d=some s):n≤d∧l[d-n]?=some s:=by
 induction l generalizing n with
 |nil=>simp [a4c,y0]at h
 |cons x l ih=>
  simp only [a4c,y0]at h
  split at h
  · rename_i hb
    cases h
    obtain rfl:=w4 hb
    simp
  · rename_i hb
    obtain⟨h1,h2⟩:=ih h
    have:d-n=(d-(n+1))+1:=by omega
    rw [this]
    exact⟨by omega,by simpa using h2⟩
theorem Cls.nil (X:Cx) (nk:Nat):Cls X [] nk X.w0 X.w0:=⟨Fx.refl _ _,Fx.refl _ _,by simp,by simp [bs],by simp [bs],by simp,by simp⟩
def ndB:List Nat→Bool
 | []=>true
 |x::l=>match P8 x l with|true=>false|false=>ndB l
theorem c5W {l:List Nat} (h:ndB l=true):l.Nodup:=by
 induction l with
 |nil=>simp
 |cons x l ih=>
  simp only [ndB]at h
  split at h
  · cases h
  · rename_i hm
    rw [List.nodup_cons]
    exact⟨fun hx=>(by rw [K2.2 hx]at hm;cases hm),ih h⟩
end
end Go.Sx
namespace Go.Sx
open Go Go.RowKit
def c2l:Value→Value→Bool
 | .int k a, .int j b=>decide (k=j)&&decide (a=b)
 | .bool a, .bool b=>a==b
 | .string a, .string b=>decide (a.data=b.data)
 | .pointer none, .pointer none=>true
 | .slice none n c, .slice none m d=>Nat.beq n m&&Nat.beq c d
 | .map none, .map none=>true
 | .nilFunc, .nilFunc=>true
 | .nilIface, .nilIface=>true
 |_,_=>false
theorem c3u {x y:Value} (h:c2l x y=true):x=y:=by
 unfold c2l at h
 split at h
 · simp at h;rw [h.1,h.2]
 · simp at h;rw [h]
 · rename_i a b
   simp at h
   cases a;cases b;simp_all
 · rfl
 · simp at h;rw [h.1,h.2]
 · rfl
 · rfl
 · rfl
 · cases h
def b6v:List Value→List Value→Bool
 | [], []=>true
 |x::l,y::r=>c2l x y&&b6v l r
 |_,_=>false
theorem c1f {l r:List Value} (h:b6v l r=true):l=r:=by
 induction l generalizing r with
 |nil=>cases r with
  |nil=>rfl
  |cons y r=>cases h
 |cons x l ih=>cases r with
  |nil=>cases h
  |cons y r=>
   simp only [b6v,Bool.and_eq_true]at h
   rw [c3u h.1,ih h.2]
def tiB (P:Program) (t:Nat) (i:TI):Bool:=match P.info? t with
 |some inf=>match inf.zero with
  |some z=>Nat.beq inf.size i.n&&(b6v z.cells.toList i.z&&(Nat.beq i.z.length i.n&&(i.z.all Value.oneCell'&&c1m P t i)))
  |none=>false
 |none=>false
def ttB (P:Program):List (Nat×TI)→Bool
 | []=>true
 |(t,i)::r=>tiB P t i&&ttB P r
theorem c5M {P:Program} {t:Nat} {i:TI} (h:tiB P t i=true):R8 P t i:=by
 unfold tiB at h
 split at h
 · rename_i inf hi
   split at h
   · rename_i z hz
     simp only [Bool.and_eq_true]at h
     obtain⟨h1,h2,h3,h4,h5⟩:=h
     exact⟨⟨inf,z,hi,w4 h1,hz,c1f h2⟩,w4 h3,fun x hx=>List.all_eq_true.1 h4 x hx,h5⟩
   · cases h
 · cases h
theorem c2p {P:Program}:∀ {tt:List (Nat×TI)},ttB P tt=true→a5D P tt
 | [],_=>a5D.nil P
 |(_,_)::_,h=>by
  simp only [ttB,Bool.and_eq_true]at h
  exact a5D.cons (c5M h.1) (c2p h.2)
def c6k (P:Program) (tt:List (Nat×TI)):Bool:=ttB P tt&&(P.funcs.toList.all (fun fn=> !(fn.name== "runtime.NumGoroutine"))&&P.follows .mixedOrders)
theorem c4Y {P:Program} {tt:List (Nat×TI)} (h:c6k P tt=true):POK P tt:=by
 simp only [c6k,Bool.and_eq_true]at h
 refine⟨c2p h.1,fun g fn hg=> ?_,h.2.2⟩
 have:=List.all_eq_true.1 h.2.1 fn (by simpa using Array.mem_of_getElem? hg)
 simpa using this
end Go.Sx
