/- The walk over pure data: its definitions, that it is sound, and what may be read at a type. -/
import Derived.Test.YtnehgkfgenhgcaaB2
import Derived.ProofKit
import Derived.SizedLaws
set_option linter.unusedVariables false
set_option linter.unusedSimpArgs false
set_option maxRecDepth 100000
set_option maxHeartbeats 20000000
namespace Go.Sx
open Go Go.RowKit
inductive IsDelete (t tI:TypeId):Code→Prop
 |mk {T1 T2 T3 T4 T5 T6 T7 T8 T9 T10 T11 T12 T13 T14 T15 T16 T17 T18 T19 T20 T21 T22 T23 T24 T25 T26 T27 T28 T29:TypeId} {p1 p2 p3 p4 p5 p6 p7 p8 p9 p10 p11 p12 p13 p14 p15 p16 p17 p18 p19 p20 p21 p22 p23 p24 p25 p26 p27 p28 p29:String} {f1 f2 f3 f4 f5 f6 f7 f8 f9 f10 f11 f12 f13 f22 f23 f24 f25 f26 f27 f28 f29:Array Edge} {r0 r1 r2 r3 r4 r5 r6:Nat} {cT:Code}:IsDelete t tI (Code.seq (.region r0 #[{ dst:=some 6,op:= .assign (.const (.slice none 0 0)),type:=T1,pos:=p1,after:=f1,guard:=none}] false) (.seq (.region r1 #[{ dst:=some 8,op:= .move (.tmp 0),type:=T2,pos:=p2,after:=f2,guard:=none},
  { dst:=some 9,op:= .move (.tmp 1),type:=T3,pos:=p3,after:=f3,guard:=none},
  { dst:=some 10,op:= .move (.tmp 2),type:=T4,pos:=p4,after:=f4,guard:=none},
  { dst:=some 11,op:= .move (.tmp 0),type:=T5,pos:=p5,after:=f5,guard:=none},
  { dst:=some 12,op:= .call { callee:= .builtin .len,args:= #[.tmp 11],argTypes:= #[t]},type:=T6,pos:=p6,after:=f6,guard:=none},
  { dst:=some 13,op:= .slice t (.tmp 8) (some (.tmp 9)) (some (.tmp 10)) (some (.tmp 12)),type:=T7,pos:=p7,after:=f7,guard:=none}] false) (.seq (.seq (.region r2 #[{ dst:=some 14,op:= .move (.tmp 1),type:=T8,pos:=p8,after:=f8,guard:=none},
  { dst:=some 15,op:= .move (.tmp 2),type:=T9,pos:=p9,after:=f9,guard:=none},
  { dst:=some 16,op:= .binOp .eql tI (.tmp 14) (.tmp 15) tI,type:=T10,pos:=p10,after:=f10,guard:=none}] false) (.cond (.tmp 16) cT .skip)) (.seq (.region r3 #[{ dst:=some 18,op:= .move (.tmp 0),type:=T11,pos:=p11,after:=f11,guard:=none},
  { dst:=some 19,op:= .call { callee:= .builtin .len,args:= #[.tmp 18],argTypes:= #[t]},type:=T12,pos:=p12,after:=f12,guard:=none},
  { dst:=some 7,op:= .assign (.tmp 19),type:=T13,pos:=p13,after:=f13,guard:=none}] false) (.seq (.region r4 #[{ dst:=some 20,op:= .move (.tmp 0),type:=T14,pos:=p14,after:= #[],guard:=none},
  { dst:=some 21,op:= .move (.tmp 1),type:=T15,pos:=p15,after:= #[],guard:=none},
  { dst:=some 22,op:= .slice t (.tmp 20) none (some (.tmp 21)) none,type:=T16,pos:=p16,after:= #[{ on:=0,ground:= .data}, { on:=1,ground:= .data}],guard:=none},
  { dst:=some 23,op:= .move (.tmp 0),type:=T17,pos:=p17,after:= #[],guard:=none},
  { dst:=some 24,op:= .move (.tmp 2),type:=T18,pos:=p18,after:= #[],guard:=none},
  { dst:=some 25,op:= .slice t (.tmp 23) (some (.tmp 24)) none none,type:=T19,pos:=p19,after:= #[{ on:=3,ground:= .data}, { on:=4,ground:= .data}],guard:=none},
  { dst:=some 26,op:= .call { callee:= .builtin .append,args:= #[.tmp 22, .tmp 25],argTypes:= #[t,t]},type:=T20,pos:=p20,after:= #[{ on:=2,ground:= .data}, { on:=5,ground:= .data}],guard:=none},
  { dst:=some 0,op:= .assign (.tmp 26),type:=T21,pos:=p21,after:= #[{ on:=6,ground:= .data}, { on:=6,ground:= .chain}, { on:=0,ground:= .phase}, { on:=1,ground:= .phase}, { on:=2,ground:= .phase}, { on:=3,ground:= .phase}, { on:=4,ground:= .phase}, { on:=5,ground:= .phase}, { on:=6,ground:= .phase}],guard:=none}] true) (.seq (.region r5 #[{ dst:=some 27,op:= .move (.tmp 0),type:=T22,pos:=p22,after:=f22,guard:=none},
  { dst:=some 28,op:= .move (.tmp 0),type:=T23,pos:=p23,after:=f23,guard:=none},
  { dst:=some 29,op:= .call { callee:= .builtin .len,args:= #[.tmp 28],argTypes:= #[t]},type:=T24,pos:=p24,after:=f24,guard:=none},
  { dst:=some 30,op:= .move (.tmp 7),type:=T25,pos:=p25,after:=f25,guard:=none},
  { dst:=some 31,op:= .slice t (.tmp 27) (some (.tmp 29)) (some (.tmp 30)) none,type:=T26,pos:=p26,after:=f26,guard:=none},
  { dst:=none,op:= .call { callee:= .builtin .clear,args:= #[.tmp 31],argTypes:= #[t]},type:=T27,pos:=p27,after:=f27,guard:=none}] false) (.seq (.region r6 #[{ dst:=some 32,op:= .move (.tmp 0),type:=T28,pos:=p28,after:=f28,guard:=none},
  { dst:=some 6,op:= .assign (.tmp 32),type:=T29,pos:=p29,after:=f29,guard:=none}] false) .ret)))))))
section
variable {X : Cy} {Q : Exit → Act → World → Prop} {t tI e esz bytes : Nat} {i ie : TI} {a : Act} {w : World} {g n cap ix jx : Nat} {cur : List Value} {c : Code}
theorem lohi_run (hi:TIok X.P t i) (hd:i.d= .slice e esz bytes) (h1:ix≤jx) (h2:jx≤cap) (h3:ix<cap) (w:World):
 (Instr.sliceAt t (.slice (some ⟨g,0,none⟩) n cap) (some (.int .i64 ((ix:Nat):Int))) (some (.int .i64 ((jx:Nat):Int))) none).run X.P w= .ok (.slice (some ⟨g,ix*esz,none⟩) (jx-ix) (cap-ix)) w:=by
 have hu:=(hi.slice hd).1
 have hsz:(sizeOf e).run X.P w= .ok esz w:=by
  obtain⟨_,inf,h1,h2,_⟩:=hi.slice hd
  simp [sizeOf,typeInfo,h1,h2]
 have hc:¬cap=ix:=by omega
 simp [Instr.sliceAt,Instr.slice,run_und hu,Instr.sliceBounds,run_sliceBound,h1,h2,hsz,hc,add_off]
theorem three_run (hi:TIok X.P t i) (hd:i.d= .slice e esz bytes) (h1:ix≤jx) (h2:jx≤n) (h3:n≤cap) (h4:ix<n) (w:World):
 (Instr.sliceAt t (.slice (some ⟨g,0,none⟩) n cap) (some (.int .i64 ((ix:Nat):Int))) (some (.int .i64 ((jx:Nat):Int))) (some (.int .i64 ((n:Nat):Int)))).run X.P w= .ok (.slice (some ⟨g,ix*esz,none⟩) (jx-ix) (n-ix)) w:=by
 have hu:=(hi.slice hd).1
 have hsz:(sizeOf e).run X.P w= .ok esz w:=by
  obtain⟨_,inf,h1,h2,_⟩:=hi.slice hd
  simp [sizeOf,typeInfo,h1,h2]
 have hc:¬n=ix:=by omega
 simp [Instr.sliceAt,Instr.slice,run_und hu,Instr.sliceBounds,run_sliceBound,h1,h2,h3,hsz,hc,add_off]
section
variable {P : Program} {L : List (Nat × Value)} {o : Oper} {x y z u N : Nat} {p q : Nat}
theorem eql_r {t t':TypeId} (hs:a.tmps.size=N) (hb:inB N L=true) (ho:o.op= .binOp .eql t (.tmp x) (.tmp y) t') (hx:lkA a L x=some (.int .i64 (p:Int))) (hy:lkA a L y=some (.int .i64 (q:Int))):
 (execOp (puts a L).eval o).run P w= .ok (.value (.bool (decide (p=q)))) w:=by
 simp [execOp,ho,puts_eval hs hb hx,puts_eval hs hb hy,eqGuard,binOp,Op.intCmp]
 by_cases h:p=q
 · subst h;simp
 · simp [h];omega
theorem lo_g (hs:a.tmps.size=N) (hb:inB N L=true) (ho:o.op= .slice t (.tmp x) (some (.tmp y)) none none) {v v1 v2:Value} (hx:lkA a L x=some v1) (hy:lkA a L y=some v2) (h1:(Instr.sliceAt t v1 (some v2) none none).run P w= .ok v w):
 (execOp (puts a L).eval o).run P w= .ok (.value v) w:=by
 simp only [execOp,ho,puts_eval hs hb hx,puts_eval hs hb hy,Option.map,Sem.run_bind,h1]
 try rfl
theorem lohi_r (hs:a.tmps.size=N) (hb:inB N L=true) (ho:o.op= .slice t (.tmp x) (some (.tmp y)) (some (.tmp z)) none) {v v1 v2 v3:Value} (hx:lkA a L x=some v1) (hy:lkA a L y=some v2) (hz:lkA a L z=some v3) (h1:(Instr.sliceAt t v1 (some v2) (some v3) none).run P w= .ok v w):
 (execOp (puts a L).eval o).run P w= .ok (.value v) w:=by
 simp only [execOp,ho,puts_eval hs hb hx,puts_eval hs hb hy,puts_eval hs hb hz,Option.map,Sem.run_bind,h1]
 try rfl
theorem three_r (hs:a.tmps.size=N) (hb:inB N L=true) (ho:o.op= .slice t (.tmp x) (some (.tmp y)) (some (.tmp z)) (some (.tmp u))) {v v1 v2 v3 v4:Value} (hx:lkA a L x=some v1) (hy:lkA a L y=some v2) (hz:lkA a L z=some v3) (hw:lkA a L u=some v4) (h1:(Instr.sliceAt t v1 (some v2) (some v3) (some v4)).run P w= .ok v w):
 (execOp (puts a L).eval o).run P w= .ok (.value v) w:=by
 simp only [execOp,ho,puts_eval hs hb hx,puts_eval hs hb hy,puts_eval hs hb hz,puts_eval hs hb hw,Option.map,Sem.run_bind,h1]
 try rfl
end
theorem delete_walk (hP:POK X.P X.tt) (hti:TIok X.P t i) (hd:i.d= .slice e esz bytes) (htie:TIok X.P e ie) (hiz:ie.n=esz) (hc:IsDelete t tI c) (hs:a.tmps.size=33)
 (h0:a.tmps[0]?=some (.slice (some ⟨g,0,none⟩) n cap)) (h1:a.tmps[1]?=some (.int .i64 ((ix:Nat):Int))) (h2:a.tmps[2]?=some (.int .i64 ((jx:Nat):Int)))
 (hij:ix<jx) (hjn:jx≤n) (hnc:n≤cap) (hcm:cap≤maxLen) (hg:w.heap[g]?=some (.cells cur.toArray e (0,0))) (hcs:cur.length=cap*esz) (hc1:∀v,v∈cur.take (n*esz)→v.oneCell'=true)
 (hQ:∀(a':Act) (W:World) (C:Array Value),C.size=cap*esz→C.toList.take ((ix+(n-jx))*esz)=cur.take (ix*esz)++(cur.take (n*esz)).drop (jx*esz)→W.heap[g]?=some (.cells C e (0,0))→Fx [g] w W→
  a'.defers=a.defers→a'.tmps[6]?=some (.slice (some ⟨g,0,none⟩) (ix+(n-jx)) cap)→Q .ret a' W):c.wp X.P Q a w:=by
 cases hc
 have hu:=(hti.slice hd).1
 simp only [maxLen]at hcm
 obtain⟨_,inf,hinf1,hinf2,hinf3⟩:=hti.slice hd
 have m0:n*esz≤cur.length:=by rw [hcs];exact Nat.mul_le_mul_right _ hnc
 have m1:ix*esz≤n*esz:=Nat.mul_le_mul_right _ (by omega)
 have m2:jx*esz≤n*esz:=Nat.mul_le_mul_right _ (by omega)
 have m3:(n-jx)*esz=n*esz-jx*esz:=Nat.sub_mul _ _ _
 have m4:(ix+(n-jx))*esz=ix*esz+(n-jx)*esz:=Nat.add_mul _ _ _
 have m5:ix*esz≤jx*esz:=Nat.mul_le_mul_right _ (by omega)
 obtain⟨news,hnews⟩:∃l,l=(cur.take (n*esz)).drop (jx*esz):=⟨_,rfl⟩
 have hnl:news.length=(n-jx)*esz:=by rw [hnews,List.length_drop,List.length_take];omega
 refine wp_seq (wp_region_list ?_)
 show wpList _ _ _ _ (puts a []) _
 refine stepL (v:= .slice none 0 0) (w':=w) rfl rfl (by simp [execOp,Act.eval]) ?_
 show Code.wp _ _ _ _ _
 refine wp_seq (wp_region_list ?_)
 show wpList _ _ _ _ (puts a (_::_)) _
 refine stepL (v:= .slice (some ⟨g,0,none⟩) (n) (cap)) (w':=w) rfl rfl (mv_r hs (by rfl) (x:=0) rfl (by exact h0)) ?_
 refine stepL (v:= .int .i64 ((ix:Nat):Int)) (w':=w) rfl rfl (mv_r hs (by rfl) (x:=1) rfl (by exact h1)) ?_
 refine stepL (v:= .int .i64 ((jx:Nat):Int)) (w':=w) rfl rfl (mv_r hs (by rfl) (x:=2) rfl (by exact h2)) ?_
 refine stepL (v:= .slice (some ⟨g,0,none⟩) (n) (cap)) (w':=w) rfl rfl (mv_r hs (by rfl) (x:=0) rfl (by exact h0)) ?_
 refine stepL (v:= .int .i64 ((n:Nat):Int)) (w':=w) rfl rfl (blt_r (b:= .len) (xs:= [11]) (vals:= [.slice (some ⟨g,0,none⟩) (n) (cap)]) rfl hs (by rfl) (by simp only [List.map_cons,List.map_nil];rw [show lkA a _ 11=some _ from by exact rfl]) (fun cs=>by simp [builtin,Builtin.len_,Builtin.lenOf,run_und hu,goInt])) ?_
 refine stepL (v:= .slice (some ⟨g,ix*esz,none⟩) (jx-ix) (n-ix)) (w':=w) rfl rfl (three_r (x:=8) (y:=9) (z:=10) (u:=12) hs (by rfl) rfl (by exact rfl) (by exact rfl) (by exact rfl) (by exact rfl) (three_run hti hd (by omega) hjn hnc (by omega) w)) ?_
 show Code.wp _ _ _ _ _
 refine wp_seq (wp_seq (wp_region_list ?_))
 show wpList _ _ _ _ (puts a (_::_)) _
 refine stepL (v:= .int .i64 ((ix:Nat):Int)) (w':=w) rfl rfl (mv_r hs (by rfl) (x:=1) rfl (by exact h1)) ?_
 refine stepL (v:= .int .i64 ((jx:Nat):Int)) (w':=w) rfl rfl (mv_r hs (by rfl) (x:=2) rfl (by exact h2)) ?_
 refine stepL (v:= .bool (decide (ix=jx))) (w':=w) rfl rfl (eql_r (x:=14) (y:=15) hs (by rfl) rfl (by exact rfl) (by exact rfl)) ?_
 show Code.wp _ _ _ _ _
 refine wp_cond_false (by rw [puts_eval (v:= .bool (decide (ix=jx))) hs (by rfl) (by exact rfl),decide_eq_false (by omega)]) (wp_skip ?_)
 show Code.wp _ _ _ _ _
 refine wp_seq (wp_region_list ?_)
 show wpList _ _ _ _ (puts a (_::_)) _
 refine stepL (v:= .slice (some ⟨g,0,none⟩) (n) (cap)) (w':=w) rfl rfl (mv_r hs (by rfl) (x:=0) rfl (by exact h0)) ?_
 refine stepL (v:= .int .i64 ((n:Nat):Int)) (w':=w) rfl rfl (blt_r (b:= .len) (xs:= [18]) (vals:= [.slice (some ⟨g,0,none⟩) (n) (cap)]) rfl hs (by rfl) (by simp only [List.map_cons,List.map_nil];rw [show lkA a _ 18=some _ from by exact rfl]) (fun cs=>by simp [builtin,Builtin.len_,Builtin.lenOf,run_und hu,goInt])) ?_
 refine stepL (v:= .int .i64 ((n:Nat):Int)) (w':=w) rfl rfl (as_r hs (by rfl) (x:=19) rfl (by exact rfl)) ?_
 show Code.wp _ _ _ _ _
 refine wp_seq (wp_region_still_tail 6 hP.mix (by kernel_rfl) ?_)
 show wpStill _ _ _ _ [_,_,_,_,_,_] (puts a (_::_))
 refine stepS (v:= .slice (some ⟨g,0,none⟩) (n) (cap)) rfl rfl (mv_r hs (by rfl) (x:=0) rfl (by exact h0)) ?_
 refine stepS (v:= .int .i64 ((ix:Nat):Int)) rfl rfl (mv_r hs (by rfl) (x:=1) rfl (by exact h1)) ?_
 refine stepS (v:= .slice (some ⟨g,0,none⟩) (ix) (cap)) rfl rfl (hi_r hti hd hs (by rfl) rfl (x:=20) (y:=21) (by exact rfl) (by exact rfl) (by omega)) ?_
 refine stepS (v:= .slice (some ⟨g,0,none⟩) (n) (cap)) rfl rfl (mv_r hs (by rfl) (x:=0) rfl (by exact h0)) ?_
 refine stepS (v:= .int .i64 ((jx:Nat):Int)) rfl rfl (mv_r hs (by rfl) (x:=2) rfl (by exact h2)) ?_
 obtain⟨og,hlo,hor⟩:=lo_run (X:=X) (g:=g) (n:=n) (cap:=cap) (m:=jx) hti hd hjn hnc { w with drawn:=w.drawn+1}
 refine stepS (v:= .slice (some ⟨g,og,none⟩) (n-jx) (cap-jx)) rfl rfl (lo_g (x:=23) (y:=24) hs (by rfl) rfl (by exact rfl) (by exact rfl) hlo) ?_
 show wpList _ _ _ [_,_] _ _
 have hap:∀ty,(Builtin.append_ #[t,t] ty #[.slice (some ⟨g,0,none⟩) ix cap, .slice (some ⟨g,og,none⟩) (n-jx) (cap-jx)]).run X.P { w with drawn:=w.drawn+1}= .ok (.slice (some ⟨g,0,none⟩) (ix+(n-jx)) cap) (World.setRow { w with drawn:=w.drawn+1} g (cur.take (ix*esz)++news++cur.drop (ix*esz+news.length)).toArray):=fun ty=>by
  have:=run_append_room (P:=X.P) { w with drawn:=w.drawn+1} t ty e inf hu hinf1 g ix cap cur.toArray hg ⟨g,og,none⟩ (n-jx) (cap-jx) news (by rw [hnl,hinf2]) (fun j u hj=>by
   have hlt:=(List.getElem?_eq_some_iff.1 hj).1
   rcases hor with h|rfl
   · rw [hnl,h,Nat.zero_mul]at hlt;omega
   · rw [add_off]
     simp only [World.cell?]
     rw [show({ w with drawn:=w.drawn+1}:World).heap[g]?=_ from hg]
     rw [hnews,List.getElem?_drop,List.getElem?_take,if_pos (by omega)]at hj
     simpa using hj) (fun u hu=>hc1 u (by rw [hnews]at hu;exact List.mem_of_mem_drop hu)) (by omega) (by rw [hinf2,hnl];simp;omega)
  rw [hinf2]at this
  simpa using this
 refine stepL (v:= .slice (some ⟨g,0,none⟩) (ix+(n-jx)) (cap)) (w':=(World.setRow { w with drawn:=w.drawn+1} g (cur.take (ix*esz)++news++cur.drop (ix*esz+news.length)).toArray)) rfl rfl (blt_r (b:= .append) (xs:= [22,25]) (vals:= [.slice (some ⟨g,0,none⟩) (ix) (cap), .slice (some ⟨g,og,none⟩) (n-jx) (cap-jx)]) rfl hs (by rfl) (by rfl) (fun cs=>by simp only [builtin,Sem.run_bind,hap,Result.andThen_ok,Sem.run_pure])) ?_
 refine stepL (v:= .slice (some ⟨g,0,none⟩) (ix+(n-jx)) (cap)) (w':=(World.setRow { w with drawn:=w.drawn+1} g (cur.take (ix*esz)++news++cur.drop (ix*esz+news.length)).toArray)) rfl rfl (as_r hs (by rfl) (x:=26) rfl (by exact rfl)) ?_
 show Code.wp _ _ _ _ _
 obtain⟨nn,hnn⟩:∃k,k=ix+(n-jx):=⟨_,rfl⟩
 rw [←hnn]
 obtain⟨C1,hC1⟩:∃C:Array Value,C=(cur.take (ix*esz)++news++cur.drop (ix*esz+news.length)).toArray:=⟨_,rfl⟩
 rw [←hC1]
 have hC1s:C1.size=cap*esz:=by rw [hC1,←hcs];simp;omega
 have hC1t:C1.toList.take (nn*esz)=cur.take (ix*esz)++news:=by
  rw [hC1,hnn]
  simp only [List.toList_toArray]
  rw [List.take_append_of_le_length (by rw [List.length_append,List.length_take,hnl];omega),List.take_of_length_le (by rw [List.length_append,List.length_take,hnl];omega)]
 have hg1:(World.setRow { w with drawn:=w.drawn+1} g C1).heap[g]?=some (.cells C1 e (0,0)):=setRow_heap _ g _ C1 e (0,0) hg
 generalize hWe:World.setRow { w with drawn:=w.drawn+1} g C1=W1 at hg1⊢
 refine wp_seq (wp_region_list ?_)
 show wpList _ _ _ _ (puts a (_::_)) _
 refine stepL (v:= .slice (some ⟨g,0,none⟩) (nn) (cap)) (w':=W1) rfl rfl (mv_r hs (by rfl) (x:=0) rfl (by exact rfl)) ?_
 refine stepL (v:= .slice (some ⟨g,0,none⟩) (nn) (cap)) (w':=W1) rfl rfl (mv_r hs (by rfl) (x:=0) rfl (by exact rfl)) ?_
 refine stepL (v:= .int .i64 ((nn:Nat):Int)) (w':=W1) rfl rfl (blt_r (b:= .len) (xs:= [28]) (vals:= [.slice (some ⟨g,0,none⟩) (nn) (cap)]) rfl hs (by rfl) (by simp only [List.map_cons,List.map_nil];rw [show lkA a _ 28=some _ from by exact rfl]) (fun cs=>by simp [builtin,Builtin.len_,Builtin.lenOf,run_und hu,goInt])) ?_
 refine stepL (v:= .int .i64 ((n:Nat):Int)) (w':=W1) rfl rfl (mv_r hs (by rfl) (x:=7) rfl (by exact rfl)) ?_
 refine stepL (v:= .slice (some ⟨g,nn*esz,none⟩) (n-nn) (cap-nn)) (w':=W1) rfl rfl (lohi_r (x:=27) (y:=29) (z:=30) hs (by rfl) rfl (by exact rfl) (by exact rfl) (by exact rfl) (lohi_run hti hd (by omega) hnc (by omega) W1)) ?_
 obtain⟨C2,hcl,hC2s,_,hC2t⟩:=run_clear (P:=X.P) (c:=cap-nn) (o:=nn*esz) (m:=n-nn) hti hd htie hiz hg1 (by
  right
  rw [hC1s,←Nat.add_mul]
  exact Nat.mul_le_mul_right _ (by omega)) 0
 have hcl:∀ty,(Builtin.clear_ #[t] ty #[.slice (some ⟨g,nn*esz,none⟩) (n-nn) (cap-nn)]).run X.P W1= .ok (.tuple #[]) (W1.setRow g C2):=fun ty=>hcl
 refine step_value (v:= .tuple #[]) (w':=W1.setRow g C2) rfl ?_ ?_
 · refine blt_r (b:= .clear) (xs:= [31]) (vals:= [.slice (some ⟨g,nn*esz,none⟩) (n-nn) (cap-nn)]) rfl hs (by rfl) (by rfl) (fun cs=> ?_)
   simp only [builtin,Sem.run_bind,hcl,Result.andThen_ok,Sem.run_pure]
 rw [show∀(b:Act) (v:Value),b.put none v=b from fun _ _=>rfl]
 show Code.wp _ _ _ _ _
 have hg2:(W1.setRow g C2).heap[g]?=some (.cells C2 e (0,0)):=setRow_heap _ g _ C2 e (0,0) hg1
 refine wp_seq (wp_region_list ?_)
 show wpList _ _ _ _ (puts a (_::_)) _
 refine stepL (v:= .slice (some ⟨g,0,none⟩) (nn) (cap)) (w':=(W1.setRow g C2)) rfl rfl (mv_r hs (by rfl) (x:=0) rfl (by exact rfl)) ?_
 refine stepL (v:= .slice (some ⟨g,0,none⟩) (nn) (cap)) (w':=(W1.setRow g C2)) rfl rfl (as_r hs (by rfl) (x:=32) rfl (by exact rfl)) ?_
 show Code.wp _ _ _ _ _
 refine wp_ret (hQ _ (W1.setRow g C2) C2 (by rw [hC2s,hC1s]) (by rw [←hnn,hC2t,hC1t,hnews]) hg2 ?_ (by rw [puts_dfs]) (by rw [←hnn,puts_get _ _ (by rw [hs];rfl)];rfl))
 subst hWe
 refine⟨rfl,rfl,rfl,by rw [setRow_size,setRow_size];exact Nat.le_refl _,fun k hk hn=> ?_⟩
 have hkg:k≠g:=fun h=>hn g (by simp) h.symm
 rw [setRow_other _ _ _ _ hkg,setRow_other _ _ _ _ hkg]
end
theorem does_delete {X:Cy} (hP:POK X.P X.tt) {f:FuncId} {fn:Func} {c:Code} {z n:Nat} {l:List D} {ty t tI:TypeId} {i ie:TI} {bytes:Nat} {x y:Int}
 (hf:X.P.funcs[f]?=some fn) (hb:fn.body=some c) (hc:IsDelete t tI c) (hi:getT X.tt t=some i) (hd:i.d= .slice ty z bytes) (hie:getT X.tt ty=some ie) (hiz:ie.n=z) (h33:fn.ntmps=33) (hres:fn.results= #[.tmp 6]) (h:0≤x∧x<y∧y.toNat≤n):
 DoesL X.P f z n l ty [DI x,DI y] z (x.toNat+(n-y.toNat)) (l.take (x.toNat*z)++l.drop (y.toNat*z)):=by
 obtain⟨ix,rfl⟩:∃k:Nat,x=(k:Int):=⟨x.toNat,(Int.toNat_of_nonneg h.1).symm⟩
 obtain⟨jx,rfl⟩:∃k:Nat,y=(k:Int):=⟨y.toNat,(Int.toNat_of_nonneg (by omega)).symm⟩
 simp only [Int.toNat_natCast]at h⊢
 intro ok w v vl hrow hnok hrep hok
 obtain⟨xs,hown,hrl,hfl,hlen⟩:=hrow
 obtain⟨hx1,hx2⟩:=hown
 rcases hx2 with⟨_,h0⟩|⟨g,cap,cur,rfl,_,hg,hnc,hcm,hcs,htk⟩
 · omega
 obtain⟨v1,v2,rfl,rfl,rfl⟩:∃v1 v2,vl= [v1,v2]∧v1= .int .i64 ((ix:Nat):Int)∧v2= .int .i64 ((jx:Nat):Int):=by
  match vl,hrep with
  | [v1,v2],hrep=>
   simp only [RepL,Rep,DI]at hrep
   exact⟨v1,v2,rfl,hrep.1.1,hrep.2.1.1⟩
  | [],hrep=>simp [RepL]at hrep
  | [_],hrep=>simp [RepL]at hrep
  |_::_::_::_,hrep=>simp [RepL]at hrep
 have one:∀u,u∈xs→u.oneCell'=true:=fun u hu=>by rw [←oneV_is];exact RepL.one hrl hfl u hu
 refine calls_of_wp hf hb (delete_walk (g:=g) (n:=n) (cap:=cap) (ix:=ix) (jx:=jx) (cur:=cur.toList) hP (hP.tt t i hi) hd (hP.tt ty ie hie) hiz hc ?_ ?_ ?_ ?_ (by omega) (by omega) hnc hcm (by simpa using hg) (by simpa using hcs) (by rw [htk];exact one) ?_)
 · simp [h33]
 · rw [Array.getElem?_append_left (by simp)];simp
 · rw [Array.getElem?_append_left (by simp)];simp
 · rw [Array.getElem?_append_left (by simp)];simp
 · intro a' W C hC1 hC2 hgW hfx hdf h6
   rw [htk]at hC2
   have hcx:cur.toList.take (ix*z)=xs.take (ix*z):=by
    rw [←htk,List.take_take,Nat.min_eq_left (Nat.mul_le_mul_right _ (by omega))]
   rw [hcx]at hC2
   have e1:(ix+(n-jx))*z=ix*z+(n*z-jx*z):=by rw [Nat.add_mul,Nat.sub_mul]
   have e2:ix*z≤n*z:=Nat.mul_le_mul_right _ (by omega)
   have e3:jx*z≤n*z:=Nat.mul_le_mul_right _ (by omega)
   show bodyPost _ _ _ .ret _ _
   refine⟨hdf, .slice (some ⟨g,0,none⟩) (ix+(n-jx)) cap, ?_,_,rfl, ?_, ?_,hfx⟩
   · rw [show results fn a'.tmps=_ from by unfold results;rw [hres]]
     simp [h6]
   · intro b hb
     exact .inl hb
   · refine⟨xs.take (ix*z)++xs.drop (jx*z),⟨?_, .inr ⟨g,cap,C,rfl,Nat.zero_le _,hgW,by omega,hcm,hC1,hC2⟩⟩, ?_, ?_, ?_⟩
     · rw [List.length_append,List.length_take,List.length_drop,hx1,e1];omega
     · refine RepL.mono (fun b hb=> ?_) _ _ (RepL.app (RepL.take hrl (ix*z)) (RepL.drop hrl (jx*z)))
       have hbg:b≠g:=fun e=>hnok g (by simp [ownB]) (e▸hb)
       exact⟨⟨.inl hb,by simpa [ownB]using hbg⟩,hfx.block b (hok b hb) fun c hc=>by simp at hc;subst hc;exact fun e=>hbg e.symm⟩
     · refine flatD_of fun d hd=> ?_
       rcases List.mem_append.1 hd with hd|hd
       · exact flatD_mem hfl (List.mem_of_mem_take hd)
       · exact flatD_mem hfl (List.mem_of_mem_drop hd)
     · rw [List.length_append,List.length_take,List.length_drop,hlen,e1];omega
theorem del2_k {α:Type} {P:Program} {f:FuncId} {c:α→List D} {z:Nat} {l:List α} {ty:TypeId} {x y:Int} (hc:∀x,(c x).length=z) (h:0≤x∧x<y∧y.toNat≤l.length) (hl:DoesL P f z l.length (l.flatMap c) ty [DI x,DI y] z (x.toNat+(l.length-y.toNat)) ((l.flatMap c).take (x.toNat*z)++(l.flatMap c).drop (y.toNat*z))):
 DoesL P f z l.length (l.flatMap c) ty [DI x,DI y] z (l.take x.toNat++l.drop y.toNat).length ((l.take x.toNat++l.drop y.toNat).flatMap c):=by
 have e1:(l.take x.toNat++l.drop y.toNat).length=x.toNat+(l.length-y.toNat):=by simp;omega
 rw [e1,List.flatMap_append,←flat_take hc,←flat_drop hc]
 exact hl
end Go.Sx
namespace Go.Sx
open Go Go.RowKit
def InK (k:IntKind) (x:Int):Prop:=k.min≤x∧x≤k.max
structure Opens (P:Program) (t:TypeId) {X:Type} (c:X→List D) (G:X→Prop):Prop where
 op:∀ {H:Type} (enc:TypeId×Value→H) (w:World) (fuel:Nat) (cs:List Value) (d:DataW H) (ps:List MemPlace),DataW.trod enc P w 0 (fun _=>true) true fuel t cs=some (d,ps)→(∀n,n∈d.weights P t→n≤reachBytes)→
  ∃x,RepL (fun b=>b<w.heap.size) w (c x) cs∧G x
structure OpensF (P:Program) (fs:List Field) (o n:Nat) {X:Type} (c:X→List D) (G:X→Prop):Prop where
 op:∀ {H:Type} (enc:TypeId×Value→H) (w:World) (fuel:Nat) (cs:List Value) (xs:List (DataW H×List MemPlace)),cs.length=n→(fs.mapM fun f=>DataW.trod enc P w 0 (fun _=>true) true fuel f.type ((cs.drop f.offset).take (P.cellsOf f.type)))=some xs→
  (∀m,m∈DataW.weightsEach P (fs.map (·.type)) (xs.map (·.1))→m≤reachBytes)→∃x,RepL (fun b=>b<w.heap.size) w (c x) (cs.drop o)∧G x
structure OpensA (P:Program) (e:TypeId) (is:List Nat) (o n:Nat) {X:Type} (c:X→List D) (G:X→Prop):Prop where
 op:∀ {H:Type} (enc:TypeId×Value→H) (w:World) (fuel:Nat) (cs:List Value) (xs:List (DataW H×List MemPlace)),cs.length=n→(is.mapM fun i=>DataW.trod enc P w 0 (fun _=>true) true fuel e ((cs.drop (i*P.cellsOf e)).take (P.cellsOf e)))=some xs→
  (∀m,m∈DataW.weightsAll P e (xs.map (·.1))→m≤reachBytes)→∃x,RepL (fun b=>b<w.heap.size) w (c x) (cs.drop o)∧G x
section
variable {P : Program} {t e : TypeId}
theorem mapM_spec {α β:Type} {f:α→Option β}:∀ {l:List α} {r:List β},l.mapM f=some r→r.length=l.length∧∀(i:Nat) (a:α),l[i]?=some a→∃b,r[i]?=some b∧f a=some b:=by
 intro l
 induction l with
 |nil=>intro r h;simp at h;subst h;simp
 |cons a l ih=>
  intro r h
  rw [List.mapM_cons]at h
  cases ha:f a with
  |none=>rw [ha]at h;cases h
  |some b=>
   rw [ha]at h
   cases hl:l.mapM f with
   |none=>rw [hl]at h;cases h
   |some s=>
    rw [hl]at h
    cases h
    obtain⟨h1,h2⟩:=ih hl
    refine⟨by simp [h1],fun i x hx=> ?_⟩
    cases i with
    |zero=>simp at hx;subst hx;exact⟨b,by simp,ha⟩
    |succ i=>simp at hx;simpa using h2 i x hx
theorem mapM_cons_some {α β:Type} {f:α→Option β} {a:α} {l:List α} {r:List β} (h:(a::l).mapM f=some r):∃b s,f a=some b∧l.mapM f=some s∧r=b::s:=by
 rw [List.mapM_cons]at h
 cases ha:f a with
 |none=>rw [ha]at h;cases h
 |some b=>
  rw [ha]at h
  cases hl:l.mapM f with
  |none=>rw [hl]at h;cases h
  |some s=>rw [hl]at h;cases h;exact⟨b,s,rfl,rfl,rfl⟩
theorem Opens.int {k:IntKind} (hu:P.underlying t=some (.int k)):Opens P t (fun x:Int=> [.v (.int k x)]) (fun x=>InK k x):=by
 refine⟨fun enc w fuel cs d ps h _=> ?_⟩
 obtain⟨n,rfl,_,hwf⟩:=DataW.trod_int hu h
 exact⟨n,⟨⟨rfl,rfl⟩,trivial⟩,by simpa [Lit.wf,InK]using hwf⟩
theorem Opens.bool (hu:P.underlying t=some .bool):Opens P t (fun x:Bool=> [.v (.bool x)]) (fun _=>True):=by
 refine⟨fun enc w fuel cs d ps h _=> ?_⟩
 obtain⟨b,rfl,_⟩:=DataW.trod_bool hu h
 exact⟨b,⟨⟨rfl,rfl⟩,trivial⟩,trivial⟩
theorem Opens.str (hu:P.underlying t=some .string):Opens P t (fun x:ByteArray=> [.v (.string x)]) (fun x=>x.size≤reachBytes):=by
 refine⟨fun enc w fuel cs d ps h hw=> ?_⟩
 obtain⟨s,rfl,hx,_⟩:=DataW.trod_string hu h
 cases hx
 refine⟨s,⟨⟨rfl,rfl⟩,trivial⟩, ?_⟩
 have:=hw s.data.toList.length (by simp [DataW.weights])
 simpa using this
theorem Opens.iso {X Y:Type} {c:X→List D} {G:X→Prop} {c':Y→List D} {G':Y→Prop} (h:Opens P t c G) (f:X→Y) (hc:∀x,c x=c' (f x)) (hG:∀x,G x→G' (f x)):Opens P t c' G':=
 ⟨fun enc w fuel cs d ps ht hw=>by obtain⟨x,h1,h2⟩:=h.op enc w fuel cs d ps ht hw;exact⟨f x,hc x▸h1,hG x h2⟩⟩
theorem OpensF.nil {o:Nat}:OpensF P [] o o (fun _:Unit=> []) (fun _=>True):=
 ⟨fun enc w fuel cs xs hl _ _=>⟨(),by rw [List.drop_of_length_le (by omega)];trivial,trivial⟩⟩
theorem OpensF.cons {f:Field} {fs:List Field} {o s n:Nat} {X Y:Type} {c:X→List D} {G:X→Prop} {c':Y→List D} {G':Y→Prop} (h:Opens P f.type c G) (hk:OpensF P fs (o+s) n c' G') (ho:f.offset=o) (hs:P.cellsOf f.type=s):
 OpensF P (f::fs) o n (fun x:X×Y=>c x.1++c' x.2) (fun x=>G x.1∧G' x.2):=by
 refine⟨fun enc w fuel cs xs hl hm hw=> ?_⟩
 obtain⟨b,r,h1,h2,rfl⟩:=mapM_cons_some hm
 obtain⟨d,ps⟩:=b
 simp only [List.map_cons,DataW.weightsEach]at hw
 obtain⟨x,g1,g2⟩:=h.op enc w fuel _ d ps h1 fun n hn=>hw n (List.mem_append_left _ hn)
 obtain⟨y,g3,g4⟩:=hk.op enc w fuel cs r hl h2 fun n hn=>hw n (List.mem_append_right _ hn)
 rw [ho,hs]at g1
 refine⟨(x,y), ?_,g2,g4⟩
 have:cs.drop o=(cs.drop o).take s++cs.drop (o+s):=by rw [←List.drop_drop,List.take_append_drop]
 rw [this]
 exact RepL.app g1 g3
theorem OpensF.last {f:Field} {o s n:Nat} {X:Type} {c:X→List D} {G:X→Prop} (h:Opens P f.type c G) (ho:f.offset=o) (hs:P.cellsOf f.type=s) (hn:o+s=n):OpensF P [f] o n c G:=by
 subst hn
 refine⟨fun enc w fuel cs xs hl hm hw=> ?_⟩
 obtain⟨x,h1,h2⟩:=(OpensF.cons h (OpensF.nil (P:=P) (o:=o+s)) ho hs).op enc w fuel cs xs hl hm hw
 exact⟨x.1,by simpa using h1,h2.1⟩
theorem Opens.struct {F:Array Field} {n:Nat} {X:Type} {c:X→List D} {G:X→Prop} (hu:P.underlying t=some (.struct F)) (h:OpensF P F.toList 0 n c G) (hn:P.cellsOf t=n):Opens P t c G:=by
 refine⟨fun enc w fuel cs d ps ht hw=> ?_⟩
 cases fuel with
 |zero=>simp [DataW.trod]at ht
 |succ fuel=>
  simp only [DataW.trod,hu]at ht
  split at ht
  · rename_i hl
    rw [Option.map_eq_some_iff]at ht
    obtain⟨xs,hx,he⟩:=ht
    cases he
    simp only [DataW.weights,hu]at hw
    obtain⟨x,h1,h2⟩:=h.op enc w fuel cs xs (by omega) hx hw
    exact⟨x,by simpa using h1,h2⟩
  · cases ht
theorem OpensA.last {i o s n:Nat} {X:Type} {c:X→List D} {G:X→Prop} (h:Opens P e c G) (ho:i*s=o) (hs:P.cellsOf e=s) (hn:o+s=n):OpensA P e [i] o n c G:=by
 refine⟨fun enc w fuel cs xs hl hm hw=> ?_⟩
 obtain⟨b,r,h1,h2,rfl⟩:=mapM_cons_some hm
 obtain⟨d,ps⟩:=b
 simp only [List.map_cons,DataW.weightsAll]at hw
 obtain⟨x,g1,g2⟩:=h.op enc w fuel _ d ps h1 fun n hn=>hw n (List.mem_append_left _ hn)
 rw [hs,ho]at g1
 refine⟨x, ?_,g2⟩
 rwa [List.take_of_length_le (by simp;omega)]at g1
theorem OpensA.cons {i:Nat} {is:List Nat} {o s n:Nat} {X Y:Type} {c:X→List D} {G:X→Prop} {c':Y→List D} {G':Y→Prop} (h:Opens P e c G) (hk:OpensA P e is (o+s) n c' G') (ho:i*s=o) (hs:P.cellsOf e=s):
 OpensA P e (i::is) o n (fun x:X×Y=>c x.1++c' x.2) (fun x=>G x.1∧G' x.2):=by
 refine⟨fun enc w fuel cs xs hl hm hw=> ?_⟩
 obtain⟨b,r,h1,h2,rfl⟩:=mapM_cons_some hm
 obtain⟨d,ps⟩:=b
 simp only [List.map_cons,DataW.weightsAll]at hw
 obtain⟨x,g1,g2⟩:=h.op enc w fuel _ d ps h1 fun n hn=>hw n (List.mem_append_left _ hn)
 obtain⟨y,g3,g4⟩:=hk.op enc w fuel cs r hl h2 fun n hn=>hw n (List.mem_append_right _ hn)
 rw [hs,ho]at g1
 refine⟨(x,y), ?_,g2,g4⟩
 have:cs.drop o=(cs.drop o).take s++cs.drop (o+s):=by rw [←List.drop_drop,List.take_append_drop]
 rw [this]
 exact RepL.app g1 g3
theorem Opens.arr {m n:Nat} {X:Type} {c:X→List D} {G:X→Prop} (hu:P.underlying t=some (.array m e)) (h:OpensA P e (List.range m) 0 n c G) (hn:P.cellsOf t=n):Opens P t c G:=by
 refine⟨fun enc w fuel cs d ps ht hw=> ?_⟩
 cases fuel with
 |zero=>simp [DataW.trod]at ht
 |succ fuel=>
  simp only [DataW.trod,hu]at ht
  split at ht
  · rename_i hl
    rw [Option.map_eq_some_iff]at ht
    obtain⟨xs,hx,he⟩:=ht
    cases he
    simp only [DataW.weights,hu]at hw
    obtain⟨x,h1,h2⟩:=h.op enc w fuel cs xs (by omega) hx hw
    exact⟨x,by simpa using h1,h2⟩
  · cases ht
theorem cells_spec {w:World} {a:Addr} {n:Nat} {cs:List Value} (h:w.cells? 0 a n=some cs):cs.length=n∧∀i,i<n→w.cell? (a.add i)=cs[i]?:=by
 unfold World.cells? at h
 rw [if_pos (Nat.zero_le _)]at h
 obtain⟨h1,h2⟩:=mapM_spec h
 refine⟨by simpa using h1,fun i hi=> ?_⟩
 obtain⟨b,h3,h4⟩:=h2 i i (by simp [hi])
 rw [h4,h3]
theorem weightsAll_mem {H:Type} {e:TypeId}:∀ {l:List (DataW H)} {d:DataW H},d∈l→∀n,n∈d.weights P e→n∈DataW.weightsAll P e l
 |x::l,d,h,n,hn=>by
  simp only [DataW.weightsAll]
  rcases List.mem_cons.1 h with rfl|h
  · exact List.mem_append_left _ hn
  · exact List.mem_append_right _ (weightsAll_mem h n hn)
 | [],_,h,_,_=>by cases h
theorem elems_rep {X:Type} {c:X→List D} {G:X→Prop} {ok:Nat→Prop} {w:World} {b o z:Nat} (hc:∀x,(c x).length=z):∀(n k:Nat),(∀i,i<n→∃x cs,RepL ok w (c x) cs∧G x∧∀j,j<z→w.cell? ⟨b,o+((k+i)*z+j),none⟩=cs[j]?)→
 ∃(l:List X) (vs:List Value),l.length=n∧(∀x,x∈l→G x)∧RepL ok w (l.flatMap c) vs∧∀j,j<n*z→w.cell? ⟨b,o+(k*z+j),none⟩=vs[j]?
 |0,k,h=>⟨[], [],rfl,by simp,trivial,fun j hj=>by simp at hj⟩
 |n+1,k,h=>by
  obtain⟨x,cs,h1,h2,h3⟩:=h 0 (by omega)
  obtain⟨l,vs,g1,g2,g3,g4⟩:=elems_rep hc n (k+1) fun i hi=>by
   obtain⟨x,cs,h1,h2,h3⟩:=h (i+1) (by omega)
   exact⟨x,cs,h1,h2,fun j hj=>by rw [←h3 j hj];congr 3;rw [show k+1+i=k+(i+1) from by omega]⟩
  have hl:=h1.length
  rw [hc]at hl
  refine⟨x::l,cs++vs,by simp [g1], ?_, ?_,fun j hj=> ?_⟩
  · intro y hy
    rcases List.mem_cons.1 hy with rfl|hy
    · exact h2
    · exact g2 y hy
  · rw [List.flatMap_cons];exact RepL.app h1 g3
  · by_cases hlt:j<z
    · rw [List.getElem?_append_left (by omega),←h3 j hlt];simp
    · rw [List.getElem?_append_right (by omega),←hl,←g4 (j-z) (by rw [Nat.add_mul]at hj;omega)]
      congr 3
      rw [Nat.add_mul];omega
theorem flat_flat {X:Type} {c:X→List D} (h:∀x,flatD (c x)=true) (l:List X):flatD (l.flatMap c)=true:=by
 refine flatD_of fun d hd=> ?_
 obtain⟨x,_,hx⟩:=List.mem_flatMap.1 hd
 exact flatD_mem (h x) hx
theorem Opens.slice {z bytes:Nat} {X:Type} {c:X→List D} {G:X→Prop} (hu:P.underlying t=some (.slice e)) (h:Opens P e c G) (hz:P.cellsOf e=z) (hb:P.bytesOf e=bytes) (hc:∀x,(c x).length=z) (hfl:∀x,flatD (c x)=true) (hpos:0<z):
 Opens P t (fun l:List X=> [.lst z l.length (l.flatMap c)]) (fun l=>l.length*bytes≤reachBytes∧l.length≤maxLen∧∀x,x∈l→G x):=by
 refine⟨fun enc w fuel cs d ps ht hw=> ?_⟩
 rcases DataW.trod_slice hu ht with⟨rfl,_⟩|⟨a,n,cap,elems,rest,fuel',rfl,rfl,hx,_,hnc,hcm,e1,e2,hrest,_⟩
 · refine⟨[],⟨?_,trivial⟩,by simp,by simp,by simp⟩
   simp only [Rep]
   exact⟨none,0,rfl,Nat.le_refl _,by simp,by simp,rfl, .inl rfl⟩
 · obtain⟨r1,r2⟩:=hrest rfl
   obtain⟨rfl,rfl⟩:=Prod.mk.inj hx
   simp only [DataW.weights,hu]at hw
   have hbytes:(n+(cap-n))*bytes≤reachBytes:=by
    have:=hw _ List.mem_cons_self
    simpa [e1,r1,hb]using this
   have hnb:n*bytes≤reachBytes:=Nat.le_trans (Nat.mul_le_mul_right _ (by omega)) hbytes
   by_cases hc0:cap=0
   · obtain rfl:n=0:=by omega
     refine⟨[],⟨?_,trivial⟩,by simp,by simp,by simp⟩
     simp only [Rep]
     exact⟨some a,cap,rfl,hnc,by simp,by simp,rfl, .inl hc0⟩
   · --the first place lies in memory
     have hspot:a.spot=none∧a.block<w.heap.size:=by
      have hcell:∃v,w.cell? a=some v:=by
       by_cases hn0:0<n
       · have h4:=e2 0 hn0
         rw [List.getElem?_eq_getElem (by omega),Option.bind_eq_some_iff]at h4
         obtain⟨cs,h5,_⟩:=h4
         obtain⟨h6,h7⟩:=cells_spec h5
         have:=h7 0 (by omega)
         simp only [Nat.zero_mul,Addr.add,if_true]at this
         exact⟨cs[0]'(by omega),by rw [this];simp [h6,hz,hpos]⟩
       · have h4:=r2 0 (by omega)
         rw [List.getElem?_eq_getElem (by omega),Option.bind_eq_some_iff]at h4
         obtain⟨cs,h5,_⟩:=h4
         obtain⟨h6,h7⟩:=cells_spec h5
         have:=h7 0 (by omega)
         have hn0':n=0:=by omega
         simp only [hn0',Nat.add_zero,Nat.zero_mul,Addr.add,if_true]at this
         exact⟨cs[0]'(by omega),by rw [this];simp [h6,hz,hpos]⟩
      obtain⟨v,hv⟩:=hcell
      unfold World.cell? at hv
      split at hv
      · rename_i c t fr hcl
        split at hv
        · cases hv
        · rename_i hs
          exact⟨by simpa using hs,(Array.getElem?_eq_some_iff.1 hcl).1⟩
      · cases hv
     obtain⟨b,o,sp⟩:=a
     obtain⟨hsp,hblk⟩:=hspot
     simp only at hsp hblk
     subst hsp
     have haddr:∀k j:Nat,((⟨b,o,none⟩:Addr).add k).add j=⟨b,o+(k+j),none⟩:=by
      intro k j
      unfold Addr.add
      by_cases hk:k=0<;>by_cases hj:j=0<;>simp [hk,hj]<;>omega
     obtain⟨l,vs,g1,g2,g3,g4⟩:=elems_rep (ok:=fun b=>b<w.heap.size) (G:=G) (w:=w) (b:=b) (o:=o) hc n 0 fun i hi=>by
      have h4:=e2 i hi
      have h3:elems[i]?=some (elems[i]'(by omega)):=List.getElem?_eq_getElem (by omega)
      rw [h3,Option.bind_eq_some_iff]at h4
      obtain⟨cs,h5,h6⟩:=h4
      obtain⟨h7,h8⟩:=cells_spec h5
      obtain⟨x,x1,x2⟩:=h.op enc w fuel' cs _ _ h6 fun n hn=>hw n (List.mem_cons_of_mem _ (List.mem_append_left _ (weightsAll_mem (List.mem_map.2 ⟨_,List.mem_of_getElem? h3,rfl⟩) n hn)))
      refine⟨x,cs,x1,x2,fun j hj=> ?_⟩
      rw [←h8 j (by omega),haddr,hz,Nat.zero_add]
     refine⟨l,⟨?_,trivial⟩,by rw [g1];exact hnb,by omega,g2⟩
     simp only [Rep]
     refine⟨some ⟨b,o,none⟩,cap,by rw [g1],by omega,by rw [g1];simp only [maxLen]at hcm;omega,by rw [flat_len hc],flat_flat hfl l, .inr ⟨b,o,vs,rfl,hblk,g3,fun j hj=> ?_⟩⟩
     have:=g4 j (by rw [←g1];exact hj)
     simpa using this
theorem Opens.arg_agg {X:Type} {c:X→List D} {G:X→Prop} (h:Opens P t c G) (hfl:∀x,flatD (c x)=true) {H:Type} {enc:TypeId×Value→H} {w:World} {r:Reach} {b0:Nat} {v:Value} {d:DataW H} {ps:List MemPlace}
 (hu:(match P.underlying t with|some (.struct _)=>true|some (.array _ _)=>true|_=>false)=true) (hval:Value.okWide P w r b0 t v) (ht:DataW.Trod enc P w 0 (fun _=>true) true t v d ps) (hw:∀n,n∈d.weights P t→n≤reachBytes):
 ∃x,Rep (fun b=>b<w.heap.size) w (.agg (c x)) v∧G x:=by
 obtain⟨fuel,ht⟩:=ht
 obtain⟨x,h1,h2⟩:=h.op enc w fuel _ d ps ht hw
 refine⟨x, ?_,h2⟩
 unfold Value.okWide at hval
 split at hval
 · obtain⟨cs,rfl,_⟩:=hval
   simp only [Rep];exact⟨cs,rfl,h1,hfl x⟩
 · obtain⟨cs,rfl,_⟩:=hval
   simp only [Rep];exact⟨cs,rfl,h1,hfl x⟩
 · rename_i h3 h4
   split at hu
   · rename_i hx;exact absurd hx (h3 _)
   · rename_i hx;exact absurd hx (h4 _ _)
   · cases hu
theorem Opens.arg_one {X:Type} {f:X→D} {G:X→Prop} (h:Opens P t (fun x=> [f x]) G) {H:Type} {enc:TypeId×Value→H} {w:World} {r:Reach} {b0:Nat} {v:Value} {d:DataW H} {ps:List MemPlace}
 (hu:(match P.underlying t with|some .bool=>true|some .string=>true|some (.int _)=>true|some (.slice _)=>true|_=>false)=true) (hval:Value.okWide P w r b0 t v) (ht:DataW.Trod enc P w 0 (fun _=>true) true t v d ps) (hw:∀n,n∈d.weights P t→n≤reachBytes):
 ∃x,Rep (fun b=>b<w.heap.size) w (f x) v∧G x:=by
 obtain⟨fuel,ht⟩:=ht
 obtain⟨x,h1,h2⟩:=h.op enc w fuel _ d ps ht hw
 refine⟨x, ?_,h2⟩
 have hc:v.cells= #[v]:=by
  cases v with
  |agg cs=>
   exfalso
   unfold Value.okWide Cell.okWide Cell.ok at hval
   split at hu<;>rename_i hx<;>first|(rw [hx]at hval;simp at hval;done)|(cases hu;done)|skip
  |_=>rfl
 rw [hc]at h1
 simpa [RepL]using h1
theorem trodAll_below {H:Type} {enc:TypeId×Value→H} (hl:laidOutB P=true) {W W':World} (hb:Below W.heap.size W W'):∀ {ts:List TypeId} {vs:List Value} {ds:List (DataW H)} {ps:List MemPlace},(∀t,t∈ts→P.readableRec t=true∧t<P.types.size)→
 DataW.TrodAll enc P W 0 (fun _=>true) true ts vs ds ps→(∀x,x∈ps→x.block<W.heap.size)→DataW.TrodAll enc P W' 0 (fun b=>decide (b<W.heap.size)) true ts vs ds ps
 | [], [], [],ps,_,h,_=>h
 |t::ts,v::vs,d::ds,ps,hr,h,hlt=>by
  obtain⟨p,q,h1,h2,rfl⟩:=h
  exact⟨p,q,Below.trod hl (hr t List.mem_cons_self).1 (hr t List.mem_cons_self).2 h1 hb fun x hx=>hlt x (List.mem_append_left _ hx),trodAll_below hl hb (fun t ht=>hr t (List.mem_cons_of_mem _ ht)) h2 fun x hx=>hlt x (List.mem_append_right _ hx),rfl⟩
 | [],_::_,_,_,_,h,_=>by simp [DataW.TrodAll]at h
 | [], [],_::_,_,_,h,_=>by simp [DataW.TrodAll]at h
 |_::_, [],_,_,_,h,_=>by simp [DataW.TrodAll]at h
 |_::_,_::_, [],_,_,h,_=>by simp [DataW.TrodAll]at h
theorem law_post {H:Type} {enc:TypeId×Value→H} {f:Func} {n:FuncId} {s:ChangeSpec} {W:World} {args:Array Value} {ds gs:List (DataW H)} {before:List MemPlace} {Ds:List D} {tb:TypeId}
 (hl:laidOutB P=true) (hr:∀t,t∈f.params.toList→P.readableRec t=true∧t<P.types.size) (hvars:s.vars= []) (hrt:f.resultTypes= #[tb]) (htb:P.underlying tb=some .bool)
 (hfn:(s.fn H (ds++gs)).results= [.lit (.bool true)]) (hfa:(s.fn H (ds++gs)).args=ds) (hfv:(s.fn H (ds++gs)).vars= [])
 (hW:DataW.Whole enc P f.params.toList s.vars false W args.toList ds gs before) (hrep:RepL (fun b=>b<W.heap.size) W Ds args.toList) (hd:Does P n Ds fun x=>x= .v (.bool true)):
 Calls P n args W fun e W'=>∃v,e= .returned v∧s.post enc P f false true false false W args v W':=by
 refine(hd (fun b=>b<W.heap.size) W args.toList hrep fun _ h=>h).mono fun e W' ⟨v,r,he,hq,hrp,hb⟩=> ?_
 subst he;subst hq
 simp only [Rep]at hrp
 obtain⟨rfl,_⟩:=hrp
 refine⟨_,rfl, ?_⟩
 have hW':=hW
 have hlt:=hW.lt
 obtain⟨p,q,hA,hV,rfl,hfz,hnd⟩:=hW
 rw [hvars]at hV
 obtain⟨rfl,rfl⟩:gs= []∧q= []:=by
  cases gs with
  |nil=>exact⟨rfl,hV⟩
  |cons=>simp [DataW.TrodVars]at hV
 refine⟨ds, [],_, [],p, [],hW', ?_, ?_, ?_, ?_,fun h=>by cases h⟩
 · rw [hfn,hrt]
   exact⟨[], [],shut_bool htb true,rfl,rfl⟩
 · rw [hfa]
   exact trodAll_below hl hb hr hA fun x hx=>hlt x (by simpa using hx)
 · rw [hvars,hfv];rfl
 · refine⟨hb.os,hb.output,fun i hi=> ?_⟩
   rw [hb.block i hi]
   split<;>simp_all
structure OpensArgs (P:Program) (ts:List TypeId) {X:Type} (c:X→List D) (G:X→Prop):Prop where
 op:∀ {H:Type} (enc:TypeId×Value→H) (w:World) (r:Reach) (b0:Nat) (vs:List Value) (ds:List (DataW H)) (ps:List MemPlace),DataW.TrodAll enc P w 0 (fun _=>true) true ts vs ds ps→(∀(j:Nat) t v,ts[j]?=some t→vs[j]?=some v→Value.okWide P w r b0 t v)→
  (∀n,n∈DataW.weightsEach P ts ds→n≤reachBytes)→∃x,RepL (fun b=>b<w.heap.size) w (c x) vs∧G x
theorem OpensArgs.nil:OpensArgs P [] (fun _:Unit=> []) (fun _=>True):=by
 refine⟨fun enc w r b0 vs ds ps h _ _=> ?_⟩
 cases vs with
 |nil=>exact⟨(),trivial,trivial⟩
 |cons=>cases ds<;>simp [DataW.TrodAll]at h
theorem OpensArgs.agg {ts:List TypeId} {X Y:Type} {c:X→List D} {G:X→Prop} {c':Y→List D} {G':Y→Prop} (h:Opens P t c G) (hfl:∀x,flatD (c x)=true) (hu:(match P.underlying t with|some (.struct _)=>true|some (.array _ _)=>true|_=>false)=true) (hk:OpensArgs P ts c' G'):
 OpensArgs P (t::ts) (fun x:X×Y=> .agg (c x.1)::c' x.2) (fun x=>G x.1∧G' x.2):=by
 refine⟨fun enc w r b0 vs ds ps h0 hval hw=> ?_⟩
 obtain⟨v,vs',d,ds',p,q,rfl,rfl,rfl,h1,h2⟩:=Go.ChangeShapes.trodAll_cons h0
 simp only [DataW.weightsEach]at hw
 obtain⟨x,g1,g2⟩:=h.arg_agg hfl hu (hval 0 t v rfl rfl) h1 fun n hn=>hw n (List.mem_append_left _ hn)
 obtain⟨y,g3,g4⟩:=hk.op enc w r b0 vs' ds' q h2 (fun j t v ht hv=>hval (j+1) t v (by simpa using ht) (by simpa using hv)) fun n hn=>hw n (List.mem_append_right _ hn)
 exact⟨(x,y),⟨g1,g3⟩,g2,g4⟩
theorem OpensArgs.one {ts:List TypeId} {X Y:Type} {f:X→D} {G:X→Prop} {c':Y→List D} {G':Y→Prop} (h:Opens P t (fun x=> [f x]) G) (hu:(match P.underlying t with|some .bool=>true|some .string=>true|some (.int _)=>true|some (.slice _)=>true|_=>false)=true) (hk:OpensArgs P ts c' G'):
 OpensArgs P (t::ts) (fun x:X×Y=>f x.1::c' x.2) (fun x=>G x.1∧G' x.2):=by
 refine⟨fun enc w r b0 vs ds ps h0 hval hw=> ?_⟩
 obtain⟨v,vs',d,ds',p,q,rfl,rfl,rfl,h1,h2⟩:=Go.ChangeShapes.trodAll_cons h0
 simp only [DataW.weightsEach]at hw
 obtain⟨x,g1,g2⟩:=h.arg_one hu (hval 0 t v rfl rfl) h1 fun n hn=>hw n (List.mem_append_left _ hn)
 obtain⟨y,g3,g4⟩:=hk.op enc w r b0 vs' ds' q h2 (fun j t v ht hv=>hval (j+1) t v (by simpa using ht) (by simpa using hv)) fun n hn=>hw n (List.mem_append_right _ hn)
 exact⟨(x,y),⟨g1,g3⟩,g2,g4⟩
theorem law_contract {X:Type} {c:X→List D} {G:X→Prop} {H:Type} {enc:TypeId×Value→H} {f:Func} {n:FuncId} {s:ChangeSpec} {W:World} {base:Nat} {args:Array Value} {ds gs:List (DataW H)} {before:List MemPlace} {tb:TypeId} {ts:List TypeId}
 (hop:OpensArgs P ts c G) (hlaw:∀x,G x→Does P n (c x) fun y=>y= .v (.bool true)) (hts:f.params.toList=ts)
 (hl:laidOutB P=true) (hr:(ts.all fun t=>P.readableRec t&&Nat.blt t P.types.size)=true) (hvars:s.vars= []) (hrt:f.resultTypes= #[tb]) (htb:P.underlying tb=some .bool)
 (hfn:∀ds:List (DataW H),ds.length=ts.length→(s.fn H ds).results= [.lit (.bool true)]∧(s.fn H ds).args=ds∧(s.fn H ds).vars= [])
 (hval:∀(j:Nat) t v,f.params[j]?=some t→args[j]?=some v→Value.okWide P W .any base t v) (hW:DataW.Whole enc P f.params.toList s.vars false W args.toList ds gs before)
 (hwt:(DataW.weightsEach P (f.params.toList++s.plain.varTypes P) (ds++gs)).all (· ≤reachBytes)=true):
 Calls P n args W fun e W'=>∃v,e= .returned v∧s.post enc P f false true false false W args v W':=by
 have hW0:=hW
 obtain⟨p,q,hA,hV,rfl,hfz,hnd⟩:=hW
 rw [hvars]at hV
 obtain⟨rfl,rfl⟩:gs= []∧q= []:=by
  cases gs with
  |nil=>exact⟨rfl,hV⟩
  |cons=>simp [DataW.TrodVars]at hV
 rw [hts]at hA
 have hlen:ds.length=ts.length:=by
  have:∀ {ts:List TypeId} {vs:List Value} {ds:List (DataW H)} {ps:List MemPlace},DataW.TrodAll enc P W 0 (fun _=>true) true ts vs ds ps→ds.length=ts.length:=by
   intro ts
   induction ts with
   |nil=>intro vs ds ps h;cases vs<;>cases ds<;>simp_all [DataW.TrodAll]
   |cons t ts ih=>
    intro vs ds ps h
    obtain⟨v,vs',d,ds',p,q,rfl,rfl,rfl,h1,h2⟩:=Go.ChangeShapes.trodAll_cons h
    simp [ih h2]
  exact this hA
 have hwt':∀m,m∈DataW.weightsEach P ts ds→m≤reachBytes:=by
  intro m hm
  have key:∀(ts r:List TypeId) (ds:List (DataW H)),m∈DataW.weightsEach P ts ds→m∈DataW.weightsEach P (ts++r) ds:=by
   intro ts r
   induction ts with
   |nil=>intro ds h;simp [DataW.weightsEach]at h
   |cons t ts ih=>
    intro ds h
    cases ds with
    |nil=>simp [DataW.weightsEach]at h
    |cons d ds=>
     simp only [List.cons_append,DataW.weightsEach]at h⊢
     rcases List.mem_append.1 h with h|h
     · exact List.mem_append_left _ h
     · exact List.mem_append_right _ (ih ds h)
  rw [hts,List.append_nil]at hwt
  simpa using List.all_eq_true.1 hwt m (key ts _ ds hm)
 obtain⟨x,h1,h2⟩:=hop.op enc W .any base args.toList ds p hA (fun j t v ht hv=>hval j t v (by rw [←hts]at ht;simpa using ht) (by simpa using hv)) hwt'
 obtain⟨f1,f2,f3⟩:=hfn (ds++ []) (by simpa using hlen)
 refine law_post (Ds:=c x) hl (fun t ht=> ?_) hvars hrt htb f1 (by simpa using f2) f3 hW0 h1 (hlaw x h2)
 rw [hts]at ht
 have:=List.all_eq_true.1 hr t ht
 simp only [Bool.and_eq_true,Nat.blt_eq]at this
 exact this
end
end Go.Sx
namespace Go.Sx
open Go Go.RowKit
theorem loop_rule {S E:Type} {body:S→Option (Sum S E)} (P:S→Prop) (μ:S→Nat) (Q:E→Prop) (h:∀s,P s→(∃e,body s=some (.inr e)∧Q e)∨(∃s',body s=some (.inl s')∧P s'∧μ s'<μ s)) (s0:S) (h0:P s0) (hf:μ s0<FUEL):∃e,loopF body s0=some e∧Q e:=by
 have key:∀(n:Nat) (s:S),P s→μ s<n→∃e,loopO body n s=some e∧Q e:=by
  intro n
  induction n with
  |zero=>intro s _ hn;omega
  |succ n ih=>
   intro s hs hn
   rcases h s hs with⟨e,h1,h2⟩|⟨s',h1,h2,h3⟩
   · exact⟨e,by simp only [loopO,h1],h2⟩
   · obtain⟨e,h4,h5⟩:=ih s' h2 (by omega)
     exact⟨e,by simp only [loopO,h1,h4],h5⟩
 exact key FUEL s0 h0 hf
theorem fuel_lt {n:Nat} (h:n≤9223372036854775807):n<FUEL:=by unfold FUEL;omega
theorem idx_n {α:Type} {l:List α} {k:Nat} (h:k<l.length):idx l (k:Int)=some l[k]:=by
 unfold idx;simp [h]
theorem wrap_id {z:Int} (h: -9223372036854775808≤z∧z≤9223372036854775807):IntKind.i64.wrap z=z:=IntWalk.i64_in z h
theorem wrap_s {k:Nat} (h:k<9223372036854775807):IntKind.i64.wrap ((k:Int)+1)=((k+1:Nat):Int):=by rw [wrap_id (by omega)];rfl
section
variable {α : Type} (pr : α → Option Bool)
def idxL (s:List α):Int→Option (Sum Int (Sum Int Int)):=fun v=>
 if(decide (v<(s.length:Int)))=true then
  Option.bind (idx s v) fun e=>
  Option.bind (pr e) fun x=>
  if x=true then some (.inr (.inr v))else some (.inl (IntKind.i64.wrap (v+1)))
 else some (.inr (.inl v))
def idxF (s:List α):Option Int:=
 Option.bind (loopF (idxL pr s) 0) fun e=>
 match e with
 | .inl _=>some (-1)
 | .inr r=>some r
theorem idxF_eq {p:α→Bool} (s:List α) (hp:∀x,x∈s→pr x=some (p x)) (hl:s.length≤9223372036854775807):idxF pr s=some (match s.findIdx? p with|some i=>(i:Int)|none=> -1):=by
 have h:∃e,loopF (idxL pr s) 0=some e∧((e= .inl (s.length:Int)∧∀x,x∈s→p x=false)∨∃(i:Nat) (h:i<s.length),e= .inr (i:Int)∧p s[i]=true∧∀j (hj:j<i),p s[j]=false):=by
  refine loop_rule (fun v:Int=>∃k:Nat,v=k∧k≤s.length∧∀j (hj:j<s.length),j<k→p s[j]=false) (fun v:Int=>s.length-v.toNat) _ ?_ 0 ⟨0,rfl,by omega,by omega⟩ (fuel_lt (by omega))
  rintro v ⟨k,rfl,hk,hno⟩
  unfold idxL
  by_cases hlt:k<s.length
  · have h1:(k:Int)<(s.length:Int):=by omega
    simp only [h1,decide_true,if_true,idx_n hlt,Option.bind_some,hp _ (List.getElem_mem hlt)]
    by_cases hx:p s[k]=true
    · left;exact⟨.inr (k:Int),by simp only [hx,if_true], .inr ⟨k,hlt,rfl,hx,fun j hj=>hno j (by omega) hj⟩⟩
    · right
      refine⟨_,by simp only [hx,if_false,Bool.false_eq_true],⟨k+1,wrap_s (by omega),by omega,fun j hj hjk=> ?_⟩,by rw [wrap_s (by omega)];omega⟩
      by_cases e:j=k
      · subst e;simpa using hx
      · exact hno j hj (by omega)
  · left
    have h1:¬(k:Int)<(s.length:Int):=by omega
    obtain rfl:k=s.length:=by omega
    refine⟨.inl _,by simp, .inl ⟨rfl,fun x hx=> ?_⟩⟩
    obtain⟨j,hj,rfl⟩:=List.mem_iff_getElem.1 hx
    exact hno j hj hj
 obtain⟨e,h1,h2⟩:=h
 unfold idxF
 rw [h1,Option.bind_some]
 rcases h2 with⟨rfl,hn⟩|⟨i,hi,rfl,hy,hn⟩
 · have:s.findIdx? p=none:=List.findIdx?_eq_none_iff.2 fun x hx=>hn x hx
   rw [this]
 · have:s.findIdx? p=some i:=List.findIdx?_eq_some_iff_getElem.2 ⟨hi,hy,fun j hj=>by simpa using hn j hj⟩
   rw [this]
def delL:(Int×Int×(List α))→Option (Sum (Int×Int×(List α)) (Int×Int×(List α))):=fun(i,j,v)=>
 if(decide (j<(v.length:Int)))=true then
  Option.bind (idx v j) fun _=>
  Option.bind (idx v j) fun e=>
  Option.bind (pr e) fun x=>
  if(!x)=true then
   Option.bind (idx v i) fun _=>
   Option.bind (idx v i) fun _=>
   some (.inl ((IntKind.i64.wrap (i+1)),(IntKind.i64.wrap (j+1)),(v.set i.toNat e)))
  else some (.inl (i,(IntKind.i64.wrap (j+1)),v))
 else some (.inr (i,j,v))
def delF (s:List α):Option (List α):=
 Option.bind (idxF pr s) fun x1=>
 if(x1==(-1))=true then some s
 else
  Option.bind (loopF (delL pr) (x1,(IntKind.i64.wrap (x1+1)),s)) fun(i,_,v)=>
  gd (0≤i∧i.toNat≤v.length∧0<v.length) (some (v.take i.toNat))
theorem delF_eq {p:α→Bool} (s:List α) (hp:∀x,x∈s→pr x=some (p x)) (hl:s.length≤9223372036854775806):delF pr s=some (s.filter fun x=> !p x):=by
 unfold delF
 rw [idxF_eq pr s hp (by omega)]
 cases hf:s.findIdx? p with
 |none=>
  have hn:=List.findIdx?_eq_none_iff.1 hf
  simp only [Option.bind_some,beq_self_eq_true,if_true]
  rw [List.filter_eq_self.2 fun x hx=>by simp [hn x hx]]
 |some i0=>
  obtain⟨hi,hy,hn⟩:=List.findIdx?_eq_some_iff_getElem.1 hf
  have hne:((i0:Int)== -1)=false:=by
   simp
  simp only [Option.bind_some,hne,Bool.false_eq_true,if_false]
  rw [wrap_s (by omega)]
  have h0:(s.take i0).filter (fun x=> !p x)=s.take i0:=List.filter_eq_self.2 fun x hx=>by
   obtain⟨j,hj,rfl⟩:=List.mem_iff_getElem.1 hx
   simp only [List.length_take]at hj
   rw [List.getElem_take]
   have:=hn j (by omega)
   simpa using this
  obtain⟨e,h1,h2⟩:=loop_rule (body:=delL pr) (fun st:Int×Int×List α=>∃i j:Nat,st.1=i∧st.2.1=j∧i<j∧j≤s.length∧st.2.2.length=s.length∧st.2.2.drop j=s.drop j∧st.2.2.take i=(s.take j).filter fun x=> !p x) (fun st=>s.length-st.2.1.toNat)
   (fun st=>∃i:Nat,st.1=i∧i<s.length∧st.2.2.length=s.length∧st.2.2.take i=s.filter fun x=> !p x) (by
   rintro⟨i',j',v⟩ ⟨i,j,rfl,rfl,hij,hj,hv,hd,ht⟩
   simp only at hv hd ht⊢
   unfold delL
   by_cases hlt:j<s.length
   · have h1:(j:Int)<(v.length:Int):=by omega
     have hjv:j<v.length:=by omega
     have he:v[j]=s[j]:=by
      have:v[j]?=s[j]?:=by
       have a:(v.drop j)[0]?=(s.drop j)[0]?:=by rw [hd]
       simpa using a
      rw [List.getElem?_eq_getElem hjv,List.getElem?_eq_getElem hlt]at this
      exact Option.some.inj this
     right
     have htk:s.take (j+1)=s.take j++ [s[j]]:=by rw [List.take_add_one,List.getElem?_eq_getElem hlt];rfl
     have hdr:v.drop (j+1)=s.drop (j+1):=by
      have:(v.drop j).drop 1=(s.drop j).drop 1:=by rw [hd]
      simpa [List.drop_drop]using this
     simp only [h1,decide_true,if_true,idx_n hjv,Option.bind_some,he,hp _ (List.getElem_mem hlt)]
     by_cases hx:p s[j]=true
     · refine⟨_,by simp only [hx,Bool.not_true,Bool.false_eq_true,if_false];rfl,⟨i,j+1,rfl,wrap_s (k:=j) (by omega),by omega,by omega,hv,hdr, ?_⟩,by simp only;rw [wrap_s (by omega)];omega⟩
       rw [ht,htk,List.filter_append];simp [hx]
     · have hx':p s[j]=false:=by simpa using hx
       have hiv:i<v.length:=by omega
       refine⟨_,by simp only [hx',Bool.not_false,if_true,idx_n hiv,Option.bind_some];rfl,⟨i+1,j+1,wrap_s (k:=i) (by omega),wrap_s (k:=j) (by omega),by omega,by omega,by simp [hv], ?_, ?_⟩,by simp only;rw [wrap_s (by omega)];omega⟩
       · simp only [Int.toNat_natCast]
         rw [List.drop_set_of_lt (by omega)];exact hdr
       · simp only [Int.toNat_natCast]
         rw [htk,List.filter_append,←ht,List.take_add_one,List.take_set_of_le (by omega),List.getElem?_set_self (by omega)]
         simp [hx']
   · left
     have h1:¬(j:Int)<(v.length:Int):=by omega
     obtain rfl:j=s.length:=by omega
     refine⟨_,by simp only [h1,decide_false,Bool.false_eq_true,if_false];rfl,i,rfl,by omega,hv, ?_⟩
     rw [ht,List.take_of_length_le (Nat.le_refl _)]) ((i0:Int),((i0+1:Nat):Int),s) ⟨i0,i0+1,rfl,rfl,by omega,by omega,rfl,rfl,by
     rw [List.take_add_one,List.getElem?_eq_getElem hi,List.filter_append,h0];simp [hy]⟩ (fuel_lt (by omega))
  obtain⟨i',j',v⟩:=e
  obtain⟨i,rfl,hi2,hv,ht⟩:=h2
  rw [h1]
  simp only [Option.bind_some,Int.toNat_natCast]
  have hg:0≤(i:Int)∧i≤v.length∧0<v.length:=by simp only at hv;omega
  simp only at ht
  simp [gd,hg,ht]
end
end Go.Sx
