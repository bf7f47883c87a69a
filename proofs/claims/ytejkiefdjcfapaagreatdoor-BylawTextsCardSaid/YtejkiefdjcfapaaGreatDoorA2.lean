/- A reflective walk over the code of the model: its definitions and that it is sound. -/
import Derived.Test.YtejkiefdjcfapaaGreatDoorA1
set_option linter.unusedVariables false
set_option linter.unusedSimpArgs false
namespace Go.Sx
open Go Go.RowKit
section
variable {X : Cx} {ops : Array Oper} {st : St} {a : Act} {w : World} {K : St → Prop} {o : Oper} {Q : Exit → Act → World → Prop}
structure Tame (st:St) (dst:Option Nat) (st':St):Prop where
 lo:st'.lo=st.lo
 iv:st'.iv=st.iv
 dd:∀d,dst≠some d→dead st.T d→dead st'.T d
theorem put_tame {dst:Option Nat} {s:SV} (h:put X st dst s K):put X st dst s fun st'=>K st'∧Tame st dst st':=by
 unfold put at*;cases dst with
 |none=>exact⟨h,rfl,rfl,fun _ _ h=>h⟩
 |some d=>
  obtain⟨T,H,nk,w0,lo,iv⟩:=st;simp only at*;split at h
  · rename_i hd heq;cases heq;exact⟨h,rfl,rfl,fun e hne he=>dead_cons he fun x=>hne (by rw [x])⟩
  · exact h.elim
theorem put_mono {dst:Option Nat} {s:SV} {K':St→Prop} (h:put X st dst s K) (hk:∀st',K st'→K' st'):put X st dst s K':=by
 unfold put at*;cases dst with
 |none=>exact hk _ h
 |some d=>
  obtain⟨T,H,nk,w0,lo,iv⟩:=st;simp only at*;split at h
  · rename_i hd heq;cases heq;exact hk _ h
  · exact h.elim
theorem put_tame2 {T T':List (Nat×SV)} {H H':Hp} {nk nk' lo:Nat} {ws ws':World} {iv:List (Nat×Nat)} {dst:Option Nat} {s:SV} (hT:∀d,dead T d→dead T' d) (h:put X ⟨T',H',nk',ws',lo,iv⟩ dst s K):
 put X ⟨T',H',nk',ws',lo,iv⟩ dst s fun st'=>K st'∧Tame ⟨T,H,nk,ws,lo,iv⟩ dst st':=
 put_mono (put_tame h) fun _ h=>⟨h.1,h.2.lo,h.2.iv,fun d hne hd=>h.2.dd d hne (hT d hd)⟩
theorem setE_mono {H:Hp} {k:Nat} {e:Ent} {K K':Hp→Prop} (h:setE H k e K) (hk:∀H',K H'→K' H'):setE H k e K':=by
 induction H generalizing K K' with
 |nil=>exact h.elim
 |cons x H ih=>
  obtain⟨k',e'⟩:=x;simp only [setE]at*;split at h
  · exact hk _ h
  · exact ih h fun H' h=>hk _ h
theorem dead_hide {T:List (Nat×SV)} {k d:Nat} (h:dead T d):dead (hideT k T) d:=by
 intro s hs;rcases look_hide hs with h1|⟨h1,_⟩
 · exact h1
 · exact h s h1
theorem app_tame {e esz bytes:Nat} {s x:SV} {dst:Option Nat} (h:AppVC X false e esz bytes s x st fun st' s=>put X st' dst s K):
 AppVC X false e esz bytes s x st fun st' s=>put X st' dst s fun st'=>K st'∧Tame st dst st':=by
 obtain⟨T,H,nk,ws,lo,iv⟩:=st;obtain⟨k,n,m,v,xs,news,h0,h1⟩:=h.ex;refine⟨k,n,m,v,xs,news,h0, ?_⟩;rcases h1 with⟨g1,g2,hk⟩|⟨g1,g2,hk⟩|⟨g1,g2,hk⟩|⟨g1,g2,hk0,hk⟩
 · refine .inl ⟨g1,g2,fun v' w1 hv hz hf=> ?_⟩;obtain⟨f1,f2,f3⟩:=hk v' w1 hv hz hf;exact⟨f1,f2,put_tame2 (fun _ h=>h) f3⟩
 · refine .inr (.inl ⟨g1,g2,fun v' w1 hv hz hf=>setE_mono (hk v' w1 hv hz hf) fun H' hh=> ?_⟩);rw [hideK_eq]at hh⊢;exact put_tame2 (fun _ h=>dead_hide h) hh
 · refine .inr (.inr (.inl ⟨g1,g2,fun v' w1 hv hz hf=>setE_mono (hk v' w1 hv hz hf) fun H' hh=> ?_⟩));rw [hideK_eq]at hh⊢;exact put_tame2 (fun _ h=>dead_hide h) hh
 · refine .inr (.inr (.inr ⟨g1,g2,fun hm=>put_tame (hk0 hm),fun hm v' w1 hv hz hf=> ?_⟩));obtain⟨f1,f2,f3⟩:=hk hm v' w1 hv hz hf;exact⟨f1,f2,put_tame2 (fun _ h=>h) f3⟩
theorem fin_tame {out:Out} {dst:Option Nat} (hn:∀f args,out≠ .call f args) (h:fin X false st dst K out):fin X false st dst (fun st'=>K st'∧Tame st dst st') out:=by
 cases out with
 |val s=>exact put_tame h
 |new cs ty sl=>
  obtain⟨T,H,nk,ws,lo,iv⟩:=st;simp only [fin]at*;split at h
  · rename_i h1 h2 h3;rcases h with h|⟨n,sz,h0,h⟩
    · exact .inl fun b hb hi=>put_tame2 (fun _ h=>h) (h b hb hi)
    · exact .inr ⟨n,sz,h0,fun b hb hi=>put_tame2 (fun _ h=>h) (h b hb hi)⟩
  · exact h.elim
 |call f args=>exact absurd rfl (hn f args)
 |upd k cs=>
  obtain⟨T,H,nk,ws,lo,iv⟩:=st;cases hf:findE H k with
  |none=>simp [fin,hf]at h
  |some e=>
   cases e with
   |blk b cs0 ty=>simp only [fin,hf]at*;exact setE_mono h fun H' hh=>put_tame2 (fun _ h=>h) hh
   |row v n xs sz ty=>simp [fin,hf]at h
   |mp b es ty=>simp [fin,hf]at h
 |updR k cs=>
  obtain⟨T,H,nk,ws,lo,iv⟩:=st;cases hf:findE H k with
  |none=>simp [fin,hf]at h
  |some e=>
   cases e with
   |blk b cs0 ty=>simp [fin,hf]at h
   |mp b es ty=>simp [fin,hf]at h
   |row v n xs sz ty=>simp only [fin,hf]at*;exact setE_mono h fun H' hh=>put_tame2 (fun _ h=>h) hh
 |app e esz bytes s x=>exact app_tame h
theorem call_ok {f:FuncId} {args:List SV} (hK:fin X false st o.dst K (.call f args)) (hout:OutOK X st a o (.call f args)) (hr:Rel X st a w):
 o.wp X.P a w (fun a' w'=>a'.defers=X.dfs∧∃st',K st'∧Rel X st' a' w'∧Fx (bs st.H) w w'∧st'.H=st.H∧st'.nk=st.nk∧Fx (bs st.H) st.w st'.w∧st'.lo=st.lo∧st'.iv=(w.heap.size,w'.heap.size)::st.iv∧
  (∀d,o.dst≠some d→dead st.T d→dead st'.T d)∧∀i,i<w.heap.size→w'.heap[i]?=w.heap[i]?) Q:=by
 simp only [fin]at hK;obtain⟨ι,r,φ,hc,hk⟩:=hK.ex;have hcall:=hc w hr.cls;have hbody:=calls_body hcall fun e w' ⟨i,he,_⟩=>⟨_,he⟩
 unfold Oper.wp;rw [hout w hbody];simp only [Oper.upon];refine hcall.mono fun e w' ⟨i,he,hb,hp⟩=> ?_
 subst he;simp only;have hlt:ltAll st.H w.heap.size:=fun b hb=>hr.cls.lt_size hb
 have hK2:=hk i w.heap.size w' hr.cls.fx.size hb.size hlt (hr.cls.fx.of_below hb) hp;have hown:∀b,b∈bs st.H→w'.heap[b]?=w.heap[b]?:=fun b hbm=>hb.block b (hr.cls.lt_size hbm)
 have hcls:Cls X st.H st.nk w' w':=⟨Fx.refl _ _,hr.cls.fx0.of_below hb,fun k e he=>entAt_keep (hr.cls.own k e he) fun b hbe=>hown b (bs_mem.2 ⟨k,e,he,hbe⟩),hr.cls.nd,hr.cls.lb,hr.cls.keys,hr.cls.lt⟩;have hfx:=hr.cls.fx.of_below hb;obtain⟨T,H,nk,ws,lo,iv⟩:=st
 have hrel:Rel X ⟨T,H,nk,w',lo,(w.heap.size,w'.heap.size)::iv⟩ a w':=⟨hr.size,hr.T,hr.dfs,hcls,Nat.le_trans hr.lo hb.size,fun p hp=>by
  rcases List.mem_cons.1 hp with rfl|hp
  · exact⟨hb.size,Nat.le_refl _⟩
  · exact⟨(hr.iv p hp).1,Nat.le_trans (hr.iv p hp).2 hb.size⟩⟩
 unfold put at hK2;cases hdst:o.dst with
 |none=>
  rw [hdst]at hK2;exact⟨hr.dfs,⟨T,H,nk,w',lo,_⟩,hK2,hrel,(Fx.refl _ _).of_below hb,rfl,rfl,hfx,rfl,rfl,fun _ _ h=>h,fun i hi=>hb.block i hi⟩
 |some d=>
  rw [hdst]at hK2;simp only at hK2;split at hK2
  · rename_i hd heq;cases heq;exact⟨hr.dfs,_,hK2,put_rel hrel (by simpa [Nat.blt_eq]using hd) (.inr rfl),(Fx.refl _ _).of_below hb,rfl,rfl,hfx,rfl,rfl,fun e hne he=>dead_cons he fun x=>hne (by rw [x]),fun i hi=>hb.block i hi⟩
  · exact hK2.elim
theorem wp_shift {A:Act} {next:Act→World→Prop} (he:execOp a.eval o=execOp A.eval o) (h:o.wp X.P A w next fun _ _ _=>False) (hd:∀a' w',next a' w'→a'.defers=A.defers):
 o.wp X.P a w (fun a' w'=>∃v,a'=a.put o.dst v∧next (A.put o.dst v) w') Q∨LetsOut (fun _ _ _=>False):=by
 unfold Oper.wp at*;rw [he];generalize (execOp A.eval o).run X.P w=r at*;cases r with
 |ok n w'=>
  cases n<;>simp only [Oper.upon]at h⊢
  case value v=>exact .inl ⟨v,rfl,h⟩
  case skip=>exact .inl ⟨_,rfl,h⟩
  case defer d=>
   have:=hd _ _ h;exfalso;cases hdst:o.dst<;>simp [Act.put,hdst]at this
  case enter f args=>
   left;refine Calls.mono h fun e w'' he=> ?_
   cases e with
   |returned u=>exact⟨u,rfl,he⟩
   |panicked c=>exact he.elim
   |outgrown=>exact(show False from by obtain⟨_,_,h⟩:=he;exact h).elim
  case row row args=>exact .inl (Rows.mono h fun u w'' he=>⟨u,rfl,he⟩)
  all_goals exact h.elim
 |halt x w'=>
  cases x<;>simp only [Oper.upon]at h⊢
  all_goals exact h.elim
def alV (sl:Bool) (b:Nat):Value:=match sl with|false=> .pointer (some ⟨b,0,none⟩)|true=> .slice (some ⟨b,0,none⟩) 0 0
def alN (sl:Bool):Option Nat:=match sl with|false=>none|true=>some 0
structure AlOK (X:Cx) (oi:Oper) (zs:List Value) (ty:TypeId) (sl:Bool):Prop where
 run:∀(ρ:Operand→Value) (wc:World),(execOp ρ oi).run X.P wc= .ok (.value (alV sl wc.heap.size)) (wc.alloc (.cells zs.toArray ty))
 call:isCall oi=false
 ev:∀(st:St) (K:Out→Prop),ev1 X st oi.op K→K (.new (vs zs) ty (alN sl))
 nil:sl=true→zs= []
structure EarlyOK (X:Cx) (w0:World) (st:St) (ops:Array Oper) (A:Act) (w:World) (early:List (Nat×Nat)):Prop where
 nd:(early.map (·.1)).Nodup
 ndb:(early.map (·.2)).Nodup
 at_:∀i b,(i,b)∈early→∃oi t d zs sl,ops[i]?=some oi∧AlOK X oi zs t sl∧oi.dst=some d∧True∧
  w.heap[b]?=some (.cells zs.toArray t (0,0))∧A.tmps[d]?=some (alV sl b)∧b∉bs st.H∧st.lo≤b∧ivOK st.iv b∧w0.heap.size≤b
structure Dy (X:Cx) (ops:Array Oper) (H0:Hp) (w0:World) (L:List Nat) (early:List (Nat×Nat)) (st:St) (A:Act) (w:World):Prop where
 rel:Rel X st A w
 eok:EarlyOK X w0 st ops A w early
 dd:∀i oi d,ops[i]?=some oi→isAlloc oi=true→i∉L→oi.dst=some d→dead st.T d
 fx:Fx (bs H0) w0 w
 bsn:∀b,b∈bs st.H→b∈bs H0∨w0.heap.size≤b
 x0:X.w0.heap.size≤w0.heap.size
theorem EarlyOK.next {w0:World} {st':St} {A:Act} {w':World} {v:Value} {early:List (Nat×Nat)} (h:EarlyOK X w0 st ops A w early) (hdst:∀i,i∈early.map (·.1)→∀oi d,ops[i]?=some oi→oi.dst=some d→o.dst≠some d)
 (hh:∀b,b<w.heap.size→b∉bs st.H→w'.heap[b]?=w.heap[b]?) (hbs:∀b,b∈bs st'.H→b∈bs st.H∨w.heap.size≤b) (hlo:st'.lo=st.lo) (hiv:∀b,b<w.heap.size→ivOK st.iv b→ivOK st'.iv b):
 EarlyOK X w0 st' ops (A.put o.dst v) w' early:=by
 refine⟨h.nd,h.ndb,fun i b hm=> ?_⟩;obtain⟨oi,t,d,zs,sl,h1,h2,h3,h4,h5,h6,h7,h8,h9,h10⟩:=h.at_ i b hm;have hlt:b<w.heap.size:=(Array.getElem?_eq_some_iff.1 h5).1;refine⟨oi,t,d,zs,sl,h1,h2,h3,h4,by rw [hh b hlt h7];exact h5, ?_,fun hb=> ?_,by rw [hlo];exact h8,hiv b hlt h9,h10⟩
 · have hne:=hdst i (List.mem_map.2 ⟨_,hm,rfl⟩) oi d h1 h3;cases hod:o.dst with
   |none=>exact h6
   |some e=>
    have:e≠d:=fun x=>hne (by rw [hod,x])
    simp only [Act.put];rw [Array.getElem?_setIfInBounds_ne this];exact h6
 · rcases hbs b hb with hb|hb
   · exact h7 hb
   · omega
theorem alloc_spec {tt:List (Nat×TI)} {nt:Nat} (hA:allocB tt nt ops=true) {i:Nat} {oi:Oper} (hi:ops[i]?=some oi) (ha:isAlloc oi=true):
 ∃(t ti:Unit) (d:Nat),True∧True∧oi.dst=some d∧oi.guard=none∧d<nt∧∀j oj,ops[j]?=some oj→j≠i→oj.dst≠some d:=by
 have h:=List.all_eq_true.1 hA i (by simpa using opsLt hi)
 simp only [hi,ha]at h;rw [Bool.and_eq_true]at h;obtain⟨h1,h2⟩:=h;split at h2
 · rename_i d hd;rw [Bool.and_eq_true]at h2;obtain⟨hnt,h2⟩:=h2;refine⟨(),(),d,trivial,trivial,hd, ?_,by simpa [Nat.blt_eq]using hnt,fun j oj hj hne he=> ?_⟩
   · cases hg:oi.guard with
     |none=>rfl
     |some g=>unfold isAlloc at ha;rw [hg]at ha;cases ha
   · have:=List.all_eq_true.1 h2 j (by simpa using opsLt hj)
     simp [hj,he,beqN hne]at this
 · cases h2
theorem alloc_ok (hT:TTok X.P X.tt) {nt:Nat} (hA:allocB X.tt nt ops=true) {i:Nat} {oi:Oper} (hi:ops[i]?=some oi) (ha:isAlloc oi=true):∃zs t sl,AlOK X oi zs t sl:=by
 have h:=List.all_eq_true.1 hA i (by simpa using opsLt hi)
 simp only [hi,ha]at h;rw [Bool.and_eq_true]at h;obtain⟨h1,_⟩:=h;split at h1
 · rename_i t ho;split at h1
   · rename_i ti hg;refine⟨ti.z,t,false,fun ρ wc=> ?_,by unfold isCall;rw [ho],fun st K h=> ?_,fun h=>by cases h⟩
     · obtain⟨z,hz,hr⟩:=(hT t ti hg).run_zero;have:z.cells=ti.z.toArray:=by apply Array.ext';simp [hz]
       simp [execOp,ho,Instr.alloc,hr,newVar,newRow,this,alV]
     · rw [ho]at h;simp only [ev1,hg]at h;exact h
   · cases h1
 · rename_i t n ps ho
   have hnp:n=0∧ps= #[]:=by
    unfold isAlloc at ha;rw [ho]at ha;cases hg:oi.guard with
    |some g=>rw [hg]at ha;cases ha
    |none=>
     rw [hg]at ha;simp only at ha;split at ha
     · rename_i hb;exact⟨beqT hb,by simpa using ha⟩
     · cases ha
   obtain⟨rfl,rfl⟩:=hnp;split at h1
   · rename_i e esz bytes hg;split at h1
     · rename_i i2 hi2;have hz2:=beqT h1;refine⟨[],e,true,fun ρ wc=> ?_,by unfold isCall;rw [ho],fun st K h=> ?_,fun _=>rfl⟩
       · obtain⟨hu,_⟩:=(hT t _ hg).slice rfl;have hsz:=slice_run (hT t _ hg) rfl wc;have hr0:∀f:Nat→Value,Array.map f (Array.range 0)= #[]:=fun f=>by simp
         simp only [execOp,ho,Instr.buildSlice,Sem.run_bind,run_und hu,Result.andThen_ok,hsz,Nat.zero_mul];simp [hr0,newRow,alV,Instr.fill]
       · rw [ho]at h;simp only [ev1,hg,hi2,List.toList_toArray,fillA,repL,Nat.zero_mul]at h;rw [show Nat.ble 0 16777216=true from rfl,h1]at h;exact h
     · cases h1
   · cases h1
 · cases h1
section
variable {H0 : Hp} {w0 : World} {L : List Nat} {pend : List (Nat × Value)} {early : List (Nat × Nat)} {listed : Array Bool} {j : Nat} {oj : Oper} {N : Act → World → Prop}
theorem pend_apart (hpl:Pl ops L (pend.map (·.1)) (early.map (·.1)) listed) (hj:ops[j]?=some oj) (hL:j∉L) (hd:∀d,d∈deps oj→Ls listed d):
 ∀q,q∈pend→∀oq,ops[q.1]?=some oq→oq.apart ops oj=true:=by
 intro q hq oq hoq;have hm:q.1∈pend.map (·.1):=List.mem_map.2 ⟨q,hq,rfl⟩;refine(hpl.pfree q.1 hm oq hoq j oj hj hL).resolve_left fun h=> ?_
 rcases(hpl.list q.1).1 (hd _ h)with⟨_,h2⟩|h2
 · exact h2 hm
 · exact hpl.eL _ h2 (hpl.pL _ hm)
theorem drain_go {H:Hp} {pr:List (Nat×Option Nat)} {E:List Nat} (hN:ops.toList.all nosel=true) (hpl:Pl ops L (pend.map (·.1)) (early.map (·.1)) listed) (hpo:PendOK X.P H w pr E ops pend a)
 (hj:ops[j]?=some oj) (hd:∀d,d∈deps oj→Ls listed d) (hp:j∈pend.map (·.1))
 (hk:∀pend' a',Pl ops L (pend'.map (·.1)) (early.map (·.1)) (listed.setIfInBounds j true)→putAll ops pend' a'=putAll ops pend a→PendOK X.P H w pr E ops pend' a'→N a' w):wpOp X.P ops Q j N a w:=by
 obtain⟨⟨j',v⟩,hm,rfl⟩:=List.mem_map.1 hp
 obtain⟨hy,h1,h2⟩:=pend_exec hN hj hpo hm hpl.pnd fun q hq hqd=>by
  rcases(hpl.list q).1 (hd q hqd)with⟨_,h2⟩|h2
  · exact h2 hq
  · exact hpl.eL _ h2 (hpl.pL _ hq)
 have hf:(pend.filter fun p=> !Nat.beq p.1 j').map (·.1)=(pend.map (·.1)).filter fun p=> !Nat.beq p j':=by
  rw [List.filter_map];rfl
 have:=hk _ _ (by rw [hf];exact hpl.drain hj hp hd) h2 h1;unfold wpOp;simp only [hj];rcases hy with⟨hw,R,_,hv⟩|⟨hw,rfl⟩
 · simp only [hw,if_true];exact .inl (wp_of_value (hv w fun _ _=>rfl) this)
 · simp only [hw,Bool.false_eq_true,if_false];exact this
theorem early_go {pr:List (Nat×Option Nat)} (hT:TTok X.P X.tt) (hA:allocB X.tt X.nt ops=true) (hN:ops.toList.all nosel=true) (hpl:Pl ops L (pend.map (·.1)) (early.map (·.1)) listed) (hdy:Dy X ops H0 w0 L early st (putAll ops pend a) w)
 (hpo:PendOK X.P st.H w pr (early.map (·.2)) ops pend a) (hj:ops[j]?=some oj) (hL:j∉L) (he:j∉early.map (·.1)) (ha:isAlloc oj=true) (hd:∀d,d∈deps oj→Ls listed d) (hdL:∀d,d∈deps oj→d∈L)
 (hk:∀early' a' w',Pl ops L (pend.map (·.1)) (early'.map (·.1)) (listed.setIfInBounds j true)→Dy X ops H0 w0 L early' st (putAll ops pend a') w'→PendOK X.P st.H w' pr (early'.map (·.2)) ops pend a'→N a' w'):wpOp X.P ops Q j N a w:=by
 obtain⟨_,_,d,_,_,hdst,hg,hdn,hother⟩:=alloc_spec hA hj ha;obtain⟨zs,t,sl,hal⟩:=alloc_ok hT hA hj ha;have hw:Region.wanted oj (yielded ops a.tmps)=true:=by simp [Region.wanted,hg]
 unfold wpOp;simp only [hj,hw,if_true];obtain⟨g1,g2⟩:=pend_put hN (v:=alV sl w.heap.size) hpo (pend_apart hpl hj hL hd);refine .inl (wp_of_value (hal.run a.eval w) (hk ((j,w.heap.size)::early) _ _ (hpl.early hj hL ha hd hdL) ?_ (g1.move fun k _ ok _ R hR=> ?_)))
 rotate_left
 · have hold:∀i,i<w.heap.size→(w.alloc (.cells zs.toArray t)).heap[i]?=w.heap[i]?:=fun i hi=>heap_alloc_old w _ hi
   rcases hR with rfl|⟨b,tag,rfl,r1,r2,r3,r4,r5⟩
   · exact⟨.inl rfl,by simp⟩
   · refine⟨.inr ⟨b,tag,rfl,r1,r2,by simp;omega,r4, ?_⟩,fun c hc=>by simp at hc;subst hc;exact hold c r3⟩;simp only [List.map_cons,List.mem_cons,not_or];exact⟨by omega,r5⟩
 rw [g2];have hold:∀i,i<w.heap.size→(w.alloc (.cells zs.toArray t)).heap[i]?=w.heap[i]?:=fun i hi=>heap_alloc_old w _ hi
 have hnew:(w.alloc (.cells zs.toArray t)).heap[w.heap.size]?=some (.cells zs.toArray t (0,0)):=heap_alloc_new w _;have hsz:w.heap.size≤(w.alloc (.cells zs.toArray t)).heap.size:=by simp
 have hdead:=hdy.dd j oj d hj ha hL hdst;obtain⟨hr1,hr2,hr3,hr4,hr5,hr6⟩:=hdy.rel;have hA1:(putAll ops pend a).tmps.size=X.nt:=hr1.1;have hlb:∀b,b∈bs st.H→b<w.heap.size:=fun b hb=>hr4.lt_size hb
 refine⟨⟨by rw [hdst];simp [Act.put,hr1],fun e s hs=> ?_,by rw [hdst];exact hr3, ?_,Nat.le_trans hr5 hsz,fun p hp=>⟨(hr6 p hp).1,Nat.le_trans (hr6 p hp).2 hsz⟩⟩, ?_,hdy.dd, ?_,hdy.bsn,hdy.x0⟩
 · by_cases hed:e=d
   · subst hed;exact .inl (hdead s hs)
   · rcases hr2 e s hs with h|h
     · exact .inl h
     · right;rw [hdst];simp only [slotv,Act.put]at h⊢;rw [Array.getElem?_setIfInBounds_ne (Ne.symm hed)];exact h
 · refine⟨⟨hr4.fx.os,hr4.fx.tape,hr4.fx.output,Nat.le_trans hr4.fx.size hsz,fun i hi hn=> ?_⟩,⟨hr4.fx0.os,hr4.fx0.tape,hr4.fx0.output,Nat.le_trans hr4.fx0.size hsz,fun i hi hn=> ?_⟩,fun k e hm=> ?_,hr4.nd,hr4.lb,hr4.keys,hr4.lt⟩
   · rw [hold i (Nat.lt_of_lt_of_le hi hr4.fx.size)];exact hr4.fx.block i hi hn
   · rw [hold i (Nat.lt_of_lt_of_le hi hr4.fx0.size)];exact hr4.fx0.block i hi hn
   · exact entAt_keep (hr4.own k e hm) fun b hb=>hold b (hlb b (bs_mem.2 ⟨k,e,hm,hb⟩))
 · have hnx:=hdy.eok.next (o:=oj) (st':=st) (v:=alV sl w.heap.size) (w':=w.alloc (.cells zs.toArray t)) (fun i hi oi d' hoi hd'=>fun heq=>by
    obtain⟨oi',h1,h2,_⟩:=hpl.eA i hi;rw [hoi]at h1;cases h1;obtain⟨_,_,d2,_,_,hd2,_,_,ho2⟩:=alloc_spec hA hoi h2;rw [hd']at hd2;cases hd2;exact ho2 j oj hj (fun e=>he (e▸hi)) heq) (fun b hb _=>hold b hb) (fun b hb=> .inl hb) rfl fun _ _ h=>h
   refine⟨by simp only [List.map_cons,List.nodup_cons];exact⟨he,hnx.nd⟩, ?_,fun i b hm=> ?_⟩
   · simp only [List.map_cons,List.nodup_cons];refine⟨fun hm=> ?_,hnx.ndb⟩;obtain⟨⟨i,b⟩,h1,h2⟩:=List.mem_map.1 hm;simp only at h2;obtain⟨_,_,_,_,_,_,_,_,_,h5,_⟩:=hdy.eok.at_ i b h1;have:=(Array.getElem?_eq_some_iff.1 h5).1;omega
   · rcases List.mem_cons.1 hm with h|h
     · cases h;refine⟨oj,t,d,zs,sl,hj,hal,hdst,trivial,hnew, ?_,fun hb=>by have:=hlb _ hb;omega,hr5,ivOK_of hr6 (Nat.le_refl _),hdy.fx.size⟩;rw [hdst];simp [Act.put,hr1,hdn]
     · exact hnx.at_ i b h
 · exact⟨hdy.fx.os,hdy.fx.tape,hdy.fx.output,Nat.le_trans hdy.fx.size hsz,fun i hi hn=>by rw [hold i (Nat.lt_of_lt_of_le hi hdy.fx.size)];exact hdy.fx.block i hi hn⟩
theorem wpAny_real {fuel:Nat} (hsz:listed.size=ops.size) (hc:cnt ops listed≤fuel) (hne:Region.ready .any ops listed≠ [])
 (h:∀f,fuel=f+1→∀j,j∈Region.ready .any ops listed→cnt ops (listed.setIfInBounds j true)≤f→wpOp X.P ops Q j (wpAny X.P .any ops Q f (listed.setIfInBounds j true)) a w):wpAny X.P .any ops Q fuel listed a w:=by
 have hcnt:∀j,j∈Region.ready .any ops listed→cnt ops (listed.setIfInBounds j true)+1≤cnt ops listed:=fun j hj=>by
  obtain⟨h1,h2,_⟩:=(ready_iff hsz).1 hj;exact cnt_set hsz h1 h2
 cases fuel with
 |zero=>
  exfalso;obtain⟨j,hj⟩:=List.exists_mem_of_ne_nil _ hne;have:=hcnt j hj;omega
 |succ f=>exact⟨fun e=>absurd e hne,fun j hj=>h f rfl j hj (by have:=hcnt j hj;omega)⟩
theorem wpOp_of {i:Nat} (hi:ops[i]?=some o) (hw:Region.wanted o (yielded ops a.tmps)=true) (h:o.wp X.P a w N Q):wpOp X.P ops Q i N a w:=by
 unfold wpOp;simp only [hi,hw,if_true];exact .inl h
theorem nthO_eq (l:List Oper) (j:Nat):nthO l j=l[j]?:=by
 induction l generalizing j with
 |nil=>simp [nthO]
 |cons o l ih=>cases j with
  |zero=>simp [nthO]
  |succ j=>simp [nthO,ih]
end
end
section
variable {X : Cx} {ops : Array Oper} {st : St} {a : Act} {w : World} {K : St → Prop} {o : Oper} {Q : Exit → Act → World → Prop}
theorem put_sm {dst:Option Nat} {s:SV} (h:put X st dst s K):put X st dst s fun st'=>K st'∧Sm st st'∧∀d,dst≠some d→dead st.T d→dead st'.T d:=by
 unfold put at*;cases dst with
 |none=>exact⟨h,Sm.refl _,fun _ _ h=>h⟩
 |some d=>
  obtain⟨T,H,nk,w0,lo,iv⟩:=st;simp only at*;split at h
  · rename_i hd heq;cases heq;exact⟨h,⟨rfl,rfl,rfl,rfl,rfl⟩,fun e hne he=>dead_cons he fun x=>hne (by rw [x])⟩
  · exact h.elim
theorem Cls.add {H:Hp} {nk b ty:Nat} {ws:World} {cs:List SV} (hc:Cls X H nk ws w) (hfr:freshH nk H=true) (hb:w.heap[b]?=some (.cells (denL H cs).toArray ty (0,0))) (hcs:mentL nk cs=false)
 (hn:b∉bs H) (hlb:X.w0.heap.size≤b):Cls X ((nk, .blk b cs ty)::H) (nk+1) ws w:=by
 refine⟨⟨hc.fx.os,hc.fx.tape,hc.fx.output,hc.fx.size,fun i hi hh=>hc.fx.block i hi fun c hc=>hh c (by simp [bs,hc])⟩,hc.fx0,fun k e hm=> ?_, ?_,fun c hcm=> ?_, ?_,fun k e hm=> ?_⟩
 · rcases List.mem_cons.1 hm with h|h
   · cases h;refine⟨denL H cs, ?_,hb⟩;have:=cellsR_den (H:=(nk, .blk b cs ty)::H) cs;rwa [denL_new hcs]at this
   · have h1:=hc.own k e h;cases e with
     |row v n xs sz ty=>exact h1
     |mp b es ty=>exact h1
     |blk b' cs' ty'=>
      obtain⟨xs,h2,h3⟩:=h1;exact⟨xs,cellsR_mono h2 fun s hs _=>den_new (mentL_mem (freshH_mem hfr h) hs),h3⟩
 · simp only [bs,bsE,List.singleton_append,List.nodup_cons];exact⟨hn,hc.nd⟩
 · simp only [bs,bsE,List.singleton_append,List.mem_cons]at hcm;rcases hcm with rfl|hcm
   · exact .inr hlb
   · exact hc.lb c hcm
 · simp only [List.map_cons,List.nodup_cons];refine⟨fun hm=> ?_,hc.keys⟩;obtain⟨⟨k,e'⟩,h1,h2⟩:=List.mem_map.1 hm;have:=hc.lt k e' h1;simp only at h2;omega
 · rcases List.mem_cons.1 hm with h|h
   · cases h;omega
   · have:=hc.lt k e h;omega
theorem nodup_snd {l:List (Nat×Nat)} (h:(l.map (·.2)).Nodup) {x y b:Nat} (h1:(x,b)∈l) (h2:(y,b)∈l):(x,b)=(y,b):=by
 induction l with
 |nil=>cases h1
 |cons p l ih=>
  simp only [List.map_cons,List.nodup_cons]at h;rcases List.mem_cons.1 h1 with e1|m1<;>rcases List.mem_cons.1 h2 with e2|m2
  · rw [e1,e2]
  · subst e1;exact absurd (List.mem_map.2 ⟨(y,b),m2,rfl⟩:b∈l.map (·.2)) h.1
  · subst e2;exact absurd (List.mem_map.2 ⟨(x,b),m1,rfl⟩:b∈l.map (·.2)) h.1
  · exact ih h.2 m1 m2
theorem ivOK_in {iv:List (Nat×Nat)} {b:Nat} (h:ivOK iv b) {p:Nat×Nat} (hp:p∈iv) (h1:p.1≤b) (h2:b<p.2):False:=by
 induction iv with
 |nil=>cases hp
 |cons x l ih=>
  simp only [ivOK]at h;rcases List.mem_cons.1 hp with rfl|hp
  · omega
  · exact ih h.2 hp
theorem rd_ok {fl:Bool} {i:Nat} {op:Op} {pr:List (Nat×Option Nat)} {K:List (Nat×Option Nat)→Prop} {R E:List Nat} (h:rdP X fl i op st pr K) (hR:RdOK st op R w) (hc:Cls X st.H st.nk st.w w)
 (hE:∀b,b∈E→X.w0.heap.size≤b∧st.lo≤b∧b∉bs st.H∧ivOK st.iv b) (hfl:fl=true∨isLoadOp op=false∨E= []):∃pr',K pr'∧(∀j,j≠i→getTag pr' j=getTag pr j)∧Rok st.H w pr' E i op R:=by
 have other:∀t:Option Nat,∀j,j≠i→getTag ((i,t)::pr) j=getTag pr j:=fun t j hj=>by simp [getTag,beqN (Ne.symm hj)]
 have same:∀t:Option Nat,getTag ((i,t)::pr) i=some t:=fun t=>by simp [getTag]
 unfold rdP at h;split at h
 · rename_i t0 p;split at h
   · rename_i s hs;split at h
     · rename_i k hk;refine⟨_,h,other _, ?_⟩;rcases hR with rfl|⟨t,p',s',b,hop,hs',rfl,hlt,htag⟩|⟨_,_,_,_,hop,_⟩
       rotate_left 2
       · cases hop
       · exact .inl rfl
       · cases hop;rw [hs]at hs';cases hs';rcases htag with⟨k',e,g1,g2,g3⟩|⟨g1,_⟩
         · rw [hk]at g1;cases g1;refine .inr ⟨b,some k,rfl,rfl,same _,hlt,fun k' e' hm hne hb=> ?_,fun hb=>(hE b hb).2.2.1 (bs_mem.2 ⟨k,e,findE_mem g2,g3⟩)⟩;exact bs_apart hc.nd hc.keys (findE_mem g2) hm (Ne.symm hne) g3 hb
         · rw [hk]at g1;cases g1
     · rename_i hk
       have fin:∀(hb:∀b off,s= .v (.pointer (some ⟨b,off,none⟩))→b∉E),K ((i,none)::pr)→∃pr',K pr'∧(∀j,j≠i→getTag pr' j=getTag pr j)∧Rok st.H w pr' E i (.load t0 p) R:=by
        intro hb hK;refine⟨_,hK,other _, ?_⟩;rcases hR with rfl|⟨t,p',s',b,hop,hs',rfl,hlt,htag⟩|⟨_,_,_,_,hop,_⟩
        rotate_left 2
        · cases hop
        · exact .inl rfl
        · cases hop;rw [hs]at hs';cases hs';rcases htag with⟨k',e,g1,g2,g3⟩|⟨g1,⟨off,g2⟩,g3⟩
          · rw [hk]at g1;cases g1
          · exact .inr ⟨b,none,rfl,rfl,same _,hlt,g3,hb b off g2⟩
       split at h
       · refine fin (fun b off _=> ?_) h;rcases hfl with h1|h1|h1
         · cases h1
         · cases h1
         · rw [h1];simp
       · split at h
         · rename_i b _ _;obtain⟨h1,h2⟩:=h;refine fin (fun b' off hb hm=> ?_) h2;cases hb;obtain⟨g1,g2,_,g4⟩:=hE _ hm;rcases h1 with h1|h1|⟨p,h1,h3,h5⟩
           · omega
           · omega
           · exact ivOK_in g4 h1 h3 h5
         · exact h.elim
   · exact h.elim
 · rename_i _ m _ _;split at h
   · rename_i k hk;refine⟨_,h,other _, ?_⟩;rcases hR with rfl|⟨t,p',s',b,hop,_⟩|⟨_,_,_,_,hop,hall⟩
     · exact .inl rfl
     · cases hop
     · cases hop;obtain⟨e,b,g2,g3,rfl,hlt⟩:=hall k hk;refine .inr ⟨b,some k,rfl,rfl,same _,hlt,fun k' e' hm hne hb=> ?_,fun hb=>(hE b hb).2.2.1 (bs_mem.2 ⟨k,e,findE_mem g2,g3⟩)⟩;exact bs_apart hc.nd hc.keys (findE_mem g2) hm (Ne.symm hne) g3 hb
   · exact h.elim
 · rename_i hno hnl;refine⟨pr,h,fun _ _=>rfl, ?_⟩;rcases hR with rfl|⟨t,p',s',b,hop,_⟩|⟨_,_,_,_,hop,_⟩
   · exact .inl rfl
   · exact absurd hop (hno t p')
   · exact absurd hop (hnl _ _ _ _)
theorem sep_ok {pr:List (Nat×Option Nat)} {S:List Nat} {k:Nat} (h:sepB pr S k=true) {j:Nat} (hj:j∈S) {t:Option Nat} (ht:getTag pr j=some t):t≠some k:=by
 induction S with
 |nil=>cases hj
 |cons x S ih=>
  simp only [sepB]at h;split at h
  · rename_i k' hk';split at h
    · cases h
    · rename_i hb;rcases List.mem_cons.1 hj with rfl|hj
      · rw [hk']at ht;cases ht;intro e;cases e;exact beqF hb rfl
      · exact ih h hj
  · rename_i hno;rcases List.mem_cons.1 hj with rfl|hj
    · intro e;subst e;exact hno k ht
    · exact ih h hj
theorem val_alloc {o:Oper} (h:isVal o=true):isAlloc o=false:=by
 unfold isAlloc;unfold isVal at h;cases o.guard with
 |some g=>rfl
 |none=>cases hop:o.op<;>simp only [hop]at h⊢<;>first|rfl|cases h
theorem val_call {o:Oper} (h:isVal o=true):isCall o=false:=by
 unfold isVal at h;unfold isCall;cases hop:o.op<;>simp_all;rename_i c;cases hc:c.callee<;>simp_all
theorem idxP_mem {ops:Array Oper}:∀ {p:PT} {L:List Nat},planB ops L p=true→∀j,j<ops.size→j∉L→j∈idxP p
 | .nil,L,h,j,hj,hL=>by
  simp only [planB]at h;exact absurd (memN_iff.1 (List.all_eq_true.1 h j (by simpa using hj))) hL
 | .op i S fl r,L,h,j,hj,hL=>by
  simp only [planB]at h;split at h
  · simp only [Bool.and_eq_true]at h;by_cases e:j=i
    · simp [idxP,e]
    · exact List.mem_cons_of_mem _ (idxP_mem h.2.2.2.2 j hj (by simp [e,hL]))
  · cases h
 | .fork (.op i S fl r) (.op k S' fl' r'),L,h,j,hj,hL=>by
  simp only [planB]at h
  have key:planB ops (i::L) r=true→j∈idxP (.fork (.op i S fl r) (.op k S' fl' r')):=fun h=>by
   simp only [idxP];by_cases e:j=i
   · simp [e]
   · exact List.mem_append_left _ (List.mem_cons_of_mem _ (idxP_mem h j hj (by simp [e,hL])))
  split at h
  · split at h
    · simp only [Bool.and_eq_true]at h;exact key h.2.2.1
    · split at h
      · split at h
        · simp only [Bool.and_eq_true]at h;exact key h.2.2.2.2.2.1
        · cases h
      · cases h
  · cases h
 | .fork .nil _,L,h,_,_,_=>by simp [planB]at h
 | .fork (.fork _ _) _,L,h,_,_,_=>by simp [planB]at h
 | .fork (.op ..) .nil,L,h,_,_,_=>by simp [planB]at h
 | .fork (.op ..) (.fork _ _),L,h,_,_,_=>by simp [planB]at h
theorem kill_dead {ops:Array Oper} {T:List (Nat×SV)} {l:List Nat} {i:Nat} {o:Oper} {d:Nat} (hi:i∈l) (ho:ops[i]?=some o) (ha:isAlloc o=true) (hd:o.dst=some d):dead (killG .bad ops.toList l T) d:=by
 induction l with
 |nil=>cases hi
 |cons k l ih=>
  intro s hs;simp only [killG]at hs;rcases List.mem_cons.1 hi with rfl|hi
  · simp only [nthO_eq,Array.getElem?_toList,ho,ha,hd,look]at hs;simp at hs;exact hs.symm
  · split at hs
    · split at hs
      · simp only [look]at hs;split at hs
        · cases hs;rfl
        · exact ih hi s hs
      · exact ih hi s hs
    · exact ih hi s hs
theorem kill_look {ops:List Oper} {T:List (Nat×SV)} {l:List Nat} {d:Nat} {s:SV} (h:look (killG .bad ops l T) d=some s):s= .bad∨look T d=some s:=by
 induction l with
 |nil=>exact .inr h
 |cons k l ih=>
  simp only [killG]at h;split at h
  · split at h
    · simp only [look]at h;split at h
      · cases h;exact .inl rfl
      · exact ih h
    · exact ih h
  · exact ih h
theorem step_plain {rest:PT} {i:Nat} {S:List Nat} {fl:Bool} {pr:List (Nat×Option Nat)} {K:St→List (Nat×Option Nat)→Prop} (h:stepX X ops.toList rest i S fl pr o st K) (hn:¬(isCall o=true∧fl=true)):ev1 X st o.op (finP X i S fl pr o st K):=by
 cases hc:isCall o<;>cases fl<;>simp only [stepX,hc]at h<;>first|exact h|exact absurd ⟨hc,rfl⟩ hn
set_option maxHeartbeats 2000000 in
theorem ser_go (hP:POK X.P X.tt) (hA:allocB X.tt X.nt ops=true) (hN:ops.toList.all nosel=true) {H0:Hp} {w0:World} {fuel:Nat}
 (ihf:∀f,f<fuel→∀(plan:PT) (L:List Nat) (pend:List (Nat×Value)) (early:List (Nat×Nat)) (listed:Array Bool) (pr:List (Nat×Option Nat)) (st:St) (a:Act) (w:World),planB ops L plan=true→Pl ops L (pend.map (·.1)) (early.map (·.1)) listed→
  Dy X ops H0 w0 L early st (putAll ops pend a) w→PendOK X.P st.H w pr (early.map (·.2)) ops pend a→cnt ops listed≤f→xplan X ops.toList plan st pr K→wpAny X.P .any ops Q f listed a w)
 {i:Nat} {S:List Nat} {fl:Bool} {rest:PT} {L al:List Nat} {pend:List (Nat×Value)} {early:List (Nat×Nat)} {listed:Array Bool} {pr:List (Nat×Option Nat)} {st1:St} {a:Act} {w:World} {oi:Oper} (hi:ops[i]?=some oi) (hL:i∉L) (hdL:∀d,d∈deps oi→d∈L)
 (hval:isVal oi=false) (hal:isAlloc oi=false) (hser:serB ops al oi i S fl L=true) (hrest:planB ops (i::L) rest=true) (hpl:Pl ops L (pend.map (·.1)) (early.map (·.1)) listed) (hdy1:Dy X ops H0 w0 L early st1 (putAll ops pend a) w) (hpo1:PendOK X.P st1.H w pr (early.map (·.2)) ops pend a)
 (hw:Region.wanted oi (yielded ops (putAll ops pend a).tmps)=true) (hy:stepX X ops.toList rest i S fl pr oi st1 fun st pr=>xplan X ops.toList rest st pr K) {f:Nat} (hf:f<fuel) (hd:∀d,d∈deps oi→Ls listed d) (hcj:cnt ops (listed.setIfInBounds i true)≤f):
 wpOp X.P ops Q i (wpAny X.P .any ops Q f (listed.setIfInBounds i true)) a w:=by
 have hr1:=hdy1.rel;have heok1:=hdy1.eok
 have hdist:∀e,e∈early.map (·.1)→e≠i→∀oe d,ops[e]?=some oe→oe.dst=some d→oi.dst≠some d:=by
  intro e he hne oe d hoe hd;obtain⟨oe',h1,h2,_⟩:=hpl.eA e he;rw [hoe]at h1;cases h1;obtain⟨_,_,d2,_,_,hd2,_,_,ho2⟩:=alloc_spec hA hoe h2;rw [hd]at hd2;cases hd2;exact ho2 i oi hi (Ne.symm hne)
 have hdist2:∀e oe d,ops[e]?=some oe→isAlloc oe=true→e∉i::L→oe.dst=some d→oi.dst≠some d:=by
  intro e oe d hoe ha hne hd;obtain⟨_,_,d2,_,_,hd2,_,_,ho2⟩:=alloc_spec hA hoe ha;rw [hd]at hd2;cases hd2;exact ho2 i oi hi fun x=>hne (by rw [x];exact List.mem_cons_self)
 have hie:i∉early.map (·.1):=fun he=>by
  obtain⟨oe,h1,h2,_⟩:=hpl.eA i he;rw [hi]at h1;cases h1;rw [hal]at h2;cases h2
 have hap:=pend_apart hpl hi hL hd;obtain⟨l1,l2⟩:=pend_look hN hi hpo1 hap;simp only [serB,Bool.and_eq_true]at hser;obtain⟨honly,hcl⟩:=hser;by_cases hsem:isCall oi=true∧fl=true
 · obtain⟨hca,rfl⟩:=hsem;simp only [stepX,hca]at hy;simp only [hca,Bool.and_eq_true]at hcl;have hld:=hcl
   have hE:∀b,b∈early.map (·.2)→b∉bs st1.H∧st1.lo≤b∧ivOK st1.iv b∧b<w.heap.size:=fun b hb=>by
    obtain⟨⟨e,b'⟩,h1,rfl⟩:=List.mem_map.1 hb;obtain⟨_,_,_,_,_,_,_,_,_,g5,_,g7,g8,g9,_⟩:=heok1.at_ e b' h1;exact⟨g7,g8,g9,(Array.getElem?_eq_some_iff.1 g5).1⟩
   rcases wp_shift (Q:=Q) (a:=a) l1.symm (hy (early.map (·.2)) _ _ hr1 hE) (fun _ _ h=>by
    obtain⟨v,rfl,_,_,hl,_⟩:=h;exact hl.rel.dfs.trans hr1.dfs.symm)with h|⟨_,_,h⟩
   case inr=>exact h.elim
   refine wpOp_of hi (by rw [←l2];exact hw) (Oper.wp_mono (fun a' w' hh=> ?_) h);obtain⟨v,rfl,v',hv',st2,hK2,hlv,hlo,hkp⟩:=hh;obtain⟨g1,g2⟩:=pend_put hN (v:=v) hpo1 hap;obtain⟨T2,H2,nk2,w2,lo2,iv2⟩:=st2;simp only at hK2;have hrl:=hlv.rel;have hbs2:∀b,b∈bs H2→b∈bs st1.H∨w.heap.size≤b:=hlv.bs;refine ihf f hf rest (i::L) pend early _ pr ⟨killG .bad ops.toList (idxP rest) T2,H2,nk2,w2,lo2,iv2⟩ (a.put oi.dst v) w' hrest (hpl.exec hi hL hie hdL hd) ?_ ?_ hcj hK2
   · rw [g2];refine⟨⟨hrl.size,fun d s hs=>(kill_look hs).elim .inl (hrl.T d s),hrl.dfs,hrl.cls,hrl.lo,hrl.iv⟩,⟨heok1.nd,heok1.ndb,fun e b hm=> ?_⟩,fun e oe d h1 h2 h3 h4=>kill_dead (idxP_mem hrest e (opsLt h1) h3) h1 h2 h4,Fx.trans hdy1.fx hlv.fx (fun _ h=>h) (fun b hb=>hdy1.bsn b hb),fun b hb=> ?_,hdy1.x0⟩
     · obtain⟨oe,t',d',zs',sl',h1,h2,h3,h4,h5,h6,h7,h8,h9,h10⟩:=heok1.at_ e b hm;have hlt:b<w.heap.size:=(Array.getElem?_eq_some_iff.1 h5).1;have hne:oi.dst≠some d':=hdist e (List.mem_map.2 ⟨_,hm,rfl⟩) (fun x=>hie (x▸List.mem_map.2 ⟨_,hm,rfl⟩)) oe d' h1 h3;refine⟨oe,t',d',zs',sl',h1,h2,h3,h4,by rw [hlv.fx.block b hlt fun c hc e=>h7 (e▸hc)];exact h5, ?_,fun hb=> ?_,(hlo b (List.mem_map.2 ⟨_,hm,rfl⟩)).1,(hlo b (List.mem_map.2 ⟨_,hm,rfl⟩)).2,h10⟩
       · cases hdst:oi.dst with
         |none=>simpa [Act.put]using h6
         |some x=>
          simp only [Act.put];rw [Array.getElem?_setIfInBounds_ne (fun e=>hne (by rw [hdst,e]))];exact h6
       · rcases hbs2 b hb with h|h
         · exact h7 h
         · omega
     · rcases hbs2 b hb with h|h
       · exact hdy1.bsn b h
       · exact .inr (Nat.le_trans hdy1.fx.size h)
   · refine g1.move fun j hj oj hoj R hR=> ?_
     rcases hR with rfl|⟨c,tag,rfl,r1,r2,r3,r4,r5⟩
     · exact⟨.inl rfl,by simp⟩
     · have hjS:=hpl.late hd hld hj hoj r1;obtain⟨hall,hkb⟩:=hkp (by cases S with|nil=>simp at hjS|cons _ _=>rfl)
       refine⟨.inr ⟨c,tag,rfl,r1,r2,Nat.lt_of_lt_of_le r3 hlv.fx.size, ?_,r5⟩,fun b hb=>by simp at hb;subst hb;exact hall _ r3⟩;cases tag with
       |none=>
        intro hm;rcases hbs2 c hm with h|h
        · exact r4 h
        · omega
       |some k=>
        intro k' e' hm hne hce;rcases hkb k' e' hm c hce with h|⟨e0,h1,h2⟩
        · omega
        · exact r4 k' e0 h1 hne h2
 have hy:=step_plain hy hsem;obtain⟨out,hK,hout⟩:=ev1_ok hP.tt hP.ng hr1.ev (rowsOK_of hr1.cls) hy;simp only [finP,hval,hal]at hK;cases hca:isCall oi with
 |true=>
  simp only [hca]at hK;cases out<;>try exact hK.elim
  rename_i g args;rcases wp_shift (Q:=Q) (a:=a) l1.symm (call_ok (Q:=fun _ _ _=>False) hK hout hr1) (fun _ _ h=>h.1.trans hr1.dfs.symm)with h|⟨_,_,h⟩
  case inr=>exact h.elim
  refine wpOp_of hi (by rw [←l2];exact hw) (Oper.wp_mono (fun a' w' hh=> ?_) h);obtain⟨v,rfl,hdf,st2,hK2,hr2,hfx,hH,hnk,hfw,hlo,hiv,hdd2,hall⟩:=hh;obtain⟨g1,g2⟩:=pend_put hN (v:=v) hpo1 hap;refine ihf f hf rest (i::L) pend early _ pr st2 (a.put oi.dst v) w' hrest (hpl.exec hi hL hie hdL hd) ?_ ?_ hcj hK2
  · rw [g2]
    refine⟨hr2,heok1.next (o:=oi) (fun e hem oe d h1 h2=>hdist e hem (fun x=>hie (x▸hem)) oe d h1 h2) (fun b hb hn=>hfx.block b hb fun c hc e=>hn (e▸hc)) (fun b hb=>by rw [hH]at hb;exact .inl hb) hlo (fun b hb h=>by rw [hiv];exact⟨.inl hb,h⟩),
     fun e oe d h1 h2 h3 h4=>hdd2 d (hdist2 e oe d h1 h2 h3 h4) (hdy1.dd e oe d h1 h2 (fun x=>h3 (List.mem_cons_of_mem _ x)) h4),Fx.trans hdy1.fx hfx (fun _ h=>h) (fun b hb=>hdy1.bsn b hb),by rw [hH];exact hdy1.bsn,hdy1.x0⟩
  · rw [hH];refine g1.move fun j hj oj _ R hR=> ?_
    rcases hR with rfl|⟨c,tag,rfl,r1,r2,r3,r4,r5⟩
    · exact⟨.inl rfl,by simp⟩
    · exact⟨.inr ⟨c,tag,rfl,r1,r2,Nat.lt_of_lt_of_le r3 hfx.size,r4,r5⟩,fun b hb=>by simp at hb;subst hb;exact hall _ r3⟩
 |false=>
  simp only [hca]at hcl
  have hnc:∀f args,out≠ .call f args:=by
   intro f args e;subst e;simp [hca]at hK
  have hKs:fin X false st1 oi.dst (fun st=>xplan X ops.toList rest st pr K) out∧∀k,keyOf out=some k→sepB pr S k=true:=by
   simp only [hca]at hK;cases out with
   |call f args=>exact absurd rfl (hnc _ _)
   |_=>
    split at hK
    · rename_i k hk;split at hK
      · rename_i hs;exact⟨hK,fun k' hk'=>by rw [hk]at hk';cases hk';exact hs⟩
      · exact hK.elim
    · rename_i hk;exact⟨hK,fun k' hk'=>by rw [hk]at hk';cases hk'⟩
  obtain⟨hK,hsep⟩:=hKs;rcases wp_shift (Q:=Q) (a:=a) l1.symm (fin_ok (Q:=fun _ _ _=>False) hP.tt (fin_tame hnc hK) hout hr1) (fun a' w' ⟨_,_,h,_⟩=>h.dfs.trans hr1.dfs.symm)with h|⟨_,_,h⟩
  case inr=>exact h.elim
  refine wpOp_of hi (by rw [←l2];exact hw) (Oper.wp_mono (fun a' w' hh=> ?_) h);obtain⟨v,rfl,st2,⟨hK2,htm⟩,hr2,hfx0,hkb⟩:=hh;obtain⟨g1,g2⟩:=pend_put hN (v:=v) hpo1 hap;have hfx:=hfx0.wide (fun b h=>chB_bs b h);have hbs:=hkb.bs;refine ihf f hf rest (i::L) pend early _ pr st2 (a.put oi.dst v) w' hrest (hpl.exec hi hL hie hdL hd) ?_ ?_ hcj hK2
  · rw [g2]
    refine⟨hr2,heok1.next (o:=oi) (fun e hem oe d h1 h2=>hdist e hem (fun x=>hie (x▸hem)) oe d h1 h2) (fun b hb hn=>hfx.block b hb fun c hc e=>hn (e▸hc)) hbs htm.lo (fun b hb h=>by rw [htm.iv];exact h),
     fun e oe d h1 h2 h3 h4=>htm.dd d (hdist2 e oe d h1 h2 h3 h4) (hdy1.dd e oe d h1 h2 (fun x=>h3 (List.mem_cons_of_mem _ x)) h4),Fx.trans hdy1.fx hfx (fun _ h=>h) (fun b hb=>hdy1.bsn b hb),fun b hb=> ?_,hdy1.x0⟩
    rcases hbs b hb with h|h
    · exact hdy1.bsn b h
    · exact .inr (Nat.le_trans hdy1.fx.size h)
  · refine g1.move fun j hj oj hoj R hR=> ?_
    rcases hR with rfl|⟨c,tag,rfl,r1,r2,r3,r4,r5⟩
    · exact⟨.inl rfl,by simp⟩
    · have hjS:=hpl.late hd hcl hj hoj r1
      have hnch:c∉chB st1.H out:=by
       intro hm;unfold chB at hm;cases hko:keyOf out with
       |none=>simp [hko]at hm
       |some k=>
        simp only [hko]at hm;have hne:=sep_ok (hsep k hko) hjS r2;split at hm
        · rename_i e he;cases tag with
          |none=>exact r4 (bs_mem.2 ⟨k,e,findE_mem he,hm⟩)
          |some k'=>exact r4 k e (findE_mem he) (fun x=>hne (by rw [x])) hm
        · cases hm
      refine⟨.inr ⟨c,tag,rfl,r1,r2,Nat.lt_of_lt_of_le r3 hfx.size, ?_,r5⟩,fun b hb=>by simp at hb;subst hb;exact hfx0.block _ r3 fun x hx e=>hnch (e▸hx)⟩;cases tag with
      |none=>
       intro hm;rcases hbs c hm with h|h
       · exact r4 h
       · omega
      |some k=>
       intro k' e' hm hne hce;rcases hkb k' e' hm c hce with h|⟨e0,h1,h2⟩
       · omega
       · exact r4 k' e0 h1 hne h2
theorem inst_go (hP:POK X.P X.tt) (hA:allocB X.tt X.nt ops=true) {H0:Hp} {w0:World} {G:Prop} {i':Nat} {S:List Nat} {fl:Bool} {rest:PT} {L:List Nat} {pend:List (Nat×Value)} {early:List (Nat×Nat)} {listed:Array Bool} {pr:List (Nat×Option Nat)} {st1:St} {a:Act} {w:World} {oi:Oper} {b:Nat} {K2:St→List (Nat×Option Nat)→Prop}
 (hi:ops[i']?=some oi) (hm:(i',b)∈early) (hL:i'∉L) (hdL:∀d,d∈deps oi→d∈L) (hval:isVal oi=false) (hal:isAlloc oi=true) (hpl:Pl ops L (pend.map (·.1)) (early.map (·.1)) listed) (hdy1:Dy X ops H0 w0 L early st1 (putAll ops pend a) w) (hpo1:PendOK X.P st1.H w pr (early.map (·.2)) ops pend a)
 (hy:stepX X ops.toList rest i' S fl pr oi st1 K2)
 (cont:∀(early':List (Nat×Nat)) (st2:St),Pl ops (i'::L) (pend.map (·.1)) (early'.map (·.1)) listed→Dy X ops H0 w0 (i'::L) early' st2 (putAll ops pend a) w→PendOK X.P st2.H w pr (early'.map (·.2)) ops pend a→K2 st2 pr→G):G:=by
 have hr1:=hdy1.rel;have heok1:=hdy1.eok;have hdy:=hdy1;have hin:i'∈early.map (·.1):=List.mem_map.2 ⟨_,hm,rfl⟩
 have hdist2:∀e oe d,ops[e]?=some oe→isAlloc oe=true→e∉i'::L→oe.dst=some d→oi.dst≠some d:=by
  intro e oe d hoe ha hne hd;obtain⟨_,_,d2,_,_,hd2,_,_,ho2⟩:=alloc_spec hA hoe ha;rw [hd]at hd2;cases hd2;exact ho2 i' oi hi fun x=>hne (by rw [x];exact List.mem_cons_self)
 obtain⟨oe,t,d,zs,sl,h1,hAl,hdst,_,h5,h6,h7,h8,h9,h10⟩:=heok1.at_ _ b hm;rw [hi]at h1;cases h1;have hnc:=hAl.call;have hy:=hAl.ev st1 _ (step_plain hy fun h=>by rw [hnc]at h;cases h.1);simp only [finP,hval,hal,fin]at hy;obtain⟨T,H,nk,ws,lo,iv⟩:=st1;simp only at hy;split at hy
 case h_2=>exact hy.elim
 rename_i f1 f2 f3
 have ha':(putAll ops pend a).put oi.dst (alV sl b)=putAll ops pend a:=by
  rw [hdst];generalize putAll ops pend a=A at h6
  have:A.tmps.setIfInBounds d (alV sl b)=A.tmps:=by
   apply Array.ext_getElem?;intro k;by_cases hk:d=k
   · subst hk;have hlt:=(Array.getElem?_eq_some_iff.1 h6).1;rw [h6];simp [hlt]
   · rw [Array.getElem?_setIfInBounds_ne hk]
  simp [Act.put,this]
 have tail:∀(e:Ent) (s:SV),bsE e= [b]→entAt 0 ((nk,e)::H) w e→den ((nk,e)::H) s=alV sl b→put X ⟨T,(nk,e)::H,nk+1,ws,lo,iv⟩ oi.dst s (fun st=>K2 st pr)→G:=by
  intro e s hbe hent hden hput;have hbeE:=hbe;have hrel:Rel X ⟨T,(nk,e)::H,nk+1,ws,lo,iv⟩ (putAll ops pend a) w:=hr1.consG f1 f2 hent (fun c hc=>by rw [hbe]at hc;rw [List.mem_singleton.1 hc];exact⟨Nat.le_trans hdy1.x0 h10,h7⟩) (by rw [hbe];simp);obtain⟨st2,⟨hK2,hs2,hdd2⟩,hr2,hH2⟩:=put_ok hrel (put_sm hput) (v:=alV sl b) (.inr hden.symm);rw [ha']at hr2;refine cont (early.filter fun p=> !Nat.beq p.1 i') st2 ?_ ?_ ?_ hK2
  · have hf:(early.filter fun p=> !Nat.beq p.1 i').map (·.1)=(early.map (·.1)).filter fun p=> !Nat.beq p i':=by
     rw [List.filter_map];rfl
    rw [hf];exact hpl.inst hi hin hdL
  · refine⟨hr2,⟨?_, ?_,fun e be hmm=> ?_⟩,fun e oe d' g1 g2 g3 g4=>hdd2 d' (fun x=>hdist2 e oe d' g1 g2 g3 g4 x) (hdy1.dd e oe d' g1 g2 (fun x=>g3 (List.mem_cons_of_mem _ x)) g4),hdy.fx,fun c hcm=> ?_,hdy.x0⟩
    · exact heok1.nd.sublist (List.Sublist.map _ List.filter_sublist)
    · exact heok1.ndb.sublist (List.Sublist.map _ List.filter_sublist)
    · obtain⟨hmf,hnei⟩:=List.mem_filter.1 hmm;have hnei:e≠i':=fun x=>by subst x;simp at hnei
      obtain⟨oe,t',d',zs',sl',g1,g2,g3,g4,g5,g6,g7,g8,g9,g10⟩:=heok1.at_ e be hmf;refine⟨oe,t',d',zs',sl',g1,g2,g3,g4,g5,g6,fun hb=> ?_,by rw [hs2.lo];exact g8,by rw [hs2.iv];exact g9,g10⟩;rw [hs2.H]at hb;simp only [bs,hbeE,List.singleton_append,List.mem_cons]at hb;rcases hb with rfl|hb
      · have hnd:=heok1.ndb;exact hnei (congrArg Prod.fst (nodup_snd hnd hmf hm))
      · exact g7 hb
    · rw [hs2.H]at hcm;simp only [bs,hbe,List.singleton_append,List.mem_cons]at hcm;rcases hcm with rfl|hcm
      · exact .inr h10
      · exact hdy1.bsn c hcm
  · rw [hs2.H];refine hpo1.move fun j hj oj _ R hR=>⟨?_,fun _ _=>rfl⟩
    rcases hR with rfl|⟨c,tag,r0,r1,r2,r3,r4,r5⟩
    · exact .inl rfl
    · have hcb:c≠b:=fun e=>r5 (List.mem_map.2 ⟨(i',b),hm,e.symm⟩)
      refine .inr ⟨c,tag,r0,r1,r2,r3, ?_,fun hm2=>r5 ?_⟩
      · cases tag with
        |none=>
         simp only [TagOK,bs,hbe,List.singleton_append,List.mem_cons,not_or];exact⟨hcb,r4⟩
        |some k=>
         intro k' e' hm2 hne hc2;rcases List.mem_cons.1 hm2 with h|h
         · cases h;rw [hbe,List.mem_singleton]at hc2;exact hcb hc2
         · exact r4 k' e' h hne hc2
      · obtain⟨q,h1,h2⟩:=List.mem_map.1 hm2;exact List.mem_map.2 ⟨q,(List.mem_filter.1 h1).1,h2⟩
 rcases hy with hy|⟨n,sz,⟨hn,hl,hmx,ho⟩,hy⟩
 · refine tail (.blk b (vs zs) t) (match alN sl with|none=> .own nk 0|some n=> .osl nk 0 n n) rfl ?_ ?_ (hy b h8 h9)
   · exact⟨zs,(by have h:=cellsR_den (H:=(nk,Ent.blk b (vs zs) t)::H) (vs zs);rwa [denL_vs]at h),h5⟩
   · cases sl
     · simp [alN,den,bOf,findE,alV]
     · simp [alN,den,bOf,findE,alV,rowVal,capOf,undef]
 · cases sl with
   |false=>cases hn
   |true=>
    cases hn;have hz:=hAl.nil rfl;subst hz;refine tail (.row (.slice (some ⟨b,0,none⟩) 0 0) 0 (denL H (vs [])) sz t) (.row nk) rfl ?_ ?_ (hy b h8 h9)
    · refine⟨by simp [vs,denL], .inr ⟨b,0, #[],rfl,Nat.zero_le _,h5,Nat.le_refl _,by decide,by simp,by simp [vs,denL]⟩⟩
    · simp [den,rowVal,findE,alV]
set_option maxHeartbeats 2000000 in
theorem plan_go (hP:POK X.P X.tt) (hA:allocB X.tt X.nt ops=true) (hN:ops.toList.all nosel=true) {H0:Hp} {w0:World} (hQ:∀st' a' w',K st'→Lv X H0 w0 st' a' w'→Q .normal a' w'):
 ∀(fuel:Nat) (plan:PT) (L:List Nat) (pend:List (Nat×Value)) (early:List (Nat×Nat)) (listed:Array Bool) (pr:List (Nat×Option Nat)) (st:St) (a:Act) (w:World),planB ops L plan=true→Pl ops L (pend.map (·.1)) (early.map (·.1)) listed→
  Dy X ops H0 w0 L early st (putAll ops pend a) w→PendOK X.P st.H w pr (early.map (·.2)) ops pend a→cnt ops listed≤fuel→xplan X ops.toList plan st pr K→wpAny X.P .any ops Q fuel listed a w:=by
 intro fuel
 induction fuel using Nat.strongRecOn with
 |_ fuel ihf=>
 intro plan
 induction plan with
 |nil=>
  intro L pend early listed pr st a w hp hpl hdy hpo hc hx;have hall:∀j,j<ops.size→j∈L:=fun j hj=>memN_iff.1 (List.all_eq_true.1 hp j (by simpa using hj))
  have he:early= []:=by
   cases early with
   |nil=>rfl
   |cons p r=>
    obtain⟨o,h1,_⟩:=hpl.eA p.1 (by simp);exact absurd (hall _ (opsLt h1)) (hpl.eL p.1 (by simp))
  subst he;by_cases hpk:pend= []
  · subst hpk
    have hr:Region.ready .any ops listed= []:=by
     rw [List.eq_nil_iff_forall_not_mem];intro j hj;obtain⟨oj,hoj,_,_,hor⟩:=hpl.ready hj;rcases hor with h|h
     · cases h
     · exact h (hall j (opsLt hoj))
    exact wpAny_done hr (hQ st a w hx ⟨hdy.rel,hdy.fx,hdy.bsn⟩) fuel
  · refine wpAny_real hpl.sz hc (hpl.pend_ready (by simpa using hpk)) fun f hf j hj hcj=> ?_
    obtain⟨oj,hoj,hd,_,hor⟩:=hpl.ready hj;have hjp:=hor.resolve_right fun h=>h (hall j (opsLt hoj))
    exact drain_go hN hpl hpo hoj hd hjp fun pend' a' h1 h2 h3=>ihf f (by omega) .nil L pend' [] _ pr st a' w hp h1 (by rw [h2];exact hdy) h3 hcj hx
 |fork x y ih1 ih2=>
  clear ih1 ih2;intro L pend early listed pr st a w hp hpl hdy hpo hc hx;have hp0:=hp;have hx0:=hx;rcases x with _|⟨i,S,fl,r⟩|_<;>rcases y with _|⟨j,S',fl',r'⟩|_<;>simp only [planB,Bool.false_eq_true]at hp
  split at hp
  case h_2=>cases hp
  rename_i oi oj hi hj;split at hp
  case h_1=>
   simp only [Bool.and_eq_true,forkB,Bool.not_eq_true']at hp;obtain⟨⟨iL,id,iv,ia,ig,is⟩,⟨jL,jd,jv,ja,jg,js⟩,ir,jr⟩:=hp;have ig:oi.guard=none:=by cases h:oi.guard with|none=>rfl|some _=>rw [h]at ig;cases ig
   have jg:oj.guard=none:=by cases h:oj.guard with|none=>rfl|some _=>rw [h]at jg;cases jg
   have iL:i∉L:=fun h=>by rw [memN_iff.2 h]at iL;cases iL
   have jL:j∉L:=fun h=>by rw [memN_iff.2 h]at jL;cases jL
   have id:=subN_iff.1 id;have jd:=subN_iff.1 jd;simp only [xplan,nthO_eq,Array.getElem?_toList,hi,hj,ig,jg,guardVC]at hx
   have hie:i∉early.map (·.1):=fun he=>by
    obtain⟨oe,h1,h2,_⟩:=hpl.eA i he;rw [hi]at h1;cases h1;rw [ia]at h2;cases h2
   have hne:Region.ready .any ops listed≠ []:=by
    by_cases hpk:pend= []
    · subst hpk;exact hpl.head_ready hi iL hie id
    · exact hpl.pend_ready (by simpa using hpk)
   refine wpAny_real hpl.sz hc hne fun f hf k hk hck=> ?_
   obtain⟨ok,hok,hd,hke,hor⟩:=hpl.ready hk;rcases hor with hkp|hkL
   · exact drain_go hN hpl hpo hok hd hkp fun pend' a' h1 h2 h3=>ihf f (by omega) _ L pend' early _ pr st a' w hp0 h1 (by rw [h2];exact hdy) h3 hck hx0
   · have his:=is;simp only [serB,Bool.and_eq_true]at his;rcases hpl.only his.1 hok hkL hd with rfl|hka|hkj
     · rw [hi]at hok;cases hok;exact ser_go hP hA hN ihf hi iL id iv ia is ir hpl hdy hpo (by simp [Region.wanted,ig]) hx.1 (by omega) hd hck
     · obtain⟨ha,hdl⟩:=allocsR_mem hka hok;exact early_go hP.tt hA hN hpl hdy hpo hok hkL hke ha hd hdl fun early' a' w' h1 h2 h3=>ihf f (by omega) _ L pend early' _ pr st a' w' hp0 h1 h2 h3 hck hx0
     · simp at hkj;subst hkj;rw [hj]at hok;cases hok;exact ser_go hP hA hN ihf hj jL jd jv ja js jr hpl hdy hpo (by simp [Region.wanted,jg]) hx.2 (by omega) hd hck
  case h_2 hja=>
   split at hp
   case h_2=>cases hp
   rename_i k S2 fl2 r2;split at hp
   case h_2=>cases hp
   rename_i ok hk;simp only [Bool.and_eq_true,forkB,Bool.not_eq_true']at hp;obtain⟨⟨iL,id,iv,ia,ig,is⟩,jL,jd,jk,⟨kL,kd,kv,ka,kg,ks⟩,ir,kr⟩:=hp;have ig:oi.guard=none:=by cases h:oi.guard with|none=>rfl|some _=>rw [h]at ig;cases ig
   have kg:ok.guard=none:=by cases h:ok.guard with|none=>rfl|some _=>rw [h]at kg;cases kg
   have jg:oj.guard=none:=by unfold isAlloc at hja;cases h:oj.guard with|none=>rfl|some _=>rw [h]at hja;cases hja
   have jv:isVal oj=false:=by cases h:isVal oj with|false=>rfl|true=>rw [val_alloc h]at hja;cases hja
   have iL:i∉L:=fun h=>by rw [memN_iff.2 h]at iL;cases iL
   have jL:j∉L:=fun h=>by rw [memN_iff.2 h]at jL;cases jL
   have kL:k∉j::L:=fun h=>by rw [memN_iff.2 h]at kL;cases kL
   have id:=subN_iff.1 id;have jd:=subN_iff.1 jd;have kd:=subN_iff.1 kd;have jk:=memN_iff.1 jk;simp only [xplan,nthO_eq,Array.getElem?_toList,hi,hj,hk,ig,jg,kg,guardVC]at hx
   have hie:i∉early.map (·.1):=fun he=>by
    obtain⟨oe,h1,h2,_⟩:=hpl.eA i he;rw [hi]at h1;cases h1;rw [ia]at h2;cases h2
   have hne:Region.ready .any ops listed≠ []:=by
    by_cases hpk:pend= []
    · subst hpk;exact hpl.head_ready hi iL hie id
    · exact hpl.pend_ready (by simpa using hpk)
   refine wpAny_real hpl.sz hc hne fun f hf m hm hcm=> ?_
   obtain⟨om,hom,hd,hme,hor⟩:=hpl.ready hm;rcases hor with hmp|hmL
   · exact drain_go hN hpl hpo hom hd hmp fun pend' a' h1 h2 h3=>ihf f (by omega) _ L pend' early _ pr st a' w hp0 h1 (by rw [h2];exact hdy) h3 hcm hx0
   · have his:=is;simp only [serB,Bool.and_eq_true]at his;rcases hpl.only his.1 hom hmL hd with rfl|hma|hmk
     · rw [hi]at hom;cases hom;exact ser_go hP hA hN ihf hi iL id iv ia is ir hpl hdy hpo (by simp [Region.wanted,ig]) hx.1 (by omega) hd hcm
     · obtain⟨ha,hdl⟩:=allocsR_mem hma hom;exact early_go hP.tt hA hN hpl hdy hpo hom hmL hme ha hd hdl fun early' a' w' h1 h2 h3=>ihf f (by omega) _ L pend early' _ pr st a' w' hp0 h1 h2 h3 hcm hx0
     · simp at hmk;subst hmk;rw [hk]at hom;cases hom;have hje:j∈early.map (·.1):=((hpl.list j).1 (hd j jk)).resolve_left fun h=>jL h.1
       obtain⟨⟨j',b⟩,hjm,rfl⟩:=List.mem_map.1 hje
       exact inst_go hP hA hj hjm jL jd jv hja hpl hdy hpo hx.2 fun early' st2 g1 g2 g3 hK2=>
        ser_go hP hA hN ihf hk kL kd kv ka ks kr g1 g2 g3 (by simp [Region.wanted,kg]) hK2 (by omega) hd hcm
 |op i S fl rest ih=>
  intro L pend early listed pr st a w hp hpl hdy hpo hc hx;have hp0:=hp;simp only [planB]at hp;split at hp
  case h_2=>cases hp
  rename_i oi hi;simp only [Bool.and_eq_true]at hp;obtain⟨hL,hdL,hfree,hkind,hrest⟩:=hp;have hL:i∉L:=fun h=>by rw [memN_iff.2 h]at hL;cases hL
  have hdL:=subN_iff.1 hdL;have hx0:=hx;simp only [xplan,nthO_eq,Array.getElem?_toList,hi]at hx;obtain⟨st1,hsm,hdd,hr1,hg⟩:=guard_ok hx hdy.rel;have hpo1:PendOK X.P st1.H w pr (early.map (·.2)) ops pend a:=by rw [hsm.H];exact hpo
  have heok1:EarlyOK X w0 st1 ops (putAll ops pend a) w early:=⟨hdy.eok.nd,hdy.eok.ndb,fun i b hm=>by rw [hsm.H,hsm.lo,hsm.iv];exact hdy.eok.at_ i b hm⟩;have hdy1:Dy X ops H0 w0 L early st1 (putAll ops pend a) w:=⟨hr1,heok1,fun i oi d h1 h2 h3 h4=>hdd d (hdy.dd i oi d h1 h2 h3 h4),hdy.fx,by rw [hsm.H];exact hdy.bsn,hdy.x0⟩
  have hdist:∀e,e∈early.map (·.1)→e≠i→∀oe d,ops[e]?=some oe→oe.dst=some d→oi.dst≠some d:=by
   intro e he hne oe d hoe hd;obtain⟨oe',h1,h2,_⟩:=hpl.eA e he;rw [hoe]at h1;cases h1;obtain⟨_,_,d2,_,_,hd2,_,_,ho2⟩:=alloc_spec hA hoe h2;rw [hd]at hd2;cases hd2;exact ho2 i oi hi (Ne.symm hne)
  have hdist2:∀e oe d,ops[e]?=some oe→isAlloc oe=true→e∉i::L→oe.dst=some d→oi.dst≠some d:=by
   intro e oe d hoe ha hne hd;obtain⟨_,_,d2,_,_,hd2,_,_,ho2⟩:=alloc_spec hA hoe ha;rw [hd]at hd2;cases hd2;exact ho2 i oi hi fun x=>hne (by rw [x];exact List.mem_cons_self)
  have hipk:∀j,j∈pend.map (·.1)→j≠i:=fun j hj e=>hL (e▸hpl.pL j hj)
  have virt:∀(pr':List (Nat×Option Nat)) (v:Value) (s:SV),(∀j,j≠i→getTag pr' j=getTag pr j)→(s= .bad∨v=den st1.H s)→put X st1 oi.dst s (fun st=>xplan X ops.toList rest st pr' K)→freeB ops oi i L=true→i∉early.map (·.1)→
   Yl X.P st1.H w pr' (early.map (·.2)) ops i oi v (putAll ops pend a)→wpAny X.P .any ops Q fuel listed a w:=by
   intro pr' v s hpr hv hput hf he hy;obtain⟨st2,⟨hK2,hs2,hdd2⟩,hr2,hH2⟩:=put_ok hr1 (put_sm hput) hv;have hpa:putAll ops ((i,v)::pend) a=(putAll ops pend a).put oi.dst v:=by simp [putAll,dstA,hi]
   refine ih (i::L) ((i,v)::pend) early listed pr' st2 a w hrest (hpl.virt hi hL he hdL hf) ?_ ?_ hc hK2
   · rw [hpa]
     refine⟨hr2,heok1.next (o:=oi) (fun e hem oe d h1 h2=>hdist e hem (fun x=>he (x▸hem)) oe d h1 h2) (fun _ _ _=>rfl) (fun b hb=>by rw [hs2.H]at hb;exact .inl hb) hs2.lo (fun b _ h=>by rw [hs2.iv];exact h),
      fun e oe d h1 h2 h3 h4=>hdd2 d (hdist2 e oe d h1 h2 h3 h4) (hdy1.dd e oe d h1 h2 (fun x=>h3 (List.mem_cons_of_mem _ x)) h4),hdy.fx,by rw [hs2.H];exact hdy1.bsn,hdy.x0⟩
   · rw [hs2.H];refine⟨⟨oi,hi,hy,fun q hq oq hoq=>hpl.pfree q.1 (List.mem_map.2 ⟨q,hq,rfl⟩) oq hoq i oi hi hL⟩,hpo1.move fun j hj oj _ R hR=>⟨?_,fun _ _=>rfl⟩⟩;rcases hR with rfl|⟨b,tag,r0,r1,r2,r3⟩
     · exact .inl rfl
     · exact .inr ⟨b,tag,r0,r1,by rw [hpr j (hipk j hj)];exact r2,r3⟩
  have hnek:isAlloc oi=false→i∉early.map (·.1):=fun h he=>by
   obtain⟨oe,h1,h2,_⟩:=hpl.eA i he;rw [hi]at h1;cases h1;rw [h]at h2;cases h2
  rcases hg with⟨hw,hy⟩|⟨hw,hno⟩
  case inr=>
   have hgs:oi.guard.isSome=true:=by
    cases hgd:oi.guard with
    |none=>simp [Region.wanted,hgd]at hw
    |some g=>rfl
   have hna:isAlloc oi=false:=by
    cases hgd:oi.guard with
    |none=>simp [hgd]at hgs
    |some g=>
     unfold isAlloc;rw [hgd]
   refine virt pr undef (.v undef) (fun _ _=>rfl) (.inr rfl) hno ?_ (hnek hna) (.inr ⟨hw,rfl⟩);simpa [hgs]using hfree
  case inl=>
  cases hval:isVal oi with
  |true=>
   have hna:isAlloc oi=false:=val_alloc hval;have hy:=step_plain hy fun h=>by rw [val_call hval]at h;cases h.1
   obtain⟨out,hK,hout⟩:=ev1_ok hP.tt hP.ng hr1.ev (rowsOK_of hr1.cls) hy;simp only [finP,hval]at hK;cases out<;>try exact hK.elim
   rename_i s;obtain⟨R,hRd,hrun⟩:=hout.2 w hr1.cls;simp only [hval,Bool.or_eq_true,Bool.not_eq_true']at hkind
   obtain⟨pr',hput,hpr,hRok⟩:=rd_ok (E:=early.map (·.2)) hK hRd hr1.cls (fun b hb=>by
    obtain⟨⟨e,b'⟩,h1,rfl⟩:=List.mem_map.1 hb;obtain⟨_,_,_,_,_,_,_,_,_,_,_,g7,g8,g9,g10⟩:=heok1.at_ e b' h1;exact⟨Nat.le_trans hdy.x0 g10,g8,g7,g9⟩) (by
    rcases hkind with h|h|h
    · exact .inl h
    · exact .inr (.inl h)
    · right;right;cases hear:early with
      |nil=>rfl
      |cons p r=>
       exfalso;obtain⟨o,h1,h2,_⟩:=hpl.eA p.1 (by rw [hear];simp);have:=List.all_eq_true.1 h p.1 (by simpa using opsLt h1)
       simp only [h1,h2,Bool.not_true,Bool.or_false,memN_iff]at this;exact hpl.eL p.1 (by rw [hear];simp) this)
   refine virt pr' (den st1.H s) s hpr (.inr rfl) hput ?_ (hnek hna) (.inl ⟨hw,R,hRok,hrun⟩);simpa [hval]using hfree
  |false=>
  simp only [hval]at hkind
  have step:(∀j oj,ops[j]?=some oj→j∉L→(∀d,d∈deps oj→Ls listed d)→j=i∨j∈allocsR ops L)→i∉early.map (·.1)→
   (∀f,f<fuel→(∀d,d∈deps oi→Ls listed d)→cnt ops (listed.setIfInBounds i true)≤f→wpOp X.P ops Q i (wpAny X.P .any ops Q f (listed.setIfInBounds i true)) a w)→wpAny X.P .any ops Q fuel listed a w:=by
   intro hcase hie hex
   have hne:Region.ready .any ops listed≠ []:=by
    by_cases hpk:pend= []
    · subst hpk;exact hpl.head_ready hi hL hie hdL
    · exact hpl.pend_ready (by simpa using hpk)
   refine wpAny_real hpl.sz hc hne fun f hf j hj hcj=> ?_
   obtain⟨oj,hoj,hd,hje,hor⟩:=hpl.ready hj;rcases hor with hjp|hjL
   · exact drain_go hN hpl hpo hoj hd hjp fun pend' a' h1 h2 h3=>ihf f (by omega) _ L pend' early _ pr st a' w hp0 h1 (by rw [h2];exact hdy) h3 hcj hx0
   · rcases hcase j oj hoj hjL hd with rfl|hja
     · rw [hi]at hoj;cases hoj;exact hex f (by omega) hd hcj
     · obtain⟨ha,hdl⟩:=allocsR_mem hja hoj;exact early_go hP.tt hA hN hpl hdy hpo hoj hjL hje ha hd hdl fun early' a' w' h1 h2 h3=>ihf f (by omega) _ L pend early' _ pr st a' w' hp0 h1 h2 h3 hcj hx0
  cases hal:isAlloc oi with
  |true=>
   simp only [hal]at hkind;by_cases hin:i∈early.map (·.1)
   · obtain⟨⟨i',b⟩,hm,rfl⟩:=List.mem_map.1 hin;exact inst_go hP hA hi hm hL hdL hval hal hpl hdy1 hpo1 hy fun early' st2 g1 g2 g3 hK2=>ih (i'::L) pend early' listed pr st2 a w hrest g1 g2 g3 hc hK2
   · exact step (fun j oj hoj hjL hd=>hpl.turn hkind hoj hjL hd hin) hin fun f hf hd hcj=>
      early_go hP.tt hA hN hpl hdy hpo hi hL hin hal hd hdL fun early' a' w' h1 h2 h3=>ihf f hf _ L pend early' _ pr st a' w' hp0 h1 h2 h3 hcj hx0
  |false=>
   simp only [hal]at hkind;have hks:=hkind;simp only [serB,Bool.and_eq_true]at hks
   exact step (fun j oj hoj hjL hd=>by
    rcases hpl.only hks.1 hoj hjL hd with h|h|h
    · exact .inl h
    · exact .inr h
    · cases h) (hnek hal) fun f hf hd hcj=>ser_go hP hA hN ihf hi hL hdL hval hal hkind hrest hpl hdy1 hpo1 hw hy hf hd hcj
end
section
variable {X : Cx} {st : St} {a : Act} {w : World} {Q : Exit → Act → World → Prop}
theorem look_kill {ops:List Oper} {T:List (Nat×SV)} {d:Nat} {s:SV} (h:look (killA ops T) d=some s):s= .bad∨look T d=some s:=by
 induction ops with
 |nil=>exact .inr h
 |cons o l ih=>
  simp only [killA]at h;split at h
  · simp only [look]at h;split at h
    · cases h;exact .inl rfl
    · exact ih h
  · exact ih h
theorem dead_kill {ops:List Oper} {T:List (Nat×SV)} {o:Oper} (hm:o∈ops) (ha:isAlloc o=true) {d:Nat} (hd:o.dst=some d):dead (killA ops T) d:=by
 intro s hs
 induction ops with
 |nil=>cases hm
 |cons x l ih=>
  simp only [killA]at hs;rcases List.mem_cons.1 hm with rfl|hm
  · simp only [ha,hd,look]at hs;simp at hs;exact hs.symm
  · split at hs
    · simp only [look]at hs;split at hs
      · cases hs;rfl
      · exact ih hm hs
    · exact ih hm hs
theorem Rel.kill {T:List (Nat×SV)} {H:Hp} {nk lo lo':Nat} {ws:World} {iv:List (Nat×Nat)} {T':List (Nat×SV)} (hr:Rel X ⟨T,H,nk,ws,lo,iv⟩ a w) (hT:∀d s,look T' d=some s→s= .bad∨look T d=some s) (hlo:lo'≤w.heap.size):Rel X ⟨T',H,nk,ws,lo', []⟩ a w:=
 ⟨hr.size,fun d s h=>by
  rcases hT d s h with h|h
  · exact .inl h
  · exact hr.T d s h,hr.dfs,hr.cls,hlo,by simp⟩
theorem region_draw_any (hP:POK X.P X.tt) {ops:Array Oper} {T:List (Nat×SV)} {H:Hp} {nk lo:Nat} {ws:World} {iv:List (Nat×Nat)} {p:PT} {K:St→Prop} (hr:Rel X ⟨T,H,nk,ws,lo,iv⟩ a w) (hp:planOK X.tt X.nt ops p=true)
 (h:xplan X ops.toList p ⟨killA ops.toList T,H,nk,ws,ws.heap.size, []⟩ [] K) (hQ:∀st' a' w',K st'→Lv X H w st' a' w'→Q .normal a' w'):wpAny X.P .any ops Q ops.size (Array.replicate ops.size false) a { w with drawn:=w.drawn+1}:=by
 simp only [planOK,Bool.and_eq_true]at hp;obtain⟨hp,hA,hN⟩:=hp;have hd:Fx (bs H) w { w with drawn:=w.drawn+1}:=⟨rfl,rfl,rfl,Nat.le_refl _,fun _ _ _=>rfl⟩
 have hcls:Cls X H nk ws { w with drawn:=w.drawn+1}:=by
  have hc:=hr.cls;refine⟨hc.fx.drew,hc.fx0.drew,fun k e hm=> ?_,hc.nd,hc.lb,hc.keys,hc.lt⟩;exact entAt_keep (hc.own k e hm) fun _ _=>rfl
 have hr0:Rel X ⟨T,H,nk,ws,lo,iv⟩ a { w with drawn:=w.drawn+1}:=⟨hr.size,hr.T,hr.dfs,hcls,hr.lo,hr.iv⟩
 have hr1:Rel X ⟨killA ops.toList T,H,nk,ws,ws.heap.size, []⟩ a { w with drawn:=w.drawn+1}:=hr0.kill (fun d s h=>look_kill h) hr.cls.fx.size
 have hcnt:cnt ops (Array.replicate ops.size false)≤ops.size:=by
  unfold cnt;exact Nat.le_trans List.countP_le_length (by simp)
 refine plan_go (L:= []) (pend:= []) (early:= []) (H0:=H) (w0:=w) (K:=K) hP hA hN (fun st' a' w' hk hl=>hQ st' a' w' hk hl) ops.size p _ [] _ a _ hp ?_ ?_ trivial hcnt h
 · refine⟨by simp,by simp,fun j=> ?_,by simp,by simp,by simp,fun j o hj=> ?_,by simp,by simp,by simp,by simp,by simp⟩
   · simp only [List.not_mem_nil,false_and,List.map_nil,or_self,iff_false];unfold Ls;simp [Array.getElem?_replicate];split<;>simp
   · exfalso;unfold Ls at hj;simp [Array.getElem?_replicate]at hj;split at hj<;>simp at hj
 · refine⟨hr1,⟨by simp,by simp,by simp⟩,fun i oi d h1 h2 _ h4=> ?_,hd,fun b hb=> .inl hb,hr.cls.fx0.size⟩;exact dead_kill (List.mem_of_getElem? (by simpa using h1)) h2 h4
def plain:Exit→Prop
 | .normal=>True
 | .exit _=>True
 | .ret=>True
 |_=>False
theorem resOf_ok (hT:TTok X.P X.tt) (hr:Rel X st a w):∀(l:List ResultVar) (r:List SV),resOf X st l=some r→
 (l.mapM (fun| .tmp t=>pure (a.tmps.getD t undef)| .cell b t=>do loadVar t (←asAddr (a.tmps.getD b undef)):ResultVar→Sem Value)).run X.P w= .ok (denL st.H r) w∧ .bad∉r
 | [],r,h=>by cases h;exact⟨rfl,by simp⟩
 | .tmp t::l,r,h=>by
  simp only [resOf]at h;split at h
  · cases h
  · rename_i s l' hnb hs hl;cases h;obtain⟨ih1,ih2⟩:=resOf_ok hT hr l _ hl
    have hv:a.tmps[t]?=some (den st.H s):=by
     obtain⟨hlt,hs⟩:=lookR_some hs;rcases hr.T t s hs with h|h
     · exact(hnb h).elim
     · rwa [slotv,if_pos hlt]at h
    refine⟨?_,by simp only [List.mem_cons,not_or];exact⟨fun e=>hnb e.symm,ih2⟩⟩;have ha:a.tmps.getD t undef=den st.H s:=by simp [hv]
    simp only [List.mapM_cons,Sem.run_bind,Sem.run_pure,ha,Result.andThen_ok,ih1,denL]
  · cases h
 | .cell b t::l,r,h=>by
  simp only [resOf]at h;split at h
  · rename_i i k o l' hi hs hl;split at h
    · rename_i bb cs ty hf;split at h
      · rename_i c hc;split at h
        · rename_i s hm;cases h;obtain⟨ih1,ih2⟩:=resOf_ok hT hr l _ hl;have hti:=hT t i hi
          have hv:a.tmps[b]?=some (.pointer (some ⟨bb,o,none⟩)):=by
           obtain⟨hlt,hs⟩:=lookR_some hs;rcases hr.T b _ hs with h|h
           · cases h
           · rw [slotv,if_pos hlt]at h;simpa [den,bOf_blk hf]using h
          obtain⟨xs,hx,hh⟩:=hr.cls.blk hf;obtain⟨h1,h2,h3⟩:=cells_at hx hc;have hb:=(takeN_eq hc).2.2;have hone:i.agg=false→(denL st.H c).length=1:=fun ha=>by rw [denL_length];exact mk_one hm ha
          have hrun:=run_loadVar (P:=X.P) hti (w:=w) (b:=bb) (o:=o) (cs:=denL st.H c) (by rw [denL_length,h2]) (fun j hj=>by
           rw [cell_arr hh];simp only [List.getElem?_toArray];exact take_get h1 hj) hone
          rw [mk_val hm hb]at hrun;refine⟨?_,by simp only [List.mem_cons,not_or];exact⟨fun e=>(mkv_den (H:=st.H) hm hb).1 e.symm,ih2⟩⟩;have ha:(asAddr (a.tmps.getD b undef)).run X.P w= .ok ⟨bb,o,none⟩ w:=by simp [hv,asAddr]
          simp only [List.mapM_cons,Sem.run_bind,Sem.run_pure,ha,hrun,Result.andThen_ok,ih1,denL]
        · cases h
      · cases h
    · cases h
  · cases h
def retV (H:Hp):List SV→Value
 | [s]=>den H s
 |l=> .tuple (denL H l).toArray
theorem results_ok (hT:TTok X.P X.tt) (hr:Rel X st a w) {fn:Func} {l:List SV} (h:resOf X st fn.results.toList=some l):
 (results fn a.tmps).run X.P w= .ok (retV st.H l) w:=by
 obtain⟨h1,_⟩:=resOf_ok hT hr _ _ h;unfold results;rw [Array.mapM_eq_mapM_toList];simp only [Sem.run_bind,map_eq_pure_bind,Sem.run_pure];have h2:∀(g:ResultVar→Sem Value),(g=fun| .tmp t=>pure (a.tmps.getD t undef)| .cell b t=>do loadVar t (←asAddr (a.tmps.getD b undef)))→(List.mapM g fn.results.toList).run X.P w= .ok (denL st.H l) w:=fun g hg=>by subst hg;exact h1
 rw [h2 _ (by funext x;cases x<;>rfl)];simp only [Result.andThen_ok]
 match l with
 | []=>simp [denL,retV]
 | [s]=>simp [denL,retV]
 |s::s'::l=>simp [denL,retV]
theorem zipT_look {n:Nat} {l:List SV} {d:Nat} {s:SV} (h:look (zipT n l) d=some s):n≤d∧l[d-n]?=some s:=by
 induction l generalizing n with
 |nil=>simp [zipT,look]at h
 |cons x l ih=>
  simp only [zipT,look]at h;split at h
  · rename_i hb;cases h;obtain rfl:=beqT hb;simp
  · rename_i hb;obtain⟨h1,h2⟩:=ih h;have:d-n=(d-(n+1))+1:=by omega
    rw [this];exact⟨by omega,by simpa using h2⟩
theorem Cls.nil (X:Cx) (nk:Nat):Cls X [] nk X.w0 X.w0:=⟨Fx.refl _ _,Fx.refl _ _,by simp,by simp [bs],by simp [bs],by simp,by simp⟩
def ndB:List Nat→Bool
 | []=>true
 |x::l=>match memN x l with|true=>false|false=>ndB l
theorem ndB_ok {l:List Nat} (h:ndB l=true):l.Nodup:=by
 induction l with
 |nil=>simp
 |cons x l ih=>
  simp only [ndB]at h;split at h
  · cases h
  · rename_i hm;rw [List.nodup_cons];exact⟨fun hx=>(by rw [memN_iff.2 hx]at hm;cases hm),ih h⟩
end
def cellB:Value→Value→Bool
 | .int k a, .int j b=>decide (k=j)&&decide (a=b)
 | .bool a, .bool b=>a==b
 | .string a, .string b=>decide (a.data=b.data)
 | .pointer none, .pointer none=>true
 | .slice none n c, .slice none m d=>Nat.beq n m&&Nat.beq c d
 | .map none, .map none=>true
 | .nilFunc, .nilFunc=>true
 | .nilIface, .nilIface=>true
 |_,_=>false
theorem cellB_eq {x y:Value} (h:cellB x y=true):x=y:=by
 unfold cellB at h;split at h
 · simp at h;rw [h.1,h.2]
 · simp at h;rw [h]
 · rename_i a b;simp at h;cases a;cases b;simp_all
 · rfl
 · simp at h;rw [h.1,h.2]
 · rfl
 · rfl
 · rfl
 · cases h
def cellsB:List Value→List Value→Bool
 | [], []=>true
 |x::l,y::r=>cellB x y&&cellsB l r
 |_,_=>false
theorem cellsB_eq {l r:List Value} (h:cellsB l r=true):l=r:=by
 induction l generalizing r with
 |nil=>cases r with
  |nil=>rfl
  |cons y r=>cases h
 |cons x l ih=>cases r with
  |nil=>cases h
  |cons y r=>
   simp only [cellsB,Bool.and_eq_true]at h;rw [cellB_eq h.1,ih h.2]
def tiB (P:Program) (t:Nat) (i:TI):Bool:=match P.info? t with
 |some inf=>match inf.zero with
  |some z=>Nat.beq inf.size i.n&&(cellsB z.cells.toList i.z&&(Nat.beq i.z.length i.n&&(i.z.all Value.oneCell'&&chkD P t i)))
  |none=>false
 |none=>false
def ttB (P:Program):List (Nat×TI)→Bool
 | []=>true
 |(t,i)::r=>tiB P t i&&ttB P r
theorem tiB_ok {P:Program} {t:Nat} {i:TI} (h:tiB P t i=true):TIok P t i:=by
 unfold tiB at h;split at h
 · rename_i inf hi;split at h
   · rename_i z hz;simp only [Bool.and_eq_true]at h;obtain⟨h1,h2,h3,h4,h5⟩:=h;exact⟨⟨inf,z,hi,beqT h1,hz,cellsB_eq h2⟩,beqT h3,fun x hx=>List.all_eq_true.1 h4 x hx,h5⟩
   · cases h
 · cases h
theorem ttB_ok {P:Program}:∀ {tt:List (Nat×TI)},ttB P tt=true→TTok P tt
 | [],_=>TTok.nil P
 |(_,_)::_,h=>by
  simp only [ttB,Bool.and_eq_true]at h;exact TTok.cons (tiB_ok h.1) (ttB_ok h.2)
def pokB (P:Program) (tt:List (Nat×TI)):Bool:=ttB P tt&&(P.funcs.toList.all (fun fn=> !(fn.name== "runtime.NumGoroutine"))&&P.follows .mixedOrders)
theorem pokB_ok {P:Program} {tt:List (Nat×TI)} (h:pokB P tt=true):POK P tt:=by
 simp only [pokB,Bool.and_eq_true]at h;refine⟨ttB_ok h.1,fun g fn hg=> ?_,h.2.2⟩;have:=List.all_eq_true.1 h.2.1 fn (by simpa using Array.mem_of_getElem? hg)
 simpa using this
end Go.Sx
