/- A reflective walk over the code of the model: its definitions and that it is sound. -/
import Derived.Test.YtdhjccionnbljaaA1
set_option linter.unusedVariables false
set_option linter.unusedSimpArgs false
namespace Go.Sx
open Go Go.RowKit
section
variable {X : Cx} {st : St} {a : Act} {w : World} {Q : Exit → Act → World → Prop}
theorem look_kill {ops : List Oper} {T : List (Nat × SV)} {d : Nat} {s : SV} (h : look (killA ops T) d = some s) : s = .bad ∨ look T d = some s := by
  induction ops with
  | nil => exact .inr h
  | cons o l ih =>
    simp only [killA] at h
    split at h
    · simp only [look] at h
      split at h
      · cases h; exact .inl rfl
      · exact ih h
    · exact ih h
theorem dead_kill {ops : List Oper} {T : List (Nat × SV)} {o : Oper} (hm : o ∈ ops) (ha : isAlloc o = true) {d : Nat} (hd : o.dst = some d) : dead (killA ops T) d := by
  intro s hs
  induction ops with
  | nil => cases hm
  | cons x l ih =>
    simp only [killA] at hs
    rcases List.mem_cons.1 hm with rfl | hm
    · simp only [ha, hd, look] at hs
      simp at hs; exact hs.symm
    · split at hs
      · simp only [look] at hs
        split at hs
        · cases hs; rfl
        · exact ih hm hs
      · exact ih hm hs
theorem Rel.kill {T : List (Nat × SV)} {H : Hp} {nk lo lo' : Nat} {ws : World} {iv : List (Nat × Nat)} {T' : List (Nat × SV)} (hr : Rel X ⟨T, H, nk, ws, lo, iv⟩ a w) (hT : ∀ d s, look T' d = some s → s = .bad ∨ look T d = some s) (hlo : lo' ≤ w.heap.size) : Rel X ⟨T', H, nk, ws, lo', []⟩ a w :=
  ⟨hr.size, fun d s h => by
    rcases hT d s h with h | h
    · exact .inl h
    · exact hr.T d s h, hr.dfs, hr.cls, hlo, by simp⟩
theorem region_draw_any (hP : POK X.P X.tt) {ops : Array Oper} {T : List (Nat × SV)} {H : Hp} {nk lo : Nat} {ws : World} {iv : List (Nat × Nat)} {p : List PI} {K : St → Prop} (hr : Rel X ⟨T, H, nk, ws, lo, iv⟩ a w) (hp : planOK X.tt X.nt ops p = true)
    (h : xplan X ops.toList p ⟨killA ops.toList T, H, nk, ws, ws.heap.size, []⟩ [] K) (hQ : ∀ st' a' w', K st' → Lv X H w st' a' w' → Q .normal a' w') : wpAny X.P .any ops Q ops.size (Array.replicate ops.size false) a { w with drawn := w.drawn + 1 } := by
  simp only [planOK, Bool.and_eq_true] at hp
  obtain ⟨hp, hA, hN⟩ := hp
  have hd : Fx (bs H) w { w with drawn := w.drawn + 1 } := ⟨rfl, rfl, rfl, Nat.le_refl _, fun _ _ _ => rfl⟩
  have hcls : Cls X H nk ws { w with drawn := w.drawn + 1 } := by
    have hc := hr.cls
    refine ⟨hc.fx.drew, hc.fx0.drew, fun k e hm => ?_, hc.nd, hc.lb, hc.keys, hc.lt⟩
    exact entAt_keep (hc.own k e hm) fun _ _ => rfl
  have hr0 : Rel X ⟨T, H, nk, ws, lo, iv⟩ a { w with drawn := w.drawn + 1 } := ⟨hr.size, hr.T, hr.dfs, hcls, hr.lo, hr.iv⟩
  have hr1 : Rel X ⟨killA ops.toList T, H, nk, ws, ws.heap.size, []⟩ a { w with drawn := w.drawn + 1 } := hr0.kill (fun d s h => look_kill h) hr.cls.fx.size
  have hcnt : cnt ops (Array.replicate ops.size false) ≤ ops.size := by
    unfold cnt
    exact Nat.le_trans List.countP_le_length (by simp)
  refine plan_go (L := []) (pend := []) (early := []) (H0 := H) (w0 := w) (K := K) hP hA hN (fun st' a' w' hk hl => hQ st' a' w' hk hl) ops.size p _ [] _ a _ hp ?_ ?_ trivial hcnt h
  · refine ⟨by simp, by simp, fun j => ?_, by simp, by simp, by simp, fun j o hj => ?_, by simp, by simp, by simp, by simp, by simp⟩
    · simp only [List.not_mem_nil, false_and, List.map_nil, or_self, iff_false]
      unfold Ls; simp [Array.getElem?_replicate]; split <;> simp
    · exfalso; unfold Ls at hj; simp [Array.getElem?_replicate] at hj; split at hj <;> simp at hj
  · refine ⟨hr1, ⟨by simp, by simp, by simp⟩, fun i oi d h1 h2 _ h4 => ?_, hd, fun b hb => .inl hb, hr.cls.fx0.size⟩
    exact dead_kill (List.mem_of_getElem? (by simpa using h1)) h2 h4
theorem region_seq_ok (hP : POK X.P X.tt) {ops : Array Oper} {id : Nat} {T : List (Nat × SV)} {H : Hp} {nk lo : Nat} {ws : World} {iv : List (Nat × Nat)} {K : St → Prop} (hr : Rel X ⟨T, H, nk, ws, lo, iv⟩ a w)
    (h : xops X ops.toList ops.toList ⟨T, H, nk, ws, ws.heap.size, []⟩ K) (hQ : ∀ st' a' w', K st' → Lv X H w st' a' w' → Q .normal a' w') : (Code.region id ops false).wp X.P Q a w := by
  exact wp_region_list (xops_ok hP ops.toList _ a w K h (hr.kill (fun _ _ h => .inr h) hr.cls.fx.size) hQ)
def plain : Exit → Prop
  | .normal => True
  | .exit _ => True
  | .ret => True
  | _ => False
theorem code_ok (hP : POK X.P X.tt) (c : Code) : ∀ (st : St) (a : Act) (w : World) (K : Exit → St → Prop) (Q : Exit → Act → World → Prop), code X c st K → Rel X st a w →
    (∀ e st' a' w', plain e → K e st' → Lv X st.H w st' a' w' → Q e a' w') → c.wp X.P Q a w := by
  induction c with
  | skip => exact fun st a w K Q h hr hQ => wp_skip (hQ .normal st a w trivial h (Lv.refl hr))
  | label l => exact fun st a w K Q h hr hQ => wp_label (hQ .normal st a w trivial h (Lv.refl hr))
  | exit id => exact fun st a w K Q h hr hQ => wp_exit (hQ (.exit id) st a w trivial h (Lv.refl hr))
  | ret => exact fun st a w K Q h hr hQ => wp_ret (hQ .ret st a w trivial h (Lv.refl hr))
  | region id ops draw =>
    intro st a w K Q h hr hQ
    obtain ⟨T, H, nk, ws, lo, iv⟩ := st
    cases draw with
    | false => exact region_seq_ok hP hr h fun st' a' w' hk hl => hQ .normal st' a' w' trivial hk hl
    | true =>
      simp only [code] at h
      split at h
      · exact wp_region_any hP.mix (region_draw_any hP hr h.1 h.2 fun st' a' w' hk hl => hQ .normal st' a' w' trivial hk hl)
      · exact h.elim
  | seq x y ihx ihy =>
    intro st a w K Q h hr hQ
    refine wp_seq (ihx st a w _ _ h hr fun e st1 a1 w1 hp hk hl => ?_)
    cases e with
    | normal => exact ihy st1 a1 w1 K Q hk hl.rel fun e st2 a2 w2 hp hk2 hl2 => hQ e st2 a2 w2 hp hk2 (Lv.trans hl hl2)
    | exit id => exact hQ _ _ _ _ hp hk hl
    | ret => exact hQ _ _ _ _ hp hk hl
    | goto l => exact hp.elim
    | panic c => exact hp.elim
    | outgrown => exact hp.elim
  | cond c x y ihx ihy =>
    intro st a w K Q h hr hQ
    simp only [code] at h
    split at h
    · rename_i b hc
      have hb : a.eval c = .bool b := by simpa [den] using (hr.ev c _ hc).2
      cases b with
      | true => exact wp_cond_true hb (ihx st a w K Q h hr hQ)
      | false => exact wp_cond_false hb (ihy st a w K Q h hr hQ)
    · exact h.elim
  | block id c ih =>
    intro st a w K Q h hr hQ
    refine wp_block (ih st a w _ _ h hr fun e st1 a1 w1 hp hk hl => ?_)
    cases e with
    | normal => exact hQ _ _ _ _ hp hk hl
    | exit j =>
      simp only [Exit.inBlock]
      simp only at hk
      split at hk
      · rename_i hb
        rw [if_pos (beqT hb)]
        exact hQ .normal _ _ _ trivial hk hl
      · rename_i hb
        rw [if_neg (beqF hb)]
        exact hQ _ _ _ _ hp hk hl
    | ret => exact hQ _ _ _ _ hp hk hl
    | goto l => exact hp.elim
    | panic c => exact hp.elim
    | outgrown => exact hp.elim
  | scope c ih =>
    intro st a w K Q h hr hQ
    refine wp_scope_straight (ih st a w K _ h hr fun e st1 a1 w1 hp hk hl => ?_)
    cases e with
    | normal => exact hQ _ _ _ _ hp hk hl
    | exit j => exact hQ _ _ _ _ hp hk hl
    | ret => exact hQ _ _ _ _ hp hk hl
    | goto l => exact hp.elim
    | panic c => exact hp.elim
    | outgrown => exact hp.elim
  | loop c ih =>
    intro st a w K Q h hr hQ
    have h : LoopVC X (code X c) st K := h
    obtain ⟨α, f, inv, μ, hat, hstart, hround⟩ := h.ex
    obtain ⟨x0, hsub, hinv⟩ := hstart w hr.cls
    have hrel0 := hsub.rel hr (hat x0 w)
    refine wp_loop_ghost (fun n a1 w1 => ∃ x, μ x = n ∧ inv x w1 ∧ Lv X st.H w (f x w1) a1 w1) (μ x0) ⟨x0, rfl, hinv, hrel0.1, Fx.refl _ _, fun b hb => .inl (hrel0.2 b hb)⟩ ?_
    rintro n a1 w1 ⟨x, rfl, hinv1, hlv⟩
    have hfx : Fx (bs st.H) st.w w1 := Fx.trans hr.cls.fx hlv.fx (fun _ h => h) fun _ h => .inl h
    refine ih (f x w1) a1 w1 _ _ (hround x w1 hfx hinv1) hlv.rel fun e st2 a2 w2 hp hk hl => ?_
    have hl2 := Lv.trans hlv hl
    cases e with
    | normal =>
      obtain ⟨y, hs, hi, hlt⟩ := hk w2 hl2.rel.cls
      have hrel := hs.rel hl2.rel (hat y w2)
      exact ⟨μ y, hlt, y, rfl, hi, hrel.1, hl2.fx, fun b hb => hl2.bs b (hrel.2 b hb)⟩
    | exit j => exact hQ _ _ _ _ hp hk hl2
    | ret => exact hQ _ _ _ _ hp hk hl2
    | goto l => exact hp.elim
    | panic c => exact hp.elim
    | outgrown => exact hp.elim
  | _ => intro st a w K Q h hr hQ; exact h.elim
theorem resOf_ok (hT : TTok X.P X.tt) (hr : Rel X st a w) : ∀ (l : List ResultVar) (r : List SV), resOf X st l = some r →
    (l.mapM (fun | .tmp t => pure (a.tmps.getD t undef) | .cell b t => do loadVar t (← asAddr (a.tmps.getD b undef)) : ResultVar → Sem Value)).run X.P w = .ok (denL st.H r) w ∧ .bad ∉ r
  | [], r, h => by cases h; exact ⟨rfl, by simp⟩
  | .tmp t :: l, r, h => by
    simp only [resOf] at h
    split at h
    · cases h
    · rename_i s l' hnb hs hl
      cases h
      obtain ⟨ih1, ih2⟩ := resOf_ok hT hr l _ hl
      have hv : a.tmps[t]? = some (den st.H s) := by
        rcases hr.T t s hs with h | h
        · exact (hnb h).elim
        · exact h
      refine ⟨?_, by simp only [List.mem_cons, not_or]; exact ⟨fun e => hnb e.symm, ih2⟩⟩
      have ha : a.tmps.getD t undef = den st.H s := by simp [hv]
      simp only [List.mapM_cons, Sem.run_bind, Sem.run_pure, ha, Result.andThen_ok, ih1, denL]
    · cases h
  | .cell b t :: l, r, h => by
    simp only [resOf] at h
    split at h
    · rename_i i k o l' hi hs hl
      split at h
      · rename_i bb cs ty hf
        split at h
        · rename_i c hc
          split at h
          · rename_i s hm
            cases h
            obtain ⟨ih1, ih2⟩ := resOf_ok hT hr l _ hl
            have hti := hT t i hi
            have hv : a.tmps[b]? = some (.pointer (some ⟨bb, o, none⟩)) := by
              rcases hr.T b _ hs with h | h
              · cases h
              · simpa [den, bOf_blk hf] using h
            obtain ⟨xs, hx, hh⟩ := hr.cls.blk hf
            obtain ⟨h1, h2, h3⟩ := cells_at hx hc
            have hb := (takeN_eq hc).2.2
            have hone : i.agg = false → (denL st.H c).length = 1 := fun ha => by rw [denL_length]; exact mk_one hm ha
            have hrun := run_loadVar (P := X.P) hti (w := w) (b := bb) (o := o) (cs := denL st.H c) (by rw [denL_length, h2]) (fun j hj => by
              rw [cell_arr hh]; simp only [List.getElem?_toArray]; exact take_get h1 hj) hone
            rw [mk_val hm hb] at hrun
            refine ⟨?_, by simp only [List.mem_cons, not_or]; exact ⟨fun e => (mkv_den (H := st.H) hm hb).1 e.symm, ih2⟩⟩
            have ha : (asAddr (a.tmps.getD b undef)).run X.P w = .ok ⟨bb, o, none⟩ w := by simp [hv, asAddr]
            simp only [List.mapM_cons, Sem.run_bind, Sem.run_pure, ha, hrun, Result.andThen_ok, ih1, denL]
          · cases h
        · cases h
      · cases h
    · cases h
def retV (H : Hp) : List SV → Value
  | [s] => den H s
  | l => .tuple (denL H l).toArray
theorem results_ok (hT : TTok X.P X.tt) (hr : Rel X st a w) {fn : Func} {l : List SV} (h : resOf X st fn.results.toList = some l) :
    (results fn a.tmps).run X.P w = .ok (retV st.H l) w := by
  obtain ⟨h1, _⟩ := resOf_ok hT hr _ _ h
  unfold results
  rw [Array.mapM_eq_mapM_toList]
  simp only [Sem.run_bind, map_eq_pure_bind, Sem.run_pure]
  have h2 : ∀ (g : ResultVar → Sem Value), (g = fun | .tmp t => pure (a.tmps.getD t undef) | .cell b t => do loadVar t (← asAddr (a.tmps.getD b undef))) → (List.mapM g fn.results.toList).run X.P w = .ok (denL st.H l) w := fun g hg => by subst hg; exact h1
  rw [h2 _ (by funext x; cases x <;> rfl)]
  simp only [Result.andThen_ok]
  match l with
  | [] => simp [denL, retV]
  | [s] => simp [denL, retV]
  | s :: s' :: l => simp [denL, retV]
theorem RetVC.mk' {s : SV} {R : Ending → World → Prop} (h : RetVC X st s R) (hr : Rel X st a w) : R (.returned (den st.H s)) w := h.ex w hr.cls
theorem retK_ok (hT : TTok X.P X.tt) {fn : Func} {e : Exit} {R : Ending → World → Prop} (hp : plain e) (h : retK X fn.results.toList R e st) (hr : Rel X st a w) (h0 : X.dfs = []) : bodyPost X.P fn R e a w := by
  have main : (match resOf X st fn.results.toList with
    | some [s] => RetVC X st s R
    | some l => RetVC X st (.tup l) R
    | none => False) → a.defers = [] ∧ ∃ v, (results fn a.tmps).run X.P w = .ok v w ∧ R (.returned v) w := by
    intro h
    refine ⟨hr.dfs.trans h0, ?_⟩
    cases hres : resOf X st fn.results.toList with
    | none => rw [hres] at h; exact h.elim
    | some l =>
      rw [hres] at h
      refine ⟨_, results_ok hT hr hres, ?_⟩
      match l, h with
      | [], h => have := h.mk' hr; simpa [den, retV] using this
      | [s], h => exact h.mk' hr
      | s :: s' :: l, h => have := h.mk' hr; simpa [den, retV] using this
  cases e with
  | normal => exact main h
  | ret => exact main h
  | exit id => exact h.elim
  | goto l => exact hp.elim
  | panic c => exact hp.elim
  | outgrown => exact hp.elim
theorem zipT_look {n : Nat} {l : List SV} {d : Nat} {s : SV} (h : look (zipT n l) d = some s) : n ≤ d ∧ l[d - n]? = some s := by
  induction l generalizing n with
  | nil => simp [zipT, look] at h
  | cons x l ih =>
    simp only [zipT, look] at h
    split at h
    · rename_i hb
      cases h
      obtain rfl := beqT hb
      simp
    · rename_i hb
      obtain ⟨h1, h2⟩ := ih h
      have : d - n = (d - (n + 1)) + 1 := by omega
      rw [this]
      exact ⟨by omega, by simpa using h2⟩
theorem calls_of_x (hP : POK X.P X.tt) {f : FuncId} {fn : Func} {c : Code} {R : Ending → World → Prop} {H : Hp} {nk : Nat} {args : List SV} {vargs : Array Value}
    (hf : X.P.funcs[f]? = some fn) (hb : fn.body = some c) (hv : vargs = (denL H args).toArray) (hn : X.nt = fn.ntmps) (hl : args.length ≤ fn.ntmps) (hc : Cls X H nk X.w0 X.w0)
    (h : code X c (st0 X H nk args) (retK X fn.results.toList R)) (h0 : X.dfs = [] := by rfl) : Calls X.P f vargs X.w0 R := by
  refine calls_of_wp hf hb (code_ok hP c _ _ _ _ _ h ?_ fun e st' a' w' hp hk hl => retK_ok hP.tt hp hk hl.rel h0)
  subst hv
  refine ⟨by simp [denL_length]; omega, fun d s hs => ?_, h0.symm, hc, Nat.le_refl _, by simp [st0]⟩
  obtain ⟨_, h2⟩ := zipT_look (n := 0) hs
  simp only [Nat.sub_zero] at h2
  right
  have hlt : d < args.length := (List.getElem?_eq_some_iff.1 h2).1
  have h3 : (denL H args)[d]? = some (den H s) := by rw [denL_get, h2]; rfl
  simp only [st0]
  rw [Array.getElem?_append_left (by simp [denL_length]; exact hlt)]
  simpa using h3
theorem Cls.nil (X : Cx) (nk : Nat) : Cls X [] nk X.w0 X.w0 := ⟨Fx.refl _ _, Fx.refl _ _, by simp, by simp [bs], by simp [bs], by simp, by simp⟩
theorem calls_x (hP : POK X.P X.tt) {f : FuncId} {fn : Func} {c : Code} {R : Ending → World → Prop} (args : List SV) {vargs : Array Value}
    (hf : X.P.funcs[f]? = some fn) (hb : fn.body = some c) (hv : vargs = (denL [] args).toArray) (hn : X.nt = fn.ntmps) (hl : args.length ≤ fn.ntmps)
    (h : code X c (st0 X [] 0 args) (retK X fn.results.toList R)) (h0 : X.dfs = [] := by rfl) : Calls X.P f vargs X.w0 R :=
  calls_of_x hP hf hb hv hn hl (Cls.nil X 0) h h0
theorem CallVC.det {seq : Bool} {f : FuncId} {args : List SV} {K : St → SV → Prop} (s : SV)
    (h : ∀ wc, Cls X st.H st.nk st.w wc → Calls X.P f (denL st.H args).toArray wc fun e w' => e = .returned (den st.H s) ∧ Below wc.heap.size wc w')
    (hK : ∀ n w1, st.w.heap.size ≤ n → n ≤ w1.heap.size → ltAll st.H n → Fx (bs st.H) st.w w1 →
      match (generalizing := false) st, seq with
      | ⟨T, H, nk, _, _, _⟩, true => K ⟨T, H, nk, w1, w1.heap.size, []⟩ s
      | ⟨T, H, nk, _, lo, iv⟩, false => K ⟨T, H, nk, w1, lo, (n, w1.heap.size) :: iv⟩ s) : CallVC X seq f args st K :=
  ⟨Unit, fun _ => s, fun _ _ _ => True, fun wc hc => (h wc hc).mono fun _ _ ⟨h1, h2⟩ => ⟨(), h1, h2, trivial⟩, fun _ n w1 h1 h2 h3 h4 _ => hK n w1 h1 h2 h3 h4⟩
theorem CallVC.any {ι : Type} {seq : Bool} {f : FuncId} {args : List SV} {K : St → SV → Prop} (r : ι → SV) (φ : ι → Nat → World → Prop)
    (h : ∀ wc, Cls X st.H st.nk st.w wc → Calls X.P f (denL st.H args).toArray wc fun e w' => ∃ i, e = .returned (den st.H (r i)) ∧ Below wc.heap.size wc w' ∧ φ i wc.heap.size w')
    (hK : ∀ i n w1, st.w.heap.size ≤ n → n ≤ w1.heap.size → ltAll st.H n → Fx (bs st.H) st.w w1 → φ i n w1 →
      match (generalizing := false) st, seq with
      | ⟨T, H, nk, _, _, _⟩, true => K ⟨T, H, nk, w1, w1.heap.size, []⟩ (r i)
      | ⟨T, H, nk, _, lo, iv⟩, false => K ⟨T, H, nk, w1, lo, (n, w1.heap.size) :: iv⟩ (r i)) : CallVC X seq f args st K := ⟨ι, r, φ, h, hK⟩
theorem RetVC.of {s : SV} {R : Ending → World → Prop} (h : ∀ wc, Cls X st.H st.nk st.w wc → R (.returned (den st.H s)) wc) : RetVC X st s R := ⟨h⟩
theorem RetVC.pure {P : Program} {tt : List (Nat × TI)} {w0 : World} {nt : Nat} {pl : List (Nat × List PI)} {s : SV} {v : Value} (hv : den st.H s = v) :
    RetVC ⟨P, tt, w0, [], nt, pl, []⟩ st s fun e w' => e = .returned v ∧ Below w0.heap.size w0 w' := ⟨fun _ hc => ⟨by rw [hv], hc.fx0.below⟩⟩
def ndB : List Nat → Bool
  | [] => true
  | x :: l => match memN x l with | true => false | false => ndB l
theorem ndB_ok {l : List Nat} (h : ndB l = true) : l.Nodup := by
  induction l with
  | nil => simp
  | cons x l ih =>
    simp only [ndB] at h
    split at h
    · cases h
    · rename_i hm
      rw [List.nodup_cons]
      exact ⟨fun hx => (by rw [memN_iff.2 hx] at hm; cases hm), ih h⟩
def ltB (n : Nat) : Hp → Bool
  | [] => true
  | (k, _) :: H => match Nat.blt k n with | true => ltB n H | false => false
theorem ltB_ok {n : Nat} {H : Hp} (h : ltB n H = true) : ∀ k, k ∈ H.map (·.1) → k < n := by
  induction H with
  | nil => simp
  | cons x H ih =>
    obtain ⟨k, e⟩ := x
    simp only [ltB] at h
    split at h
    · rename_i hb
      intro j hj
      simp only [List.map_cons, List.mem_cons] at hj
      rcases hj with rfl | hj
      · simpa [Nat.blt_eq] using hb
      · exact ih h j hj
    · cases h
def keysL : Hp → List Nat
  | [] => []
  | (k, _) :: H => k :: keysL H
theorem keysL_eq (H : Hp) : keysL H = H.map (·.1) := by
  induction H with
  | nil => rfl
  | cons x H ih => obtain ⟨k, e⟩ := x; simp [keysL, ih]
theorem Sub.of {st st' : St} (src : List (Option Nat)) (h1 : subT st.H st'.H st.T st'.T) (h2 : subH st.H st'.H src st'.H) (h3 : ndB (src.filterMap id) = true) (h4 : ndB (keysL st'.H) = true) (h5 : ltB st'.nk st'.H = true) : Sub st st' :=
  ⟨src, h1, h2, ndB_ok h3, by rw [← keysL_eq]; exact ndB_ok h4, ltB_ok h5⟩
theorem LoopVC.mk' {body : St → (Exit → St → Prop) → Prop} {K : Exit → St → Prop} {α : Type} (f : α → World → St) (inv : α → World → Prop) (μ : α → Nat) (hat : ∀ x w, At (f x w) w)
    (h0 : ∀ w, Cls X st.H st.nk st.w w → ∃ x, Sub st (f x w) ∧ inv x w)
    (h1 : ∀ x w, Fx (bs st.H) st.w w → inv x w → body (f x w) fun e st2 => match e with
      | .normal => ∀ w2, Cls X st2.H st2.nk st2.w w2 → ∃ y, Sub st2 (f y w2) ∧ inv y w2 ∧ μ y < μ x
      | e => K e st2) : LoopVC X body st K := ⟨α, f, inv, μ, hat, h0, h1⟩
theorem VIf.loops {b : Bool} {st1 st2 : St} {body : St → (Exit → St → Prop) → Prop} {K : Exit → St → Prop} {α : Type} (f : α → World → St) (inv : α → World → Prop) (μ : α → Nat) (hat : ∀ x w, At (f x w) w)
    (h1 : b = true → ∀ w, Cls X st1.H st1.nk st1.w w → ∃ x, Sub st1 (f x w) ∧ inv x w)
    (h2 : b = false → ∀ w, Cls X st2.H st2.nk st2.w w → ∃ x, Sub st2 (f x w) ∧ inv x w)
    (h3 : ∀ x w, inv x w → body (f x w) fun e st2 => match e with
      | .normal => ∀ w2, Cls X st2.H st2.nk st2.w w2 → ∃ y, Sub st2 (f y w2) ∧ inv y w2 ∧ μ y < μ x
      | e => K e st2) : VIf b (LoopVC X body st1 K) (LoopVC X body st2 K) :=
  VIf.mk (fun hb => LoopVC.mk' f inv μ hat (h1 hb) fun x w _ hi => h3 x w hi) (fun hb => LoopVC.mk' f inv μ hat (h2 hb) fun x w _ hi => h3 x w hi)
end
end Go.Sx
namespace Go.Sx
open Go Go.RowKit
def cellB : Value → Value → Bool
  | .int k a, .int j b => decide (k = j) && decide (a = b)
  | .bool a, .bool b => a == b
  | .string a, .string b => decide (a.data = b.data)
  | .pointer none, .pointer none => true
  | .slice none n c, .slice none m d => Nat.beq n m && Nat.beq c d
  | .map none, .map none => true
  | .nilFunc, .nilFunc => true
  | .nilIface, .nilIface => true
  | _, _ => false
theorem cellB_eq {x y : Value} (h : cellB x y = true) : x = y := by
  unfold cellB at h
  split at h
  · simp at h; rw [h.1, h.2]
  · simp at h; rw [h]
  · rename_i a b
    simp at h
    cases a; cases b; simp_all
  · rfl
  · simp at h; rw [h.1, h.2]
  · rfl
  · rfl
  · rfl
  · cases h
def cellsB : List Value → List Value → Bool
  | [], [] => true
  | x :: l, y :: r => cellB x y && cellsB l r
  | _, _ => false
theorem cellsB_eq {l r : List Value} (h : cellsB l r = true) : l = r := by
  induction l generalizing r with
  | nil => cases r with
    | nil => rfl
    | cons y r => cases h
  | cons x l ih => cases r with
    | nil => cases h
    | cons y r =>
      simp only [cellsB, Bool.and_eq_true] at h
      rw [cellB_eq h.1, ih h.2]
def tiB (P : Program) (t : Nat) (i : TI) : Bool := match P.info? t with
  | some inf => match inf.zero with
    | some z => Nat.beq inf.size i.n && (cellsB z.cells.toList i.z && (Nat.beq i.z.length i.n && (i.z.all Value.oneCell' && chkD P t i)))
    | none => false
  | none => false
def ttB (P : Program) : List (Nat × TI) → Bool
  | [] => true
  | (t, i) :: r => tiB P t i && ttB P r
theorem tiB_ok {P : Program} {t : Nat} {i : TI} (h : tiB P t i = true) : TIok P t i := by
  unfold tiB at h
  split at h
  · rename_i inf hi
    split at h
    · rename_i z hz
      simp only [Bool.and_eq_true] at h
      obtain ⟨h1, h2, h3, h4, h5⟩ := h
      exact ⟨⟨inf, z, hi, beqT h1, hz, cellsB_eq h2⟩, beqT h3, fun x hx => List.all_eq_true.1 h4 x hx, h5⟩
    · cases h
  · cases h
theorem ttB_ok {P : Program} : ∀ {tt : List (Nat × TI)}, ttB P tt = true → TTok P tt
  | [], _ => TTok.nil P
  | (_, _) :: _, h => by
    simp only [ttB, Bool.and_eq_true] at h
    exact TTok.cons (tiB_ok h.1) (ttB_ok h.2)
def pokB (P : Program) (tt : List (Nat × TI)) : Bool := ttB P tt && (P.funcs.toList.all (fun fn => !(fn.name == "runtime.NumGoroutine")) && P.follows .mixedOrders)
theorem pokB_ok {P : Program} {tt : List (Nat × TI)} (h : pokB P tt = true) : POK P tt := by
  simp only [pokB, Bool.and_eq_true] at h
  refine ⟨ttB_ok h.1, fun g fn hg => ?_, h.2.2⟩
  have := List.all_eq_true.1 h.2.1 fn (by simpa using Array.mem_of_getElem? hg)
  simpa using this
end Go.Sx
namespace Go.Sx
open Go Go.RowKit
structure RdL {α : Type} (w : World) (a : Option Addr) (n esz : Nat) (cells : α → List Value) (es : List α) : Prop where
  len : es.length = n
  rd : 0 < n → ∃ b o, a = some ⟨b, o, none⟩ ∧ b < w.heap.size ∧ ∀ i x, es[i]? = some x → (cells x).length = esz ∧ ∀ j, j < esz → w.cell? ⟨b, o + i * esz + j, none⟩ = (cells x)[j]?
section
variable {α : Type} {w w' : World} {a : Option Addr} {n esz : Nat} {cells : α → List Value} {es : List α}
theorem RdL.fx (h : RdL w a n esz cells es) {bor : List Nat} (hf : Fx bor w w') (hb : ∀ b o, a = some ⟨b, o, none⟩ → b ∉ bor) : RdL w' a n esz cells es := by
  refine ⟨h.len, fun hn => ?_⟩
  obtain ⟨b, o, h1, h2, h3⟩ := h.rd hn
  have hk : w'.heap[b]? = w.heap[b]? := hf.block b h2 fun c hc e => hb b o h1 (e ▸ hc)
  refine ⟨b, o, h1, Nat.lt_of_lt_of_le h2 hf.size, fun i x hx => ⟨(h3 i x hx).1, fun j hj => ?_⟩⟩
  rw [← (h3 i x hx).2 j hj]
  simp only [World.cell?, hk]
theorem RdL.mono (h : RdL w a n esz cells es) (hf : Fx [] w w') : RdL w' a n esz cells es := h.fx hf (by simp)
theorem RdL.below (h : RdL w a n esz cells es) (hf : Below w.heap.size w w') : RdL w' a n esz cells es := h.mono ((Fx.refl [] w).of_below hf)
theorem RdL.nil : RdL w a 0 esz cells [] := ⟨rfl, fun h => by omega⟩
theorem RdL.at_ (h : RdL w a n esz cells es) {i : Nat} (hi : i < n) : ∃ b o x, a = some ⟨b, o, none⟩ ∧ es[i]? = some x ∧ b < w.heap.size ∧ (cells x).length = esz ∧ ∀ j, j < esz → w.cell? ⟨b, o + i * esz + j, none⟩ = (cells x)[j]? := by
  obtain ⟨b, o, h1, h2, h3⟩ := h.rd (by omega)
  have hx : es[i]? = some (es[i]'(by rw [h.len]; exact hi)) := by simp
  obtain ⟨h4, h5⟩ := h3 i _ hx
  exact ⟨b, o, _, h1, hx, h2, h4, h5⟩
theorem fread_arg {X : Cx} {H : Hp} {w1 : World} {b o i m off : Nat} {x : α} (hbor : neBor X.bor b) (hb : b < X.w0.heap.size) (hl : (cells x).length = esz) (hc : ∀ j, j < esz → X.w0.cell? ⟨b, o + i * esz + j, none⟩ = (cells x)[j]?)
    (hm : off + m ≤ esz) : FRead X H w1 b (o + i * esz + off) m (((cells x).drop off).take m) := by
  refine ⟨by simp [hl]; omega, .inl ⟨hb, hbor, fun j hj => ?_⟩⟩
  have := hc (off + j) (by omega)
  rw [show o + i * esz + off + j = o + i * esz + (off + j) from by omega, this, List.getElem?_take, if_pos hj, List.getElem?_drop]
theorem RdL.el (h : RdL w a n esz cells es) {i : Nat} (hi : i < n) : ∃ b o x, a = some ⟨b, o, none⟩ ∧ es[i]? = some x ∧ b < w.heap.size ∧
    (∀ (P : Program) (tt : List (Nat × TI)) (nt : Nat) (pl : List (Nat × List PI)) (H : Hp) (w1 : World), FRead ⟨P, tt, w, [], nt, pl, []⟩ H w1 b (o + i * esz) esz (cells x)) ∧
    (∀ (P : Program) (tt : List (Nat × TI)) (nt : Nat) (pl : List (Nat × List PI)) (H : Hp) (w1 : World) (off m : Nat), off + m ≤ esz → FRead ⟨P, tt, w, [], nt, pl, []⟩ H w1 b (o + i * esz + off) m (((cells x).drop off).take m)) := by
  obtain ⟨b, o, x, h1, h2, h3, h4, h5⟩ := h.at_ hi
  refine ⟨b, o, x, h1, h2, h3, fun P tt nt pl H w1 => ⟨h4, .inl ⟨h3, trivial, h5⟩⟩, fun P tt nt pl H w1 off m hm => fread_arg (X := ⟨P, tt, w, [], nt, pl, []⟩) trivial h3 h4 h5 hm⟩
end
theorem CallVC.bool {X : Cx} {st : St} {seq : Bool} {f : FuncId} {args : List SV} {K : St → SV → Prop} (b : Bool)
    (h : ∀ wc, Cls X st.H st.nk st.w wc → Calls X.P f (denL st.H args).toArray wc fun e w' => e = .returned (.bool b) ∧ Below wc.heap.size wc w')
    (hT : b = true → ∀ n w1, st.w.heap.size ≤ n → n ≤ w1.heap.size → ltAll st.H n → Fx (bs st.H) st.w w1 →
      match (generalizing := false) st, seq with
      | ⟨T, H, nk, _, _, _⟩, true => K ⟨T, H, nk, w1, w1.heap.size, []⟩ (.v (.bool true))
      | ⟨T, H, nk, _, lo, iv⟩, false => K ⟨T, H, nk, w1, lo, (n, w1.heap.size) :: iv⟩ (.v (.bool true)))
    (hF : b = false → ∀ n w1, st.w.heap.size ≤ n → n ≤ w1.heap.size → ltAll st.H n → Fx (bs st.H) st.w w1 →
      match (generalizing := false) st, seq with
      | ⟨T, H, nk, _, _, _⟩, true => K ⟨T, H, nk, w1, w1.heap.size, []⟩ (.v (.bool false))
      | ⟨T, H, nk, _, lo, iv⟩, false => K ⟨T, H, nk, w1, lo, (n, w1.heap.size) :: iv⟩ (.v (.bool false))) : CallVC X seq f args st K := by
  cases b with
  | true => exact CallVC.det (.v (.bool true)) h (hT rfl)
  | false => exact CallVC.det (.v (.bool false)) h (hF rfl)
noncomputable def err (P : Prop) (e : Int) : Int := by classical exact if P then 0 else e
theorem err_t {P : Prop} {e : Int} (h : P) : err P e = 0 := by unfold err; simp [h]
theorem err_f {P : Prop} {e : Int} (h : ¬ P) : err P e = e := by unfold err; simp [h]
theorem err_ne {P : Prop} {e : Int} (he : e ≠ 0) : (err P e != 0) = true ↔ ¬ P := by
  by_cases h : P
  · rw [err_t h]; simp [h]
  · rw [err_f h]; simp [h, he]
theorem err_eq {P : Prop} {e : Int} (he : e ≠ 0) : (err P e != 0) = false ↔ P := by
  by_cases h : P
  · rw [err_t h]; simp [h]
  · rw [err_f h]; simp [h, he]
noncomputable def tr (P : Prop) : Bool := by classical exact decide P
theorem tr_t {P : Prop} (h : P) : tr P = true := by unfold tr; simp [h]
theorem tr_f {P : Prop} (h : ¬ P) : tr P = false := by unfold tr; simp [h]
theorem tr_iff {P : Prop} : tr P = true ↔ P := by unfold tr; simp
theorem tr_not {P : Prop} : tr P = false ↔ ¬ P := by unfold tr; simp
theorem tr_of {P : Prop} {b : Bool} (h : b = true ↔ P) : b = tr P := by
  cases b with
  | true => exact (tr_t (h.1 rfl)).symm
  | false => exact (tr_f fun hp => by have := h.2 hp; cases this).symm
end Go.Sx
