/- The walk over pure data: its definitions, that it is sound, and what may be read at a type. -/
import Derived.Test.YtnehgkfgenhgcaaGreatB2
import Derived.ProofKit
import Derived.SizedLaws
set_option linter.unusedVariables false
set_option linter.unusedSimpArgs false
namespace Go.Sx
open Go Go.RowKit
def InK (k : IntKind) (x : Int) : Prop := k.min ≤ x ∧ x ≤ k.max
structure Opens (P : Program) (t : TypeId) {X : Type} (c : X → List D) (G : X → Prop) : Prop where
  op : ∀ {H : Type} (enc : TypeId × Value → H) (w : World) (fuel : Nat) (cs : List Value) (d : DataW H) (ps : List MemPlace), DataW.trod enc P w 0 (fun _ => true) true fuel t cs = some (d, ps) → (∀ n, n ∈ d.weights P t → n ≤ reachBytes) →
    ∃ x, RepL (fun b => b < w.heap.size) w (c x) cs ∧ G x
structure OpensF (P : Program) (fs : List Field) (o n : Nat) {X : Type} (c : X → List D) (G : X → Prop) : Prop where
  op : ∀ {H : Type} (enc : TypeId × Value → H) (w : World) (fuel : Nat) (cs : List Value) (xs : List (DataW H × List MemPlace)), cs.length = n → (fs.mapM fun f => DataW.trod enc P w 0 (fun _ => true) true fuel f.type ((cs.drop f.offset).take (P.cellsOf f.type))) = some xs →
    (∀ m, m ∈ DataW.weightsEach P (fs.map (·.type)) (xs.map (·.1)) → m ≤ reachBytes) → ∃ x, RepL (fun b => b < w.heap.size) w (c x) (cs.drop o) ∧ G x
structure OpensA (P : Program) (e : TypeId) (is : List Nat) (o n : Nat) {X : Type} (c : X → List D) (G : X → Prop) : Prop where
  op : ∀ {H : Type} (enc : TypeId × Value → H) (w : World) (fuel : Nat) (cs : List Value) (xs : List (DataW H × List MemPlace)), cs.length = n → (is.mapM fun i => DataW.trod enc P w 0 (fun _ => true) true fuel e ((cs.drop (i * P.cellsOf e)).take (P.cellsOf e))) = some xs →
    (∀ m, m ∈ DataW.weightsAll P e (xs.map (·.1)) → m ≤ reachBytes) → ∃ x, RepL (fun b => b < w.heap.size) w (c x) (cs.drop o) ∧ G x
section
variable {P : Program} {t e : TypeId}
theorem mapM_spec {α β : Type} {f : α → Option β} : ∀ {l : List α} {r : List β}, l.mapM f = some r → r.length = l.length ∧ ∀ (i : Nat) (a : α), l[i]? = some a → ∃ b, r[i]? = some b ∧ f a = some b := by
  intro l
  induction l with
  | nil => intro r h; simp at h; subst h; simp
  | cons a l ih =>
    intro r h
    rw [List.mapM_cons] at h
    cases ha : f a with
    | none => rw [ha] at h; cases h
    | some b =>
      rw [ha] at h
      cases hl : l.mapM f with
      | none => rw [hl] at h; cases h
      | some s =>
        rw [hl] at h
        cases h
        obtain ⟨h1, h2⟩ := ih hl
        refine ⟨by simp [h1], fun i x hx => ?_⟩
        cases i with
        | zero => simp at hx; subst hx; exact ⟨b, by simp, ha⟩
        | succ i => simp at hx; simpa using h2 i x hx
theorem mapM_cons_some {α β : Type} {f : α → Option β} {a : α} {l : List α} {r : List β} (h : (a :: l).mapM f = some r) : ∃ b s, f a = some b ∧ l.mapM f = some s ∧ r = b :: s := by
  rw [List.mapM_cons] at h
  cases ha : f a with
  | none => rw [ha] at h; cases h
  | some b =>
    rw [ha] at h
    cases hl : l.mapM f with
    | none => rw [hl] at h; cases h
    | some s => rw [hl] at h; cases h; exact ⟨b, s, rfl, rfl, rfl⟩
theorem Opens.int {k : IntKind} (hu : P.underlying t = some (.int k)) : Opens P t (fun x : Int => [.v (.int k x)]) (fun x => InK k x) := by
  refine ⟨fun enc w fuel cs d ps h _ => ?_⟩
  obtain ⟨n, rfl, _, hwf⟩ := DataW.trod_int hu h
  exact ⟨n, ⟨⟨rfl, rfl⟩, trivial⟩, by simpa [Lit.wf, InK] using hwf⟩
theorem Opens.bool (hu : P.underlying t = some .bool) : Opens P t (fun x : Bool => [.v (.bool x)]) (fun _ => True) := by
  refine ⟨fun enc w fuel cs d ps h _ => ?_⟩
  obtain ⟨b, rfl, _⟩ := DataW.trod_bool hu h
  exact ⟨b, ⟨⟨rfl, rfl⟩, trivial⟩, trivial⟩
theorem Opens.str (hu : P.underlying t = some .string) : Opens P t (fun x : ByteArray => [.v (.string x)]) (fun x => x.size ≤ reachBytes) := by
  refine ⟨fun enc w fuel cs d ps h hw => ?_⟩
  obtain ⟨s, rfl, hx, _⟩ := DataW.trod_string hu h
  cases hx
  refine ⟨s, ⟨⟨rfl, rfl⟩, trivial⟩, ?_⟩
  have := hw s.data.toList.length (by simp [DataW.weights])
  simpa using this
theorem Opens.iso {X Y : Type} {c : X → List D} {G : X → Prop} {c' : Y → List D} {G' : Y → Prop} (h : Opens P t c G) (f : X → Y) (hc : ∀ x, c x = c' (f x)) (hG : ∀ x, G x → G' (f x)) : Opens P t c' G' :=
  ⟨fun enc w fuel cs d ps ht hw => by obtain ⟨x, h1, h2⟩ := h.op enc w fuel cs d ps ht hw; exact ⟨f x, hc x ▸ h1, hG x h2⟩⟩
theorem OpensF.nil {o : Nat} : OpensF P [] o o (fun _ : Unit => []) (fun _ => True) :=
  ⟨fun enc w fuel cs xs hl _ _ => ⟨(), by rw [List.drop_of_length_le (by omega)]; trivial, trivial⟩⟩
theorem OpensF.cons {f : Field} {fs : List Field} {o s n : Nat} {X Y : Type} {c : X → List D} {G : X → Prop} {c' : Y → List D} {G' : Y → Prop} (h : Opens P f.type c G) (hk : OpensF P fs (o + s) n c' G') (ho : f.offset = o) (hs : P.cellsOf f.type = s) :
    OpensF P (f :: fs) o n (fun x : X × Y => c x.1 ++ c' x.2) (fun x => G x.1 ∧ G' x.2) := by
  refine ⟨fun enc w fuel cs xs hl hm hw => ?_⟩
  obtain ⟨b, r, h1, h2, rfl⟩ := mapM_cons_some hm
  obtain ⟨d, ps⟩ := b
  simp only [List.map_cons, DataW.weightsEach] at hw
  obtain ⟨x, g1, g2⟩ := h.op enc w fuel _ d ps h1 fun n hn => hw n (List.mem_append_left _ hn)
  obtain ⟨y, g3, g4⟩ := hk.op enc w fuel cs r hl h2 fun n hn => hw n (List.mem_append_right _ hn)
  rw [ho, hs] at g1
  refine ⟨(x, y), ?_, g2, g4⟩
  have : cs.drop o = (cs.drop o).take s ++ cs.drop (o + s) := by rw [← List.drop_drop, List.take_append_drop]
  rw [this]
  exact RepL.app g1 g3
theorem OpensF.last {f : Field} {o s n : Nat} {X : Type} {c : X → List D} {G : X → Prop} (h : Opens P f.type c G) (ho : f.offset = o) (hs : P.cellsOf f.type = s) (hn : o + s = n) : OpensF P [f] o n c G := by
  subst hn
  refine ⟨fun enc w fuel cs xs hl hm hw => ?_⟩
  obtain ⟨x, h1, h2⟩ := (OpensF.cons h (OpensF.nil (P := P) (o := o + s)) ho hs).op enc w fuel cs xs hl hm hw
  exact ⟨x.1, by simpa using h1, h2.1⟩
theorem Opens.struct {F : Array Field} {n : Nat} {X : Type} {c : X → List D} {G : X → Prop} (hu : P.underlying t = some (.struct F)) (h : OpensF P F.toList 0 n c G) (hn : P.cellsOf t = n) : Opens P t c G := by
  refine ⟨fun enc w fuel cs d ps ht hw => ?_⟩
  cases fuel with
  | zero => simp [DataW.trod] at ht
  | succ fuel =>
    simp only [DataW.trod, hu] at ht
    split at ht
    · rename_i hl
      rw [Option.map_eq_some_iff] at ht
      obtain ⟨xs, hx, he⟩ := ht
      cases he
      simp only [DataW.weights, hu] at hw
      obtain ⟨x, h1, h2⟩ := h.op enc w fuel cs xs (by omega) hx hw
      exact ⟨x, by simpa using h1, h2⟩
    · cases ht
theorem OpensA.last {i o s n : Nat} {X : Type} {c : X → List D} {G : X → Prop} (h : Opens P e c G) (ho : i * s = o) (hs : P.cellsOf e = s) (hn : o + s = n) : OpensA P e [i] o n c G := by
  refine ⟨fun enc w fuel cs xs hl hm hw => ?_⟩
  obtain ⟨b, r, h1, h2, rfl⟩ := mapM_cons_some hm
  obtain ⟨d, ps⟩ := b
  simp only [List.map_cons, DataW.weightsAll] at hw
  obtain ⟨x, g1, g2⟩ := h.op enc w fuel _ d ps h1 fun n hn => hw n (List.mem_append_left _ hn)
  rw [hs, ho] at g1
  refine ⟨x, ?_, g2⟩
  rwa [List.take_of_length_le (by simp; omega)] at g1
theorem OpensA.cons {i : Nat} {is : List Nat} {o s n : Nat} {X Y : Type} {c : X → List D} {G : X → Prop} {c' : Y → List D} {G' : Y → Prop} (h : Opens P e c G) (hk : OpensA P e is (o + s) n c' G') (ho : i * s = o) (hs : P.cellsOf e = s) :
    OpensA P e (i :: is) o n (fun x : X × Y => c x.1 ++ c' x.2) (fun x => G x.1 ∧ G' x.2) := by
  refine ⟨fun enc w fuel cs xs hl hm hw => ?_⟩
  obtain ⟨b, r, h1, h2, rfl⟩ := mapM_cons_some hm
  obtain ⟨d, ps⟩ := b
  simp only [List.map_cons, DataW.weightsAll] at hw
  obtain ⟨x, g1, g2⟩ := h.op enc w fuel _ d ps h1 fun n hn => hw n (List.mem_append_left _ hn)
  obtain ⟨y, g3, g4⟩ := hk.op enc w fuel cs r hl h2 fun n hn => hw n (List.mem_append_right _ hn)
  rw [hs, ho] at g1
  refine ⟨(x, y), ?_, g2, g4⟩
  have : cs.drop o = (cs.drop o).take s ++ cs.drop (o + s) := by rw [← List.drop_drop, List.take_append_drop]
  rw [this]
  exact RepL.app g1 g3
theorem Opens.arr {m n : Nat} {X : Type} {c : X → List D} {G : X → Prop} (hu : P.underlying t = some (.array m e)) (h : OpensA P e (List.range m) 0 n c G) (hn : P.cellsOf t = n) : Opens P t c G := by
  refine ⟨fun enc w fuel cs d ps ht hw => ?_⟩
  cases fuel with
  | zero => simp [DataW.trod] at ht
  | succ fuel =>
    simp only [DataW.trod, hu] at ht
    split at ht
    · rename_i hl
      rw [Option.map_eq_some_iff] at ht
      obtain ⟨xs, hx, he⟩ := ht
      cases he
      simp only [DataW.weights, hu] at hw
      obtain ⟨x, h1, h2⟩ := h.op enc w fuel cs xs (by omega) hx hw
      exact ⟨x, by simpa using h1, h2⟩
    · cases ht
theorem cells_spec {w : World} {a : Addr} {n : Nat} {cs : List Value} (h : w.cells? 0 a n = some cs) : cs.length = n ∧ ∀ i, i < n → w.cell? (a.add i) = cs[i]? := by
  unfold World.cells? at h
  rw [if_pos (Nat.zero_le _)] at h
  obtain ⟨h1, h2⟩ := mapM_spec h
  refine ⟨by simpa using h1, fun i hi => ?_⟩
  obtain ⟨b, h3, h4⟩ := h2 i i (by simp [hi])
  rw [h4, h3]
theorem weightsAll_mem {H : Type} {e : TypeId} : ∀ {l : List (DataW H)} {d : DataW H}, d ∈ l → ∀ n, n ∈ d.weights P e → n ∈ DataW.weightsAll P e l
  | x :: l, d, h, n, hn => by
    simp only [DataW.weightsAll]
    rcases List.mem_cons.1 h with rfl | h
    · exact List.mem_append_left _ hn
    · exact List.mem_append_right _ (weightsAll_mem h n hn)
  | [], _, h, _, _ => by cases h
theorem elems_rep {X : Type} {c : X → List D} {G : X → Prop} {ok : Nat → Prop} {w : World} {b o z : Nat} (hc : ∀ x, (c x).length = z) : ∀ (n k : Nat), (∀ i, i < n → ∃ x cs, RepL ok w (c x) cs ∧ G x ∧ ∀ j, j < z → w.cell? ⟨b, o + ((k + i) * z + j), none⟩ = cs[j]?) →
    ∃ (l : List X) (vs : List Value), l.length = n ∧ (∀ x, x ∈ l → G x) ∧ RepL ok w (l.flatMap c) vs ∧ ∀ j, j < n * z → w.cell? ⟨b, o + (k * z + j), none⟩ = vs[j]?
  | 0, k, h => ⟨[], [], rfl, by simp, trivial, fun j hj => by simp at hj⟩
  | n + 1, k, h => by
    obtain ⟨x, cs, h1, h2, h3⟩ := h 0 (by omega)
    obtain ⟨l, vs, g1, g2, g3, g4⟩ := elems_rep hc n (k + 1) fun i hi => by
      obtain ⟨x, cs, h1, h2, h3⟩ := h (i + 1) (by omega)
      exact ⟨x, cs, h1, h2, fun j hj => by rw [← h3 j hj]; congr 3; rw [show k + 1 + i = k + (i + 1) from by omega]⟩
    have hl := h1.length
    rw [hc] at hl
    refine ⟨x :: l, cs ++ vs, by simp [g1], ?_, ?_, fun j hj => ?_⟩
    · intro y hy
      rcases List.mem_cons.1 hy with rfl | hy
      · exact h2
      · exact g2 y hy
    · rw [List.flatMap_cons]; exact RepL.app h1 g3
    · by_cases hlt : j < z
      · rw [List.getElem?_append_left (by omega), ← h3 j hlt]; simp
      · rw [List.getElem?_append_right (by omega), ← hl, ← g4 (j - z) (by rw [Nat.add_mul] at hj; omega)]
        congr 3
        rw [Nat.add_mul]; omega
theorem flat_flat {X : Type} {c : X → List D} (h : ∀ x, flatD (c x) = true) (l : List X) : flatD (l.flatMap c) = true := by
  refine flatD_of fun d hd => ?_
  obtain ⟨x, _, hx⟩ := List.mem_flatMap.1 hd
  exact flatD_mem (h x) hx
theorem Opens.slice {z bytes : Nat} {X : Type} {c : X → List D} {G : X → Prop} (hu : P.underlying t = some (.slice e)) (h : Opens P e c G) (hz : P.cellsOf e = z) (hb : P.bytesOf e = bytes) (hc : ∀ x, (c x).length = z) (hfl : ∀ x, flatD (c x) = true) (hpos : 0 < z) :
    Opens P t (fun l : List X => [.lst z l.length (l.flatMap c)]) (fun l => l.length * bytes ≤ reachBytes ∧ l.length ≤ maxLen ∧ ∀ x, x ∈ l → G x) := by
  refine ⟨fun enc w fuel cs d ps ht hw => ?_⟩
  rcases DataW.trod_slice hu ht with ⟨rfl, _⟩ | ⟨a, n, cap, elems, rest, fuel', rfl, rfl, hx, _, hnc, hcm, e1, e2, hrest, _⟩
  · refine ⟨[], ⟨?_, trivial⟩, by simp, by simp, by simp⟩
    simp only [Rep]
    exact ⟨none, 0, rfl, Nat.le_refl _, by simp, by simp, rfl, .inl rfl⟩
  · obtain ⟨r1, r2⟩ := hrest rfl
    obtain ⟨rfl, rfl⟩ := Prod.mk.inj hx
    simp only [DataW.weights, hu] at hw
    have hbytes : (n + (cap - n)) * bytes ≤ reachBytes := by
      have := hw _ List.mem_cons_self
      simpa [e1, r1, hb] using this
    have hnb : n * bytes ≤ reachBytes := Nat.le_trans (Nat.mul_le_mul_right _ (by omega)) hbytes
    by_cases hc0 : cap = 0
    · obtain rfl : n = 0 := by omega
      refine ⟨[], ⟨?_, trivial⟩, by simp, by simp, by simp⟩
      simp only [Rep]
      exact ⟨some a, cap, rfl, hnc, by simp, by simp, rfl, .inl hc0⟩
    · -- the first place lies in memory
      have hspot : a.spot = none ∧ a.block < w.heap.size := by
        have hcell : ∃ v, w.cell? a = some v := by
          by_cases hn0 : 0 < n
          · have h4 := e2 0 hn0
            rw [List.getElem?_eq_getElem (by omega), Option.bind_eq_some_iff] at h4
            obtain ⟨cs, h5, _⟩ := h4
            obtain ⟨h6, h7⟩ := cells_spec h5
            have := h7 0 (by omega)
            simp only [Nat.zero_mul, Addr.add, if_true] at this
            exact ⟨cs[0]'(by omega), by rw [this]; simp [h6, hz, hpos]⟩
          · have h4 := r2 0 (by omega)
            rw [List.getElem?_eq_getElem (by omega), Option.bind_eq_some_iff] at h4
            obtain ⟨cs, h5, _⟩ := h4
            obtain ⟨h6, h7⟩ := cells_spec h5
            have := h7 0 (by omega)
            have hn0' : n = 0 := by omega
            simp only [hn0', Nat.add_zero, Nat.zero_mul, Addr.add, if_true] at this
            exact ⟨cs[0]'(by omega), by rw [this]; simp [h6, hz, hpos]⟩
        obtain ⟨v, hv⟩ := hcell
        unfold World.cell? at hv
        split at hv
        · rename_i c t fr hcl
          split at hv
          · cases hv
          · rename_i hs
            exact ⟨by simpa using hs, (Array.getElem?_eq_some_iff.1 hcl).1⟩
        · cases hv
      obtain ⟨b, o, sp⟩ := a
      obtain ⟨hsp, hblk⟩ := hspot
      simp only at hsp hblk
      subst hsp
      have haddr : ∀ k j : Nat, ((⟨b, o, none⟩ : Addr).add k).add j = ⟨b, o + (k + j), none⟩ := by
        intro k j
        unfold Addr.add
        by_cases hk : k = 0 <;> by_cases hj : j = 0 <;> simp [hk, hj] <;> omega
      obtain ⟨l, vs, g1, g2, g3, g4⟩ := elems_rep (ok := fun b => b < w.heap.size) (G := G) (w := w) (b := b) (o := o) hc n 0 fun i hi => by
        have h4 := e2 i hi
        have h3 : elems[i]? = some (elems[i]'(by omega)) := List.getElem?_eq_getElem (by omega)
        rw [h3, Option.bind_eq_some_iff] at h4
        obtain ⟨cs, h5, h6⟩ := h4
        obtain ⟨h7, h8⟩ := cells_spec h5
        obtain ⟨x, x1, x2⟩ := h.op enc w fuel' cs _ _ h6 fun n hn => hw n (List.mem_cons_of_mem _ (List.mem_append_left _ (weightsAll_mem (List.mem_map.2 ⟨_, List.mem_of_getElem? h3, rfl⟩) n hn)))
        refine ⟨x, cs, x1, x2, fun j hj => ?_⟩
        rw [← h8 j (by omega), haddr, hz, Nat.zero_add]
      refine ⟨l, ⟨?_, trivial⟩, by rw [g1]; exact hnb, by omega, g2⟩
      simp only [Rep]
      refine ⟨some ⟨b, o, none⟩, cap, by rw [g1], by omega, by rw [g1]; simp only [maxLen] at hcm; omega, by rw [flat_len hc], flat_flat hfl l, .inr ⟨b, o, vs, rfl, hblk, g3, fun j hj => ?_⟩⟩
      have := g4 j (by rw [← g1]; exact hj)
      simpa using this
theorem Opens.arg_agg {X : Type} {c : X → List D} {G : X → Prop} (h : Opens P t c G) (hfl : ∀ x, flatD (c x) = true) {H : Type} {enc : TypeId × Value → H} {w : World} {r : Reach} {b0 : Nat} {v : Value} {d : DataW H} {ps : List MemPlace}
    (hu : (match P.underlying t with | some (.struct _) => true | some (.array _ _) => true | _ => false) = true) (hval : Value.okWide P w r b0 t v) (ht : DataW.Trod enc P w 0 (fun _ => true) true t v d ps) (hw : ∀ n, n ∈ d.weights P t → n ≤ reachBytes) :
    ∃ x, Rep (fun b => b < w.heap.size) w (.agg (c x)) v ∧ G x := by
  obtain ⟨fuel, ht⟩ := ht
  obtain ⟨x, h1, h2⟩ := h.op enc w fuel _ d ps ht hw
  refine ⟨x, ?_, h2⟩
  unfold Value.okWide at hval
  split at hval
  · obtain ⟨cs, rfl, _⟩ := hval
    simp only [Rep]; exact ⟨cs, rfl, h1, hfl x⟩
  · obtain ⟨cs, rfl, _⟩ := hval
    simp only [Rep]; exact ⟨cs, rfl, h1, hfl x⟩
  · rename_i h3 h4
    split at hu
    · rename_i hx; exact absurd hx (h3 _)
    · rename_i hx; exact absurd hx (h4 _ _)
    · cases hu
theorem Opens.arg_one {X : Type} {f : X → D} {G : X → Prop} (h : Opens P t (fun x => [f x]) G) {H : Type} {enc : TypeId × Value → H} {w : World} {r : Reach} {b0 : Nat} {v : Value} {d : DataW H} {ps : List MemPlace}
    (hu : (match P.underlying t with | some .bool => true | some .string => true | some (.int _) => true | some (.slice _) => true | _ => false) = true) (hval : Value.okWide P w r b0 t v) (ht : DataW.Trod enc P w 0 (fun _ => true) true t v d ps) (hw : ∀ n, n ∈ d.weights P t → n ≤ reachBytes) :
    ∃ x, Rep (fun b => b < w.heap.size) w (f x) v ∧ G x := by
  obtain ⟨fuel, ht⟩ := ht
  obtain ⟨x, h1, h2⟩ := h.op enc w fuel _ d ps ht hw
  refine ⟨x, ?_, h2⟩
  have hc : v.cells = #[v] := by
    cases v with
    | agg cs =>
      exfalso
      unfold Value.okWide Cell.okWide Cell.ok at hval
      split at hu <;> rename_i hx <;> first | (rw [hx] at hval; simp at hval; done) | (cases hu; done) | skip
    | _ => rfl
  rw [hc] at h1
  simpa [RepL] using h1
theorem trodAll_below {H : Type} {enc : TypeId × Value → H} (hl : laidOutB P = true) {W W' : World} (hb : Below W.heap.size W W') : ∀ {ts : List TypeId} {vs : List Value} {ds : List (DataW H)} {ps : List MemPlace}, (∀ t, t ∈ ts → P.readableRec t = true ∧ t < P.types.size) →
    DataW.TrodAll enc P W 0 (fun _ => true) true ts vs ds ps → (∀ x, x ∈ ps → x.block < W.heap.size) → DataW.TrodAll enc P W' 0 (fun b => decide (b < W.heap.size)) true ts vs ds ps
  | [], [], [], ps, _, h, _ => h
  | t :: ts, v :: vs, d :: ds, ps, hr, h, hlt => by
    obtain ⟨p, q, h1, h2, rfl⟩ := h
    exact ⟨p, q, Below.trod hl (hr t List.mem_cons_self).1 (hr t List.mem_cons_self).2 h1 hb fun x hx => hlt x (List.mem_append_left _ hx), trodAll_below hl hb (fun t ht => hr t (List.mem_cons_of_mem _ ht)) h2 fun x hx => hlt x (List.mem_append_right _ hx), rfl⟩
  | [], _ :: _, _, _, _, h, _ => by simp [DataW.TrodAll] at h
  | [], [], _ :: _, _, _, h, _ => by simp [DataW.TrodAll] at h
  | _ :: _, [], _, _, _, h, _ => by simp [DataW.TrodAll] at h
  | _ :: _, _ :: _, [], _, _, h, _ => by simp [DataW.TrodAll] at h
theorem law_post {H : Type} {enc : TypeId × Value → H} {f : Func} {n : FuncId} {s : ChangeSpec} {W : World} {args : Array Value} {ds gs : List (DataW H)} {before : List MemPlace} {Ds : List D} {tb : TypeId}
    (hl : laidOutB P = true) (hr : ∀ t, t ∈ f.params.toList → P.readableRec t = true ∧ t < P.types.size) (hvars : s.vars = []) (hrt : f.resultTypes = #[tb]) (htb : P.underlying tb = some .bool)
    (hfn : (s.fn H (ds ++ gs)).results = [.lit (.bool true)]) (hfa : (s.fn H (ds ++ gs)).args = ds) (hfv : (s.fn H (ds ++ gs)).vars = [])
    (hW : DataW.Whole enc P f.params.toList s.vars false W args.toList ds gs before) (hrep : RepL (fun b => b < W.heap.size) W Ds args.toList) (hd : Does P n Ds fun x => x = .v (.bool true)) :
    Calls P n args W fun e W' => ∃ v, e = .returned v ∧ s.post enc P f false true false false W args v W' := by
  refine (hd (fun b => b < W.heap.size) W args.toList hrep fun _ h => h).mono fun e W' ⟨v, r, he, hq, hrp, hb⟩ => ?_
  subst he; subst hq
  simp only [Rep] at hrp
  obtain ⟨rfl, _⟩ := hrp
  refine ⟨_, rfl, ?_⟩
  have hW' := hW
  have hlt := hW.lt
  obtain ⟨p, q, hA, hV, rfl, hfz, hnd⟩ := hW
  rw [hvars] at hV
  obtain ⟨rfl, rfl⟩ : gs = [] ∧ q = [] := by
    cases gs with
    | nil => exact ⟨rfl, hV⟩
    | cons => simp [DataW.TrodVars] at hV
  refine ⟨ds, [], _, [], p, [], hW', ?_, ?_, ?_, ?_, fun h => by cases h⟩
  · rw [hfn, hrt]
    exact ⟨[], [], shut_bool htb true, rfl, rfl⟩
  · rw [hfa]
    exact trodAll_below hl hb hr hA fun x hx => hlt x (by simpa using hx)
  · rw [hvars, hfv]; rfl
  · refine ⟨hb.os, hb.output, fun i hi => ?_⟩
    rw [hb.block i hi]
    split <;> simp_all
structure OpensArgs (P : Program) (ts : List TypeId) {X : Type} (c : X → List D) (G : X → Prop) : Prop where
  op : ∀ {H : Type} (enc : TypeId × Value → H) (w : World) (r : Reach) (b0 : Nat) (vs : List Value) (ds : List (DataW H)) (ps : List MemPlace), DataW.TrodAll enc P w 0 (fun _ => true) true ts vs ds ps → (∀ (j : Nat) t v, ts[j]? = some t → vs[j]? = some v → Value.okWide P w r b0 t v) →
    (∀ n, n ∈ DataW.weightsEach P ts ds → n ≤ reachBytes) → ∃ x, RepL (fun b => b < w.heap.size) w (c x) vs ∧ G x
theorem OpensArgs.nil : OpensArgs P [] (fun _ : Unit => []) (fun _ => True) := by
  refine ⟨fun enc w r b0 vs ds ps h _ _ => ?_⟩
  cases vs with
  | nil => exact ⟨(), trivial, trivial⟩
  | cons => cases ds <;> simp [DataW.TrodAll] at h
theorem OpensArgs.agg {ts : List TypeId} {X Y : Type} {c : X → List D} {G : X → Prop} {c' : Y → List D} {G' : Y → Prop} (h : Opens P t c G) (hfl : ∀ x, flatD (c x) = true) (hu : (match P.underlying t with | some (.struct _) => true | some (.array _ _) => true | _ => false) = true) (hk : OpensArgs P ts c' G') :
    OpensArgs P (t :: ts) (fun x : X × Y => .agg (c x.1) :: c' x.2) (fun x => G x.1 ∧ G' x.2) := by
  refine ⟨fun enc w r b0 vs ds ps h0 hval hw => ?_⟩
  obtain ⟨v, vs', d, ds', p, q, rfl, rfl, rfl, h1, h2⟩ := Go.ChangeShapes.trodAll_cons h0
  simp only [DataW.weightsEach] at hw
  obtain ⟨x, g1, g2⟩ := h.arg_agg hfl hu (hval 0 t v rfl rfl) h1 fun n hn => hw n (List.mem_append_left _ hn)
  obtain ⟨y, g3, g4⟩ := hk.op enc w r b0 vs' ds' q h2 (fun j t v ht hv => hval (j + 1) t v (by simpa using ht) (by simpa using hv)) fun n hn => hw n (List.mem_append_right _ hn)
  exact ⟨(x, y), ⟨g1, g3⟩, g2, g4⟩
theorem OpensArgs.one {ts : List TypeId} {X Y : Type} {f : X → D} {G : X → Prop} {c' : Y → List D} {G' : Y → Prop} (h : Opens P t (fun x => [f x]) G) (hu : (match P.underlying t with | some .bool => true | some .string => true | some (.int _) => true | some (.slice _) => true | _ => false) = true) (hk : OpensArgs P ts c' G') :
    OpensArgs P (t :: ts) (fun x : X × Y => f x.1 :: c' x.2) (fun x => G x.1 ∧ G' x.2) := by
  refine ⟨fun enc w r b0 vs ds ps h0 hval hw => ?_⟩
  obtain ⟨v, vs', d, ds', p, q, rfl, rfl, rfl, h1, h2⟩ := Go.ChangeShapes.trodAll_cons h0
  simp only [DataW.weightsEach] at hw
  obtain ⟨x, g1, g2⟩ := h.arg_one hu (hval 0 t v rfl rfl) h1 fun n hn => hw n (List.mem_append_left _ hn)
  obtain ⟨y, g3, g4⟩ := hk.op enc w r b0 vs' ds' q h2 (fun j t v ht hv => hval (j + 1) t v (by simpa using ht) (by simpa using hv)) fun n hn => hw n (List.mem_append_right _ hn)
  exact ⟨(x, y), ⟨g1, g3⟩, g2, g4⟩
theorem law_contract {X : Type} {c : X → List D} {G : X → Prop} {H : Type} {enc : TypeId × Value → H} {f : Func} {n : FuncId} {s : ChangeSpec} {W : World} {base : Nat} {args : Array Value} {ds gs : List (DataW H)} {before : List MemPlace} {tb : TypeId} {ts : List TypeId}
    (hop : OpensArgs P ts c G) (hlaw : ∀ x, G x → Does P n (c x) fun y => y = .v (.bool true)) (hts : f.params.toList = ts)
    (hl : laidOutB P = true) (hr : (ts.all fun t => P.readableRec t && Nat.blt t P.types.size) = true) (hvars : s.vars = []) (hrt : f.resultTypes = #[tb]) (htb : P.underlying tb = some .bool)
    (hfn : ∀ ds : List (DataW H), ds.length = ts.length → (s.fn H ds).results = [.lit (.bool true)] ∧ (s.fn H ds).args = ds ∧ (s.fn H ds).vars = [])
    (hval : ∀ (j : Nat) t v, f.params[j]? = some t → args[j]? = some v → Value.okWide P W .any base t v) (hW : DataW.Whole enc P f.params.toList s.vars false W args.toList ds gs before)
    (hwt : (DataW.weightsEach P (f.params.toList ++ s.plain.varTypes P) (ds ++ gs)).all (· ≤ reachBytes) = true) :
    Calls P n args W fun e W' => ∃ v, e = .returned v ∧ s.post enc P f false true false false W args v W' := by
  have hW0 := hW
  obtain ⟨p, q, hA, hV, rfl, hfz, hnd⟩ := hW
  rw [hvars] at hV
  obtain ⟨rfl, rfl⟩ : gs = [] ∧ q = [] := by
    cases gs with
    | nil => exact ⟨rfl, hV⟩
    | cons => simp [DataW.TrodVars] at hV
  rw [hts] at hA
  have hlen : ds.length = ts.length := by
    have : ∀ {ts : List TypeId} {vs : List Value} {ds : List (DataW H)} {ps : List MemPlace}, DataW.TrodAll enc P W 0 (fun _ => true) true ts vs ds ps → ds.length = ts.length := by
      intro ts
      induction ts with
      | nil => intro vs ds ps h; cases vs <;> cases ds <;> simp_all [DataW.TrodAll]
      | cons t ts ih =>
        intro vs ds ps h
        obtain ⟨v, vs', d, ds', p, q, rfl, rfl, rfl, h1, h2⟩ := Go.ChangeShapes.trodAll_cons h
        simp [ih h2]
    exact this hA
  have hwt' : ∀ m, m ∈ DataW.weightsEach P ts ds → m ≤ reachBytes := by
    intro m hm
    have key : ∀ (ts r : List TypeId) (ds : List (DataW H)), m ∈ DataW.weightsEach P ts ds → m ∈ DataW.weightsEach P (ts ++ r) ds := by
      intro ts r
      induction ts with
      | nil => intro ds h; simp [DataW.weightsEach] at h
      | cons t ts ih =>
        intro ds h
        cases ds with
        | nil => simp [DataW.weightsEach] at h
        | cons d ds =>
          simp only [List.cons_append, DataW.weightsEach] at h ⊢
          rcases List.mem_append.1 h with h | h
          · exact List.mem_append_left _ h
          · exact List.mem_append_right _ (ih ds h)
    rw [hts, List.append_nil] at hwt
    simpa using List.all_eq_true.1 hwt m (key ts _ ds hm)
  obtain ⟨x, h1, h2⟩ := hop.op enc W .any base args.toList ds p hA (fun j t v ht hv => hval j t v (by rw [← hts] at ht; simpa using ht) (by simpa using hv)) hwt'
  obtain ⟨f1, f2, f3⟩ := hfn (ds ++ []) (by simpa using hlen)
  refine law_post (Ds := c x) hl (fun t ht => ?_) hvars hrt htb f1 (by simpa using f2) f3 hW0 h1 (hlaw x h2)
  rw [hts] at ht
  have := List.all_eq_true.1 hr t ht
  simp only [Bool.and_eq_true, Nat.blt_eq] at this
  exact this
end
end Go.Sx
namespace Go.Sx
open Go Go.RowKit
theorem loop_rule {S E : Type} {body : S → Option (Sum S E)} (P : S → Prop) (μ : S → Nat) (Q : E → Prop) (h : ∀ s, P s → (∃ e, body s = some (.inr e) ∧ Q e) ∨ (∃ s', body s = some (.inl s') ∧ P s' ∧ μ s' < μ s)) (s0 : S) (h0 : P s0) (hf : μ s0 < FUEL) : ∃ e, loopF body s0 = some e ∧ Q e := by
  have key : ∀ (n : Nat) (s : S), P s → μ s < n → ∃ e, loopO body n s = some e ∧ Q e := by
    intro n
    induction n with
    | zero => intro s _ hn; omega
    | succ n ih =>
      intro s hs hn
      rcases h s hs with ⟨e, h1, h2⟩ | ⟨s', h1, h2, h3⟩
      · exact ⟨e, by simp only [loopO, h1], h2⟩
      · obtain ⟨e, h4, h5⟩ := ih s' h2 (by omega)
        exact ⟨e, by simp only [loopO, h1, h4], h5⟩
  exact key FUEL s0 h0 hf
theorem fuel_lt {n : Nat} (h : n ≤ 9223372036854775807) : n < FUEL := by unfold FUEL; omega
theorem idx_n {α : Type} {l : List α} {k : Nat} (h : k < l.length) : idx l (k : Int) = some l[k] := by
  unfold idx; simp [h]
theorem wrap_id {z : Int} (h : -9223372036854775808 ≤ z ∧ z ≤ 9223372036854775807) : IntKind.i64.wrap z = z := IntWalk.i64_in z h
theorem wrap_s {k : Nat} (h : k < 9223372036854775807) : IntKind.i64.wrap ((k : Int) + 1) = ((k + 1 : Nat) : Int) := by rw [wrap_id (by omega)]; rfl
section
variable {α : Type} (pr : α → Option Bool)
def idxL (s : List α) : Int → Option (Sum Int (Sum Int Int)) := fun v =>
  if (decide (v < (s.length : Int))) = true then
    Option.bind (idx s v) fun e =>
    Option.bind (pr e) fun x =>
    if x = true then some (.inr (.inr v)) else some (.inl (IntKind.i64.wrap (v + 1)))
  else some (.inr (.inl v))
def idxF (s : List α) : Option Int :=
  Option.bind (loopF (idxL pr s) 0) fun e =>
  match e with
  | .inl _ => some (-1)
  | .inr r => some r
theorem idxF_eq {p : α → Bool} (s : List α) (hp : ∀ x, x ∈ s → pr x = some (p x)) (hl : s.length ≤ 9223372036854775807) : idxF pr s = some (match s.findIdx? p with | some i => (i : Int) | none => -1) := by
  have h : ∃ e, loopF (idxL pr s) 0 = some e ∧ ((e = .inl (s.length : Int) ∧ ∀ x, x ∈ s → p x = false) ∨ ∃ (i : Nat) (h : i < s.length), e = .inr (i : Int) ∧ p s[i] = true ∧ ∀ j (hj : j < i), p s[j] = false) := by
    refine loop_rule (fun v : Int => ∃ k : Nat, v = k ∧ k ≤ s.length ∧ ∀ j (hj : j < s.length), j < k → p s[j] = false) (fun v : Int => s.length - v.toNat) _ ?_ 0 ⟨0, rfl, by omega, by omega⟩ (fuel_lt (by omega))
    rintro v ⟨k, rfl, hk, hno⟩
    unfold idxL
    by_cases hlt : k < s.length
    · have h1 : (k : Int) < (s.length : Int) := by omega
      simp only [h1, decide_true, if_true, idx_n hlt, Option.bind_some, hp _ (List.getElem_mem hlt)]
      by_cases hx : p s[k] = true
      · left; exact ⟨.inr (k : Int), by simp only [hx, if_true], .inr ⟨k, hlt, rfl, hx, fun j hj => hno j (by omega) hj⟩⟩
      · right
        refine ⟨_, by simp only [hx, if_false, Bool.false_eq_true], ⟨k + 1, wrap_s (by omega), by omega, fun j hj hjk => ?_⟩, by rw [wrap_s (by omega)]; omega⟩
        by_cases e : j = k
        · subst e; simpa using hx
        · exact hno j hj (by omega)
    · left
      have h1 : ¬ (k : Int) < (s.length : Int) := by omega
      obtain rfl : k = s.length := by omega
      refine ⟨.inl _, by simp, .inl ⟨rfl, fun x hx => ?_⟩⟩
      obtain ⟨j, hj, rfl⟩ := List.mem_iff_getElem.1 hx
      exact hno j hj hj
  obtain ⟨e, h1, h2⟩ := h
  unfold idxF
  rw [h1, Option.bind_some]
  rcases h2 with ⟨rfl, hn⟩ | ⟨i, hi, rfl, hy, hn⟩
  · have : s.findIdx? p = none := List.findIdx?_eq_none_iff.2 fun x hx => hn x hx
    rw [this]
  · have : s.findIdx? p = some i := List.findIdx?_eq_some_iff_getElem.2 ⟨hi, hy, fun j hj => by simpa using hn j hj⟩
    rw [this]
def delL : (Int × Int × (List α)) → Option (Sum (Int × Int × (List α)) (Int × Int × (List α))) := fun (i, j, v) =>
  if (decide (j < (v.length : Int))) = true then
    Option.bind (idx v j) fun _ =>
    Option.bind (idx v j) fun e =>
    Option.bind (pr e) fun x =>
    if (!x) = true then
      Option.bind (idx v i) fun _ =>
      Option.bind (idx v i) fun _ =>
      some (.inl ((IntKind.i64.wrap (i + 1)), (IntKind.i64.wrap (j + 1)), (v.set i.toNat e)))
    else some (.inl (i, (IntKind.i64.wrap (j + 1)), v))
  else some (.inr (i, j, v))
def delF (s : List α) : Option (List α) :=
  Option.bind (idxF pr s) fun x1 =>
  if (x1 == (-1)) = true then some s
  else
    Option.bind (loopF (delL pr) (x1, (IntKind.i64.wrap (x1 + 1)), s)) fun (i, _, v) =>
    gd (0 ≤ i ∧ i.toNat ≤ v.length ∧ 0 < v.length) (some (v.take i.toNat))
theorem delF_eq {p : α → Bool} (s : List α) (hp : ∀ x, x ∈ s → pr x = some (p x)) (hl : s.length ≤ 9223372036854775806) : delF pr s = some (s.filter fun x => !p x) := by
  unfold delF
  rw [idxF_eq pr s hp (by omega)]
  cases hf : s.findIdx? p with
  | none =>
    have hn := List.findIdx?_eq_none_iff.1 hf
    simp only [Option.bind_some, beq_self_eq_true, if_true]
    rw [List.filter_eq_self.2 fun x hx => by simp [hn x hx]]
  | some i0 =>
    obtain ⟨hi, hy, hn⟩ := List.findIdx?_eq_some_iff_getElem.1 hf
    have hne : ((i0 : Int) == -1) = false := by
      simp
    simp only [Option.bind_some, hne, Bool.false_eq_true, if_false]
    rw [wrap_s (by omega)]
    have h0 : (s.take i0).filter (fun x => !p x) = s.take i0 := List.filter_eq_self.2 fun x hx => by
      obtain ⟨j, hj, rfl⟩ := List.mem_iff_getElem.1 hx
      simp only [List.length_take] at hj
      rw [List.getElem_take]
      have := hn j (by omega)
      simpa using this
    obtain ⟨e, h1, h2⟩ := loop_rule (body := delL pr) (fun st : Int × Int × List α => ∃ i j : Nat, st.1 = i ∧ st.2.1 = j ∧ i < j ∧ j ≤ s.length ∧ st.2.2.length = s.length ∧ st.2.2.drop j = s.drop j ∧ st.2.2.take i = (s.take j).filter fun x => !p x) (fun st => s.length - st.2.1.toNat)
      (fun st => ∃ i : Nat, st.1 = i ∧ i < s.length ∧ st.2.2.length = s.length ∧ st.2.2.take i = s.filter fun x => !p x) (by
      rintro ⟨i', j', v⟩ ⟨i, j, rfl, rfl, hij, hj, hv, hd, ht⟩
      simp only at hv hd ht ⊢
      unfold delL
      by_cases hlt : j < s.length
      · have h1 : (j : Int) < (v.length : Int) := by omega
        have hjv : j < v.length := by omega
        have he : v[j] = s[j] := by
          have : v[j]? = s[j]? := by
            have a : (v.drop j)[0]? = (s.drop j)[0]? := by rw [hd]
            simpa using a
          rw [List.getElem?_eq_getElem hjv, List.getElem?_eq_getElem hlt] at this
          exact Option.some.inj this
        right
        have htk : s.take (j + 1) = s.take j ++ [s[j]] := by rw [List.take_add_one, List.getElem?_eq_getElem hlt]; rfl
        have hdr : v.drop (j + 1) = s.drop (j + 1) := by
          have : (v.drop j).drop 1 = (s.drop j).drop 1 := by rw [hd]
          simpa [List.drop_drop] using this
        simp only [h1, decide_true, if_true, idx_n hjv, Option.bind_some, he, hp _ (List.getElem_mem hlt)]
        by_cases hx : p s[j] = true
        · refine ⟨_, by simp only [hx, Bool.not_true, Bool.false_eq_true, if_false]; rfl, ⟨i, j + 1, rfl, wrap_s (k := j) (by omega), by omega, by omega, hv, hdr, ?_⟩, by simp only; rw [wrap_s (by omega)]; omega⟩
          rw [ht, htk, List.filter_append]; simp [hx]
        · have hx' : p s[j] = false := by simpa using hx
          have hiv : i < v.length := by omega
          refine ⟨_, by simp only [hx', Bool.not_false, if_true, idx_n hiv, Option.bind_some]; rfl, ⟨i + 1, j + 1, wrap_s (k := i) (by omega), wrap_s (k := j) (by omega), by omega, by omega, by simp [hv], ?_, ?_⟩, by simp only; rw [wrap_s (by omega)]; omega⟩
          · simp only [Int.toNat_natCast]
            rw [List.drop_set_of_lt (by omega)]; exact hdr
          · simp only [Int.toNat_natCast]
            rw [htk, List.filter_append, ← ht, List.take_add_one, List.take_set_of_le (by omega), List.getElem?_set_self (by omega)]
            simp [hx']
      · left
        have h1 : ¬ (j : Int) < (v.length : Int) := by omega
        obtain rfl : j = s.length := by omega
        refine ⟨_, by simp only [h1, decide_false, Bool.false_eq_true, if_false]; rfl, i, rfl, by omega, hv, ?_⟩
        rw [ht, List.take_of_length_le (Nat.le_refl _)]) ((i0 : Int), ((i0 + 1 : Nat) : Int), s) ⟨i0, i0 + 1, rfl, rfl, by omega, by omega, rfl, rfl, by
        rw [List.take_add_one, List.getElem?_eq_getElem hi, List.filter_append, h0]; simp [hy]⟩ (fuel_lt (by omega))
    obtain ⟨i', j', v⟩ := e
    obtain ⟨i, rfl, hi2, hv, ht⟩ := h2
    rw [h1]
    simp only [Option.bind_some, Int.toNat_natCast]
    have hg : 0 ≤ (i : Int) ∧ i ≤ v.length ∧ 0 < v.length := by simp only at hv; omega
    simp only at ht
    simp [gd, hg, ht]
end
end Go.Sx
