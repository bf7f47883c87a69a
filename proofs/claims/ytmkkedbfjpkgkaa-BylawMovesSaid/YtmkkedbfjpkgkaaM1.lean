/- What may be read at the types of the statement's parameters; plain facts. -/
import Derived.Test.YtmkkedbfjpkgkaaL1
set_option linter.unusedVariables false
set_option linter.unusedSimpArgs false
namespace Go.Proofs.Ytmkkedbfjpkgkaa
open Go Go.RowKit Go.Sx
def TRange.G (x : TRange) : Prop := InK .i64 x.Lo ∧ InK .i64 x.Hi
theorem op_27 : Opens Try.prog 27 TRange.c TRange.G :=
  (Opens.struct Try.underlying27 (OpensF.cons (s := 1) (Opens.int Try.underlying3) (OpensF.last (s := 1) (Opens.int Try.underlying3) rfl (by kernel_rfl) rfl) rfl (by kernel_rfl)) (by kernel_rfl)).iso (fun x => (⟨x.1, x.2⟩ : TRange)) (fun _ => rfl) (fun _ h => h)
def TVersion.G (x : TVersion) : Prop := InK .i64 x.Source ∧ InK .i64 x.Class ∧ InK .i64 x.From ∧ TRange.G x.On ∧ TRange.G x.Off ∧ InK .i64 x.Moon ∧ InK .i64 x.Fog ∧ InK .i64 x.Known ∧ InK .i64 x.Until
theorem op_82 : Opens Try.prog 82 TVersion.c TVersion.G :=
  (Opens.struct Try.underlying82 (OpensF.cons (s := 1) (Opens.int Try.underlying3) (OpensF.cons (s := 1) (Opens.int Try.underlying3) (OpensF.cons (s := 1) (Opens.int Try.underlying3) (OpensF.cons (s := 2) op_27 (OpensF.cons (s := 2) op_27 (OpensF.cons (s := 1) (Opens.int Try.underlying3) (OpensF.cons (s := 1) (Opens.int Try.underlying3) (OpensF.cons (s := 1) (Opens.int Try.underlying3) (OpensF.last (s := 1) (Opens.int Try.underlying3) rfl (by kernel_rfl) rfl) rfl (by kernel_rfl)) rfl (by kernel_rfl)) rfl (by kernel_rfl)) rfl (by kernel_rfl)) rfl (by kernel_rfl)) rfl (by kernel_rfl)) rfl (by kernel_rfl)) rfl (by kernel_rfl)) (by kernel_rfl)).iso (fun x => (⟨x.1, x.2.1, x.2.2.1, x.2.2.2.1, x.2.2.2.2.1, x.2.2.2.2.2.1, x.2.2.2.2.2.2.1, x.2.2.2.2.2.2.2.1, x.2.2.2.2.2.2.2.2⟩ : TVersion)) (fun _ => rfl) (fun _ h => h)
theorem op_22 : Opens Try.prog 22 (fun l : (List TVersion) => [.lst 11 l.length (l.flatMap TVersion.c)]) (fun l => (l.length * 88 ≤ reachBytes ∧ l.length ≤ maxLen ∧ ∀ y : TVersion, y ∈ l → TVersion.G y)) :=
  Opens.slice Try.underlying22 op_82 (by kernel_rfl) (by kernel_rfl) (fun _ => rfl) (fun _ => rfl) (by decide)
def TStreet.G (x : TStreet) : Prop := InK .i64 x.Id ∧ InK .i64 x.Class ∧ InK .i64 x.District ∧ InK .i64 x.First ∧ InK .i64 x.Many
theorem op_84 : Opens Try.prog 84 TStreet.c TStreet.G :=
  (Opens.struct Try.underlying84 (OpensF.cons (s := 1) (Opens.int Try.underlying3) (OpensF.cons (s := 1) (Opens.int Try.underlying3) (OpensF.cons (s := 1) (Opens.int Try.underlying3) (OpensF.cons (s := 1) (Opens.int Try.underlying3) (OpensF.last (s := 1) (Opens.int Try.underlying3) rfl (by kernel_rfl) rfl) rfl (by kernel_rfl)) rfl (by kernel_rfl)) rfl (by kernel_rfl)) rfl (by kernel_rfl)) (by kernel_rfl)).iso (fun x => (⟨x.1, x.2.1, x.2.2.1, x.2.2.2.1, x.2.2.2.2⟩ : TStreet)) (fun _ => rfl) (fun _ h => h)
theorem op_23 : Opens Try.prog 23 (fun l : (List TStreet) => [.lst 5 l.length (l.flatMap TStreet.c)]) (fun l => (l.length * 40 ≤ reachBytes ∧ l.length ≤ maxLen ∧ ∀ y : TStreet, y ∈ l → TStreet.G y)) :=
  Opens.slice Try.underlying23 op_84 (by kernel_rfl) (by kernel_rfl) (fun _ => rfl) (fun _ => rfl) (by decide)
def TBylaw.G (x : TBylaw) : Prop := (x.Versions.length * 88 ≤ reachBytes ∧ x.Versions.length ≤ maxLen ∧ ∀ y : TVersion, y ∈ x.Versions → TVersion.G y) ∧ (x.Streets.length * 40 ≤ reachBytes ∧ x.Streets.length ≤ maxLen ∧ ∀ y : TStreet, y ∈ x.Streets → TStreet.G y)
theorem op_25 : Opens Try.prog 25 TBylaw.c TBylaw.G :=
  (Opens.struct Try.underlying25 (OpensF.cons (s := 1) op_22 (OpensF.last (s := 1) op_23 rfl (by kernel_rfl) rfl) rfl (by kernel_rfl)) (by kernel_rfl)).iso (fun x => (⟨x.1, x.2⟩ : TBylaw)) (fun _ => rfl) (fun _ h => h)
def TNight.G (x : TNight) : Prop := InK .i64 x.No ∧ TRange.G x.Set ∧ TRange.G x.Rise ∧ TRange.G x.Light ∧ InK .i64 x.Fog
theorem op_29 : Opens Try.prog 29 TNight.c TNight.G :=
  (Opens.struct Try.underlying29 (OpensF.cons (s := 1) (Opens.int Try.underlying3) (OpensF.cons (s := 2) op_27 (OpensF.cons (s := 2) op_27 (OpensF.cons (s := 2) op_27 (OpensF.last (s := 1) (Opens.int Try.underlying3) rfl (by kernel_rfl) rfl) rfl (by kernel_rfl)) rfl (by kernel_rfl)) rfl (by kernel_rfl)) rfl (by kernel_rfl)) (by kernel_rfl)).iso (fun x => (⟨x.1, x.2.1, x.2.2.1, x.2.2.2.1, x.2.2.2.2⟩ : TNight)) (fun _ => rfl) (fun _ h => h)
def TAsk.G (x : TAsk) : Prop := InK .i64 x.Lamp ∧ InK .i64 x.Class ∧ InK .i64 x.District ∧ InK .i64 x.Source ∧ InK .i64 x.Known ∧ InK .i64 x.Later
theorem op_47 : Opens Try.prog 47 TAsk.c TAsk.G :=
  (Opens.struct Try.underlying47 (OpensF.cons (s := 1) (Opens.int Try.underlying3) (OpensF.cons (s := 1) (Opens.int Try.underlying3) (OpensF.cons (s := 1) (Opens.int Try.underlying3) (OpensF.cons (s := 1) (Opens.int Try.underlying3) (OpensF.cons (s := 1) (Opens.int Try.underlying3) (OpensF.last (s := 1) (Opens.int Try.underlying3) rfl (by kernel_rfl) rfl) rfl (by kernel_rfl)) rfl (by kernel_rfl)) rfl (by kernel_rfl)) rfl (by kernel_rfl)) rfl (by kernel_rfl)) (by kernel_rfl)).iso (fun x => (⟨x.1, x.2.1, x.2.2.1, x.2.2.2.1, x.2.2.2.2.1, x.2.2.2.2.2⟩ : TAsk)) (fun _ => rfl) (fun _ h => h)
end Go.Proofs.Ytmkkedbfjpkgkaa
namespace Go.Proofs.Ytmkkedbfjpkgkaa
open Go Go.Sx
theorem W_id {z : Int} (h : -9223372036854775808 ≤ z ∧ z ≤ 9223372036854775807) : W z = z := wrap_id h
theorem W_s {k : Nat} (h : k < 9223372036854775807) : W ((k : Int) + 1) = ((k + 1 : Nat) : Int) := wrap_s h
def runL {α σ R : Type} (f : σ → α → Sum σ R) : List α → σ → Sum σ R
  | [], s => .inl s
  | x :: l, s => match f s x with | .inl s' => runL f l s' | .inr r => .inr r
theorem runL_foldl {α σ R : Type} (f : σ → α → σ) (l : List α) (s : σ) : runL (R := R) (fun s x => .inl (f s x)) l s = .inl (l.foldl f s) := by
  induction l generalizing s with
  | nil => rfl
  | cons x l ih => exact ih (f s x)
theorem loop_list {α σ S E R : Type} {body : S → Option (Sum S E)} (l : List α) (hl : l.length ≤ 9223372036854775807) (enc : Nat → σ → S) (f : σ → α → Sum σ R) (out : R → E) (fin : σ → E) (P : List α → σ → Prop)
    (h : ∀ pre x post s, l = pre ++ x :: post → P pre s → body (enc pre.length s) = some (match f s x with | .inl s' => .inl (enc (pre.length + 1) s') | .inr r => .inr (out r)) ∧ ∀ s', f s x = .inl s' → P (pre ++ [x]) s')
    (he : ∀ s, P l s → body (enc l.length s) = some (.inr (fin s))) (s0 : σ) (h0 : P [] s0) :
    loopF body (enc 0 s0) = some (match runL f l s0 with | .inl s => fin s | .inr r => out r) := by
  have key : ∀ (post pre : List α) (s : σ) (n : Nat), l = pre ++ post → P pre s → post.length < n → loopO body n (enc pre.length s) = some (match runL f post s with | .inl s => fin s | .inr r => out r) := by
    intro post
    induction post with
    | nil =>
      intro pre s n hp hs hn
      cases n with
      | zero => omega
      | succ n =>
        simp only [List.append_nil] at hp
        subst hp
        simp only [loopO, he s hs, runL]
    | cons x post ih =>
      intro pre s n hp hs hn
      cases n with
      | zero => omega
      | succ n =>
        obtain ⟨h1, h2⟩ := h pre x post s hp hs
        simp only [loopO, h1, runL]
        cases hf : f s x with
        | inl s' =>
          have := ih (pre ++ [x]) s' n (by simp [hp]) (h2 s' hf) (by simp at hn; omega)
          simpa using this
        | inr r => rfl
  exact key l [] s0 FUEL rfl h0 (by unfold FUEL; omega)
theorem idx_pre {α : Type} {pre post : List α} {x : α} : idx (pre ++ x :: post) (pre.length : Int) = some x := by
  unfold idx; simp
theorem lt_pre {α : Type} {pre post : List α} {x : α} : ((pre.length : Int) < ((pre ++ x :: post).length : Int)) := by simp; omega
theorem loopI_list {α β S E : Type} {body : S → Option (List β × Sum S E)} (l : List α) (hl : l.length ≤ 9223372036854775807) (enc : Nat → S) (em : α → List β) (fin : E)
    (h : ∀ pre x post, l = pre ++ x :: post → body (enc pre.length) = some (em x, .inl (enc (pre.length + 1))))
    (he : body (enc l.length) = some ([], .inr fin)) : loopIF body (enc 0) = some (l.flatMap em, fin) := by
  have key : ∀ (post pre : List α) (n : Nat), l = pre ++ post → post.length < n → loopIO body n (enc pre.length) = some (post.flatMap em, fin) := by
    intro post
    induction post with
    | nil =>
      intro pre n hp hn
      cases n with
      | zero => omega
      | succ n =>
        simp only [List.append_nil] at hp
        subst hp
        simp only [loopIO, he, List.flatMap_nil]
    | cons x post ih =>
      intro pre n hp hn
      cases n with
      | zero => omega
      | succ n =>
        have := ih (pre ++ [x]) n (by simp [hp]) (by simp at hn; omega)
        simp only [List.length_append, List.length_cons, List.length_nil, Nat.zero_add] at this
        simp only [loopIO, h pre x post hp, this, List.flatMap_cons]
  exact key l [] FUEL rfl (by unfold FUEL; omega)
end Go.Proofs.Ytmkkedbfjpkgkaa
namespace Go.Proofs.Ytmkkedbfjpkgkaa
open Go Go.Sx
theorem in_eq (n lo hi : Int) : m_bylaw_in n lo hi = some (decide (lo ≤ n ∧ n ≤ hi)) := by
  unfold m_bylaw_in; by_cases h : lo ≤ n <;> simp [h]
theorem Within_eq (n lo hi : Int) : m_R01_Within n lo hi = some (decide (lo ≤ n ∧ n ≤ hi)) := in_eq n lo hi
theorem isNight_eq (n : Int) : m_bylaw_isNight n = some (decide (0 ≤ n ∧ n ≤ 100000)) := by unfold m_bylaw_isNight; rw [in_eq]; rfl
theorem IsNight_eq (n : Int) : m_R01_IsNight n = some (decide (0 ≤ n ∧ n ≤ 100000)) := by unfold m_R01_IsNight; rw [Within_eq]; rfl
theorem isRange_eq (r : TRange) (hi : Int) : m_bylaw_isRange r hi = some (decide (0 ≤ r.Lo ∧ r.Lo ≤ r.Hi ∧ r.Hi ≤ hi)) := by
  unfold m_bylaw_isRange; by_cases h : 0 ≤ r.Lo <;> by_cases h1 : r.Lo ≤ r.Hi <;> simp [h, h1]
theorem IsRange_eq (r : TRange) (lo hi : Int) : m_R01_IsRange r lo hi = some (decide (lo ≤ r.Lo ∧ r.Lo ≤ r.Hi ∧ r.Hi ≤ hi)) := by
  unfold m_R01_IsRange; by_cases h : lo ≤ r.Lo <;> by_cases h1 : r.Lo ≤ r.Hi <;> simp [h, h1]
theorem ite_not {α : Type} {p : Prop} [Decidable p] {a b : α} : (if (!decide p) = true then a else b) = if p then b else a := by by_cases h : p <;> simp [h]
theorem ite_and {α : Type} {p q : Prop} [Decidable p] [Decidable q] {a b : α} : (if p then (if q then a else b) else b) = if p ∧ q then a else b := by by_cases h : p <;> by_cases k : q <;> simp [h, k]
def VNight (n : TNight) : Prop := (0 ≤ n.No ∧ n.No ≤ 100000) ∧ (0 ≤ n.Set.Lo ∧ n.Set.Lo ≤ n.Set.Hi ∧ n.Set.Hi ≤ 1439) ∧ (0 ≤ n.Rise.Lo ∧ n.Rise.Lo ≤ n.Rise.Hi ∧ n.Rise.Hi ≤ 1439) ∧ n.Set.Hi ≤ n.Rise.Lo ∧ (0 ≤ n.Light.Lo ∧ n.Light.Lo ≤ n.Light.Hi ∧ n.Light.Hi ≤ 1000) ∧ (0 ≤ n.Fog ∧ n.Fog ≤ 2)
instance (n : TNight) : Decidable (VNight n) := by unfold VNight; exact inferInstance
theorem ite_gt {α : Type} {x y : Int} {a b : α} : (if decide (x > y) = true then a else b) = if x ≤ y then b else a := by by_cases h : x ≤ y <;> simp [h] <;> omega
theorem CheckNight_eq (n : TNight) : m_bylaw_CheckNight n = some (if VNight n then 0 else 12) := by
  unfold m_bylaw_CheckNight
  simp only [isNight_eq, isRange_eq, in_eq, Option.bind_some, ite_not, ite_gt, ite_and]
  by_cases hv : VNight n
  · rw [if_pos hv]; exact if_pos hv
  · rw [if_neg hv]; exact if_neg hv
theorem rCheckNight_eq (n : TNight) : m_R01_CheckNight n = some (if VNight n then 0 else 12) := by
  unfold m_R01_CheckNight
  simp only [IsNight_eq, IsRange_eq, Within_eq, Option.bind_some, ite_not, ite_gt, ite_and]
  by_cases hv : VNight n
  · rw [if_pos hv]; exact if_pos hv
  · rw [if_neg hv]; exact if_neg hv
def VVersion (v : TVersion) : Prop := (1 ≤ v.Source ∧ v.Source ≤ 99999) ∧ (1 ≤ v.Class ∧ v.Class ≤ 9) ∧ (0 ≤ v.From ∧ v.From ≤ 100000) ∧ (0 ≤ v.On.Lo ∧ v.On.Lo ≤ v.On.Hi ∧ v.On.Hi ≤ 600) ∧ (0 ≤ v.Off.Lo ∧ v.Off.Lo ≤ v.Off.Hi ∧ v.Off.Hi ≤ 600) ∧
  (0 ≤ v.Moon ∧ v.Moon ≤ 1001) ∧ (0 ≤ v.Fog ∧ v.Fog ≤ 600) ∧ (0 ≤ v.Known ∧ v.Known ≤ 100000) ∧ (v.Until = 0 ∨ (v.Known < v.Until ∧ v.Until ≤ 100000))
instance (v : TVersion) : Decidable (VVersion v) := by unfold VVersion; exact inferInstance
theorem CheckVersion_eq (v : TVersion) : m_bylaw_CheckVersion v = some (if VVersion v then 0 else 10) := by
  unfold m_bylaw_CheckVersion
  simp only [isNight_eq, isRange_eq, in_eq, Option.bind_some, ite_not]
  by_cases hk : 0 ≤ v.Known ∧ v.Known ≤ 100000
  · rw [W_id (by omega)]
    have e : ∀ {a b : Option Int}, (if (v.Until != 0) = true then (if v.Known + 1 ≤ v.Until ∧ v.Until ≤ 100000 then a else b) else a) = if (v.Until = 0 ∨ (v.Known < v.Until ∧ v.Until ≤ 100000)) then a else b := by
      intro a b
      by_cases h : v.Until = 0
      · simp [h]
      · simp only [bne_iff_ne, ne_eq, h, not_false_eq_true, if_true, false_or, Int.add_one_le_iff]
    simp only [e, ite_and]
    by_cases hv : VVersion v
    · rw [if_pos hv]; exact if_pos hv
    · rw [if_neg hv]; exact if_neg hv
  · have : ¬ VVersion v := fun h => hk h.2.2.2.2.2.2.2.1
    simp only [hk, this, if_false, ite_self]
theorem Lasts_eq (k u : Int) : m_R01_Lasts k u = some (decide ((0 ≤ k ∧ k ≤ 100000) ∧ (u = 0 ∨ (k < u ∧ u ≤ 100000)))) := by
  unfold m_R01_Lasts
  simp only [IsNight_eq, Option.bind_some]
  by_cases hk : 0 ≤ k ∧ k ≤ 100000
  · by_cases hu : u = 0
    · simp [hk, hu]
    · by_cases hl : k < u
      · have : 0 ≤ u := by omega
        simp [hk, hu, hl, this]
      · simp [hk, hu, hl]
  · simp only [hk, false_and, decide_false, Bool.false_eq_true, if_false]
theorem rCheckVersion_eq (v : TVersion) : m_R01_CheckVersion v = some (if VVersion v then 0 else 10) := by
  unfold m_R01_CheckVersion
  simp only [IsNight_eq, IsRange_eq, Within_eq, Lasts_eq, Option.bind_some, ite_not, ite_and]
  by_cases hv : VVersion v
  · rw [if_pos hv]; exact if_pos hv
  · rw [if_neg hv]; exact if_neg hv
def VStreet (s : TStreet) : Prop := (1 ≤ s.Id ∧ s.Id ≤ 99) ∧ (1 ≤ s.Class ∧ s.Class ≤ 9) ∧ (1 ≤ s.District ∧ s.District ≤ 9) ∧ (1 ≤ s.First ∧ s.First ≤ 999) ∧ (1 ≤ s.Many ∧ s.Many ≤ 200) ∧ s.First + s.Many - 1 ≤ 999
instance (s : TStreet) : Decidable (VStreet s) := by unfold VStreet; exact inferInstance
theorem CheckStreet_eq (s : TStreet) : m_bylaw_CheckStreet s = some (if VStreet s then 0 else 11) := by
  unfold m_bylaw_CheckStreet
  simp only [in_eq, Option.bind_some, ite_not]
  by_cases h : (1 ≤ s.First ∧ s.First ≤ 999) ∧ (1 ≤ s.Many ∧ s.Many ≤ 200)
  · rw [W_id (z := s.First + s.Many) (by omega), W_id (by omega)]
    simp only [ite_gt, ite_and]
    by_cases hv : VStreet s
    · rw [if_pos hv]; exact if_pos hv
    · rw [if_neg hv]; exact if_neg hv
  · have : ¬ VStreet s := fun k => h ⟨k.2.2.2.1, k.2.2.2.2.1⟩
    simp only [this, if_false]
    by_cases h1 : 1 ≤ s.First ∧ s.First ≤ 999
    · have h2 : ¬ (1 ≤ s.Many ∧ s.Many ≤ 200) := fun k => h ⟨h1, k⟩
      simp only [h1, h2, if_false, ite_self]
    · simp only [h1, if_false, ite_self]
theorem rCheckStreet_eq (s : TStreet) : m_R01_CheckStreet s = some (if VStreet s then 0 else 11) := by
  rw [← CheckStreet_eq]; rfl
def hasB (s : TStreet) (lamp : Int) : Bool := decide (s.First ≤ lamp ∧ lamp ≤ W (W (s.First + s.Many) - 1))
theorem has_eq (s : TStreet) (lamp : Int) : m_bylaw_has s lamp = some (hasB s lamp) := by unfold m_bylaw_has; rw [in_eq]; rfl
theorem VStreet.has {s : TStreet} (h : VStreet s) (lamp : Int) : hasB s lamp = decide (s.First ≤ lamp ∧ lamp < s.First + s.Many) := by
  obtain ⟨_, _, _, h1, h2, h3⟩ := h
  unfold hasB
  rw [W_id (z := s.First + s.Many) (by omega), W_id (by omega)]
  congr 2
  exact propext ⟨fun h => by omega, fun h => by omega⟩
end Go.Proofs.Ytmkkedbfjpkgkaa
namespace Go.Proofs.Ytmkkedbfjpkgkaa
open Go Go.Sx
open Classical
noncomputable def stepIf {α σ R : Type} (ok : σ → α → Prop) (nx : σ → α → σ) (c : R) (s : σ) (x : α) : Sum σ R := if ok s x then .inl (nx s x) else .inr c
theorem stepIf_pos {α σ R : Type} {ok : σ → α → Prop} {nx : σ → α → σ} {c : R} {s : σ} {x : α} (h : ok s x) : stepIf ok nx c s x = .inl (nx s x) := if_pos h
theorem stepIf_neg {α σ R : Type} {ok : σ → α → Prop} {nx : σ → α → σ} {c : R} {s : σ} {x : α} (h : ¬ ok s x) : stepIf ok nx c s x = .inr c := if_neg h
theorem runL_if {α σ R : Type} (ok : σ → α → Prop) (nx : σ → α → σ) (c : R) (l : List α) (s : σ) (Q : List α → σ → Prop) (h0 : ∀ s, Q [] s) (h : ∀ x l s, Q (x :: l) s ↔ ok s x ∧ Q l (nx s x)) :
    runL (stepIf ok nx c) l s = if Q l s then .inl (l.foldl nx s) else .inr c := by
  induction l generalizing s with
  | nil => rw [if_pos (h0 s)]; rfl
  | cons x l ih =>
    simp only [runL]
    by_cases hk : ok s x
    · rw [stepIf_pos hk]
      simp only
      rw [ih]
      by_cases hq : Q l (nx s x)
      · rw [if_pos hq, if_pos ((h x l s).2 ⟨hk, hq⟩)]; rfl
      · rw [if_neg hq, if_neg (fun hh => hq ((h x l s).1 hh).2)]
    · rw [stepIf_neg hk, if_neg (fun hh => hk ((h x l s).1 hh).1)]
def chain {α : Type} (V : α → Prop) (num : α → Int) : List α → Option Int → Prop
  | [], _ => True
  | x :: l, p => (V x ∧ ∀ q, p = some q → q < num x) ∧ chain V num l (some (num x))
theorem chain_iff {α : Type} (V : α → Prop) (num : α → Int) (l : List α) (p : Option Int) : chain V num l p ↔ (∀ x, x ∈ l → V x) ∧ l.Pairwise (fun a b => num a < num b) ∧ ∀ q, p = some q → ∀ x, x ∈ l → q < num x := by
  induction l generalizing p with
  | nil => simp [chain]
  | cons x l ih =>
    simp only [chain, ih, List.mem_cons, List.pairwise_cons, forall_eq_or_imp, Option.some.injEq, forall_eq']
    constructor
    · rintro ⟨⟨h1, h2⟩, h3, h4, h5⟩
      exact ⟨⟨h1, h3⟩, ⟨h5, h4⟩, fun q hq => ⟨h2 q hq, fun y hy => by have := h2 q hq; have := h5 y hy; omega⟩⟩
    · rintro ⟨⟨h1, h3⟩, ⟨h5, h4⟩, h2⟩
      exact ⟨⟨h1, fun q hq => (h2 q hq).1⟩, h3, h4, h5⟩
def numOf {α : Type} (num : α → Int) : List α → Option Int := fun pre => pre.getLast?.map num
theorem chain_loop {α E : Type} {body : Int → Option (Sum Int E)} {V : α → Prop} {num : α → Int} {l : List α} (hl : l.length ≤ 9223372036854775807) (c : E) (fin : E)
    (h : ∀ pre x post, l = pre ++ x :: post → body (pre.length : Int) = some (if V x ∧ ∀ q, numOf num pre = some q → q < num x then .inl ((pre.length + 1 : Nat) : Int) else .inr c))
    (he : body (l.length : Int) = some (.inr fin)) : loopF body 0 = some (if (∀ x, x ∈ l → V x) ∧ l.Pairwise (fun a b => num a < num b) then fin else c) := by
  have hr := loop_list (body := body) (R := E) l hl (fun k (_ : Option Int) => (k : Int)) (stepIf (fun s x => V x ∧ ∀ q, s = some q → q < num x) (fun _ x => some (num x)) c) id (fun _ => fin) (fun pre s => s = numOf num pre)
    (fun pre x post s hp hs => by
      subst hs
      rw [h pre x post hp]
      by_cases hk : V x ∧ ∀ q, numOf num pre = some q → q < num x
      · have e := stepIf_pos (ok := fun s x => V x ∧ ∀ q, s = some q → q < num x) (nx := fun _ x => some (num x)) (c := c) hk
        rw [if_pos hk, e]
        exact ⟨rfl, fun s' hs' => by cases hs'; simp [numOf]⟩
      · have e := stepIf_neg (ok := fun s x => V x ∧ ∀ q, s = some q → q < num x) (nx := fun _ x => some (num x)) (c := c) hk
        rw [if_neg hk, e]
        exact ⟨rfl, fun s' hs' => by cases hs'⟩) (fun s _ => he) none rfl
  have h0 : ((0 : Nat) : Int) = 0 := rfl
  rw [h0] at hr
  rw [hr, runL_if (fun s x => V x ∧ ∀ q, s = some q → q < num x) (fun _ x => some (num x)) c l none (fun l s => chain V num l s) (fun _ => trivial) (fun _ _ _ => Iff.rfl)]
  have hc := chain_iff V num l none
  by_cases hq : chain V num l none
  · rw [if_pos hq, if_pos ⟨(hc.1 hq).1, (hc.1 hq).2.1⟩]
  · rw [if_neg hq, if_neg (fun hh => hq (hc.2 ⟨hh.1, hh.2, by simp⟩))]; rfl
theorem ahead {α : Type} {num : α → Int} {pre post : List α} {x : α} (hl : (pre ++ x :: post).length ≤ 9223372036854775807) :
    (pre = [] ∧ numOf num pre = none ∧ decide ((pre.length : Int) > 0) = false) ∨ ∃ y, decide ((pre.length : Int) > 0) = true ∧ idx (pre ++ x :: post) (W ((pre.length : Int) - 1)) = some y ∧ numOf num pre = some (num y) := by
  rcases List.eq_nil_or_concat pre with rfl | ⟨r, y, rfl⟩
  · left; exact ⟨rfl, rfl, by simp⟩
  · right
    simp at hl
    refine ⟨y, by simp, ?_, by simp [numOf]⟩
    have : W (((r.concat y).length : Int) - 1) = (r.length : Int) := by
      rw [W_id (by simp; omega)]; simp
    rw [this]
    unfold idx
    simp
theorem gd_pos {α : Type} {p : Prop} [Decidable p] {k : Option α} (h : p) : gd p k = k := by unfold gd; rw [if_pos h]
theorem Wsucc {α : Type} {pre post : List α} {x : α} (hl : (pre ++ x :: post).length ≤ 9223372036854775807) : W ((pre.length : Int) + 1) = ((pre.length + 1 : Nat) : Int) := W_s (by simp at hl; omega)
theorem areVersions_eq (l : List TVersion) (most : Int) (hl : l.length ≤ 9223372036854775807) : m_bylaw_areAll_api_Version__bylaw_CheckVersion__bylaw_sourceOf l most = some (decide (((∀ x, x ∈ l → VVersion x) ∧ l.Pairwise (fun a b => a.Source < b.Source)) ∧ (l.length : Int) ≤ most)) := by
  unfold m_bylaw_areAll_api_Version__bylaw_CheckVersion__bylaw_sourceOf
  rw [chain_loop (V := VVersion) (num := TVersion.Source) (l := l) hl (.inr false) (.inl (l.length : Int)) ?_ ?_]
  · by_cases h : (∀ x, x ∈ l → VVersion x) ∧ l.Pairwise (fun a b => a.Source < b.Source)
    · rw [if_pos h]
      simp only [Option.bind_some]
      congr 1
      exact decide_eq_decide.2 ⟨fun k => ⟨h, k⟩, fun k => k.2⟩
    · rw [if_neg h]
      simp only [Option.bind_some]
      congr 1
      exact (decide_eq_false fun k => h k.1).symm
  · rintro pre x post rfl
    unfold m_bylaw_areAll_api_Version__bylaw_CheckVersion__bylaw_sourceOf_L1
    simp only [lt_pre, decide_true, if_true, idx_pre, Option.bind_some, CheckVersion_eq, m_bylaw_sourceOf]
    by_cases hv : VVersion x
    · rcases ahead (num := TVersion.Source) hl with ⟨h1, h2, h3⟩ | ⟨y, h1, h2, h3⟩
      · simp only [hv, if_true, h2, h3, Wsucc hl, bne_self_eq_false, Bool.false_eq_true, if_false]; simp
      · simp only [hv, if_true, h1, h2, h3, Option.bind_some, Wsucc hl, true_and, Option.some.injEq, forall_eq']
        by_cases hq : y.Source < x.Source
        · have : ¬ y.Source ≥ x.Source := by omega
          simp [hq, this]
        · have : y.Source ≥ x.Source := by omega
          simp [hq, this]
    · simp [hv]
  · unfold m_bylaw_areAll_api_Version__bylaw_CheckVersion__bylaw_sourceOf_L1
    simp
theorem areStreets_eq (l : List TStreet) (most : Int) (hl : l.length ≤ 9223372036854775807) : m_bylaw_areAll_api_Street__bylaw_CheckStreet__bylaw_idOf l most = some (decide (((∀ x, x ∈ l → VStreet x) ∧ l.Pairwise (fun a b => a.Id < b.Id)) ∧ (l.length : Int) ≤ most)) := by
  unfold m_bylaw_areAll_api_Street__bylaw_CheckStreet__bylaw_idOf
  rw [chain_loop (V := VStreet) (num := TStreet.Id) (l := l) hl (.inr false) (.inl (l.length : Int)) ?_ ?_]
  · by_cases h : (∀ x, x ∈ l → VStreet x) ∧ l.Pairwise (fun a b => a.Id < b.Id)
    · rw [if_pos h]
      simp only [Option.bind_some]
      congr 1
      exact decide_eq_decide.2 ⟨fun k => ⟨h, k⟩, fun k => k.2⟩
    · rw [if_neg h]
      simp only [Option.bind_some]
      congr 1
      exact (decide_eq_false fun k => h k.1).symm
  · rintro pre x post rfl
    unfold m_bylaw_areAll_api_Street__bylaw_CheckStreet__bylaw_idOf_L1
    simp only [lt_pre, decide_true, if_true, idx_pre, Option.bind_some, CheckStreet_eq, m_bylaw_idOf]
    by_cases hv : VStreet x
    · rcases ahead (num := TStreet.Id) hl with ⟨h1, h2, h3⟩ | ⟨y, h1, h2, h3⟩
      · simp only [hv, if_true, h2, h3, Wsucc hl, bne_self_eq_false, Bool.false_eq_true, if_false]; simp
      · simp only [hv, if_true, h1, h2, h3, Option.bind_some, Wsucc hl, true_and, Option.some.injEq, forall_eq']
        by_cases hq : y.Id < x.Id
        · have : ¬ y.Id ≥ x.Id := by omega
          simp [hq, this]
        · have : y.Id ≥ x.Id := by omega
          simp [hq, this]
    · simp [hv]
  · unfold m_bylaw_areAll_api_Street__bylaw_CheckStreet__bylaw_idOf_L1
    simp
theorem all_loop {α E : Type} {body : Int → Option (Sum Int E)} {V : α → Prop} {l : List α} (hl : l.length ≤ 9223372036854775807) (c : E) (fin : E)
    (h : ∀ pre x post, l = pre ++ x :: post → (∀ y, y ∈ pre → V y) → body (pre.length : Int) = some (if V x then .inl ((pre.length + 1 : Nat) : Int) else .inr c))
    (he : body (l.length : Int) = some (.inr fin)) : loopF body 0 = some (if ∀ x, x ∈ l → V x then fin else c) := by
  have hr := loop_list (body := body) (R := E) l hl (fun k (_ : Unit) => (k : Int)) (stepIf (fun _ x => V x) (fun s _ => s) c) id (fun _ => fin) (fun pre _ => ∀ y, y ∈ pre → V y)
    (fun pre x post s hp hpre => by
      rw [h pre x post hp hpre]
      by_cases hk : V x
      · have e := stepIf_pos (ok := fun _ x => V x) (nx := fun s _ => s) (c := c) (s := s) hk
        rw [if_pos hk, e]
        refine ⟨rfl, fun s' _ y hy => ?_⟩
        rcases List.mem_append.1 hy with h | h
        · exact hpre y h
        · simp at h; subst h; exact hk
      · have e := stepIf_neg (ok := fun _ x => V x) (nx := fun s _ => s) (c := c) (s := s) hk
        rw [if_neg hk, e]
        exact ⟨rfl, fun s' hs' => by cases hs'⟩) (fun s _ => he) () (by simp)
  have h0 : ((0 : Nat) : Int) = 0 := rfl
  rw [h0] at hr
  rw [hr, runL_if (fun _ x => V x) (fun s _ => s) c l () (fun l _ => ∀ x, x ∈ l → V x) (by simp) (by simp)]
  by_cases hq : ∀ x, x ∈ l → V x
  · rw [if_pos hq, if_pos hq]
  · rw [if_neg hq, if_neg hq]; rfl
def meets (s t : TStreet) : Prop := t.First < s.First + s.Many ∧ s.First < t.First + t.Many
structure VBylaw (b : TBylaw) : Prop where
  vers : ∀ v, v ∈ b.Versions → VVersion v
  vsort : b.Versions.Pairwise (fun a c => a.Source < c.Source)
  vlen : b.Versions.length ≤ 60
  sts : ∀ s, s ∈ b.Streets → VStreet s
  ssort : b.Streets.Pairwise (fun a c => a.Id < c.Id)
  slen : b.Streets.length ≤ 20
  apart : b.Streets.Pairwise (fun s t => ¬ meets s t)
theorem pair_cases {α : Type} {R : α → α → Prop} (l : List α) : l.Pairwise R ↔ ∀ pre x post, l = pre ++ x :: post → ∀ y, y ∈ pre → R y x := by
  constructor
  · rintro h pre x post rfl y hy
    exact (List.pairwise_append.1 h).2.2 y hy x (List.mem_cons_self ..)
  · intro h
    rw [List.pairwise_iff_getElem]
    intro i j hi hj hij
    exact h (l.take j) l[j] (l.drop (j + 1)) (by rw [← List.drop_eq_getElem_cons hj, List.take_append_drop]) _ (List.mem_take_iff_getElem.2 ⟨i, by omega, rfl⟩)
theorem Check_L4_eq (x : TStreet) (l : List TStreet) (hl : l.length ≤ 9223372036854775807) (hx : VStreet x) (hv : ∀ y, y ∈ l → VStreet y) : loopF (m_bylaw_Check_L4 x l) 0 = some (if ∀ y, y ∈ l → ¬ meets y x then .inl (l.length : Int) else .inr 13) := by
  refine Eq.trans (all_loop (V := fun y => ¬ meets y x) hl (.inr 13) (.inl (l.length : Int)) ?_ ?_) (by congr)
  · rintro pre y post rfl _
    unfold m_bylaw_Check_L4
    have hy := hv y (by simp)
    simp only [lt_pre, decide_true, if_true, idx_pre, Option.bind_some, has_eq, hx.has, hy.has, Wsucc hl]
    have hxm := hx.2.2.2.2.1
    have hym := hy.2.2.2.2.1
    unfold meets
    by_cases h1 : x.First ≤ y.First ∧ y.First < x.First + x.Many
    · have : (x.First < y.First + y.Many ∧ y.First < x.First + x.Many) := by omega
      simp [h1, this]
    · by_cases h2 : y.First ≤ x.First ∧ x.First < y.First + y.Many
      · have : (x.First < y.First + y.Many ∧ y.First < x.First + x.Many) := by omega
        simp [h1, h2, this]
      · have : ¬ (x.First < y.First + y.Many ∧ y.First < x.First + x.Many) := by omega
        simp only [h1, h2, this, decide_false, Bool.false_eq_true, if_false, not_false_eq_true, if_true]
  · unfold m_bylaw_Check_L4; simp
theorem Check_eq (b : TBylaw) (h1 : b.Versions.length ≤ 9223372036854775807) (h2 : b.Streets.length ≤ 9223372036854775807) : m_bylaw_Check b = some (if VBylaw b then 0 else 13) := by
  unfold m_bylaw_Check
  rw [areVersions_eq _ _ h1, areStreets_eq _ _ h2]
  simp only [Option.bind_some, ite_not]
  by_cases ha : ((∀ x, x ∈ b.Versions → VVersion x) ∧ b.Versions.Pairwise (fun a b => a.Source < b.Source)) ∧ (b.Versions.length : Int) ≤ 60
  · by_cases hb : ((∀ x, x ∈ b.Streets → VStreet x) ∧ b.Streets.Pairwise (fun a b => a.Id < b.Id)) ∧ (b.Streets.length : Int) ≤ 20
    · rw [if_pos ha, if_pos hb]
      have hloop : loopF (m_bylaw_Check_L3 b) 0 = some (if b.Streets.Pairwise (fun s t => ¬ meets s t) then .inl (b.Streets.length : Int) else .inr 13) := by
        have hr := loop_list (body := m_bylaw_Check_L3 b) (R := Unit) b.Streets h2 (fun k (_ : Unit) => (k : Int)) (stepIf (fun _ x => ∀ pre post, b.Streets = pre ++ x :: post → ∀ y, y ∈ pre → ¬ meets y x) (fun s _ => s) ()) (fun _ => .inr 13) (fun _ => .inl (b.Streets.length : Int)) (fun _ _ => True)
          (fun pre x post s hp _ => by
            refine ⟨?_, fun _ _ => trivial⟩
            have hnd : b.Streets.Pairwise (fun a b => a ≠ b) := hb.1.2.imp fun h e => by subst e; omega
            have hu : ∀ pre' post', b.Streets = pre' ++ x :: post' → pre' = pre := by
              intro pre' post' hp'
              have hd : (pre ++ x :: post).Nodup := by rw [← hp]; exact hnd
              rw [hp] at hp'
              have hlen : pre'.length = pre.length := by
                have hx1 : (pre ++ x :: post)[pre.length]? = some x := by simp
                have hx2 : (pre ++ x :: post)[pre'.length]? = some x := by rw [hp']; simp
                have hlt1 : pre.length < (pre ++ x :: post).length := by simp
                exact ((List.getElem?_inj hlt1 hd).1 (by rw [hx1, hx2])).symm
              exact (List.append_inj hp'.symm (by omega)).1
            have hcond : (∀ pre' post', b.Streets = pre' ++ x :: post' → ∀ y, y ∈ pre' → ¬ meets y x) ↔ ∀ y, y ∈ pre → ¬ meets y x := ⟨fun h => h pre post hp, fun h pre' post' hp' => by rw [hu pre' post' hp']; exact h⟩
            have hsub : sub b.Streets 0 ((pre.length : Int)).toNat = pre := by rw [hp]; simp [sub]
            unfold m_bylaw_Check_L3
            have hidx : idx b.Streets (pre.length : Int) = some x := by rw [hp]; exact idx_pre
            have hlt : (pre.length : Int) < (b.Streets.length : Int) := by rw [hp]; exact lt_pre
            have hg : 0 ≤ (pre.length : Int) ∧ (pre.length : Int) ≤ (b.Streets.length : Int) := by omega
            simp only [hlt, decide_true, if_true, hidx, Option.bind_some, gd_pos hg, hsub]
            rw [Check_L4_eq x pre (by omega) (hb.1.1 x (by rw [hp]; simp)) (fun y hy => hb.1.1 y (by rw [hp]; simp [hy]))]
            have hw : W ((pre.length : Int) + 1) = ((pre.length + 1 : Nat) : Int) := W_s (by omega)
            by_cases hk : ∀ y, y ∈ pre → ¬ meets y x
            · have e := stepIf_pos (ok := fun _ x => ∀ pre post, b.Streets = pre ++ x :: post → ∀ y, y ∈ pre → ¬ meets y x) (nx := fun s _ => s) (c := ()) (s := s) (hcond.2 hk)
              rw [if_pos hk, e]; simp [hw]
            · have e := stepIf_neg (ok := fun _ x => ∀ pre post, b.Streets = pre ++ x :: post → ∀ y, y ∈ pre → ¬ meets y x) (nx := fun s _ => s) (c := ()) (s := s) (fun h => hk (hcond.1 h))
              rw [if_neg hk, e]; rfl) (fun s _ => by unfold m_bylaw_Check_L3; simp) () trivial
        have h0 : ((0 : Nat) : Int) = 0 := rfl
        rw [h0] at hr
        rw [hr, runL_if (fun _ x => ∀ pre post, b.Streets = pre ++ x :: post → ∀ y, y ∈ pre → ¬ meets y x) (fun s _ => s) () b.Streets () (fun l _ => ∀ x, x ∈ l → ∀ pre post, b.Streets = pre ++ x :: post → ∀ y, y ∈ pre → ¬ meets y x) (by simp) (fun x l s => by simp only [List.mem_cons, forall_eq_or_imp])]
        have hiff : (∀ x, x ∈ b.Streets → ∀ pre post, b.Streets = pre ++ x :: post → ∀ y, y ∈ pre → ¬ meets y x) ↔ b.Streets.Pairwise (fun s t => ¬ meets s t) := by
          rw [pair_cases]
          exact ⟨fun h pre x post hp y hy => h x (by rw [hp]; simp) pre post hp y hy, fun h x _ pre post hp y hy => h pre x post hp y hy⟩
        by_cases hk : b.Streets.Pairwise (fun s t => ¬ meets s t)
        · rw [if_pos hk, if_pos (hiff.2 hk)]
        · rw [if_neg hk, if_neg (fun h => hk (hiff.1 h))]
      rw [hloop]
      by_cases hk : b.Streets.Pairwise (fun s t => ¬ meets s t)
      · have : VBylaw b := ⟨ha.1.1, ha.1.2, by omega, hb.1.1, hb.1.2, by omega, hk⟩
        rw [if_pos hk, if_pos this]; rfl
      · have : ¬ VBylaw b := fun h => hk h.apart
        rw [if_neg hk, if_neg this]; rfl
    · have : ¬ VBylaw b := fun h => hb ⟨⟨h.sts, h.ssort⟩, by have := h.slen; omega⟩
      rw [if_pos ha, if_neg hb, if_neg this]
  · have : ¬ VBylaw b := fun h => ha ⟨⟨h.vers, h.vsort⟩, by have := h.vlen; omega⟩
    rw [if_neg ha, if_neg this]
end Go.Proofs.Ytmkkedbfjpkgkaa
namespace Go.Proofs.Ytmkkedbfjpkgkaa
open Go Go.Sx
open Classical
theorem pre_loop {α E : Type} {body : Int → Option (Sum Int E)} {ok : List α → α → Prop} {l : List α} (hl : l.length ≤ 9223372036854775807) (c : E) (fin : E)
    (h : ∀ pre x post, l = pre ++ x :: post → (∀ p y q, pre = p ++ y :: q → ok p y) → body (pre.length : Int) = some (if ok pre x then .inl ((pre.length + 1 : Nat) : Int) else .inr c))
    (he : body (l.length : Int) = some (.inr fin)) : loopF body 0 = some (if ∀ pre x post, l = pre ++ x :: post → ok pre x then fin else c) := by
  have hr := loop_list (body := body) (R := E) l hl (fun k (_ : List α) => (k : Int)) (stepIf ok (fun s x => s ++ [x]) c) id (fun _ => fin) (fun pre s => s = pre ∧ ∀ p y q, pre = p ++ y :: q → ok p y)
    (fun pre x post s hp hpre => by
      obtain ⟨rfl, hpre⟩ := hpre
      rw [h s x post hp hpre]
      by_cases hk : ok s x
      · rw [if_pos hk, stepIf_pos hk]
        refine ⟨rfl, fun s' hs' => ?_⟩
        cases hs'
        refine ⟨rfl, fun p y q hpq => ?_⟩
        rcases List.eq_nil_or_concat q with rfl | ⟨r, z, rfl⟩
        · have := List.append_inj' hpq rfl
          obtain ⟨h1, h2⟩ := this
          cases h2; subst h1; exact hk
        · have e : s ++ [x] = (p ++ y :: r) ++ [z] := by rw [hpq]; simp
          exact hpre p y r (List.append_inj' e rfl).1
      · rw [if_neg hk, stepIf_neg hk]
        exact ⟨rfl, fun s' hs' => by cases hs'⟩) (fun s _ => he) [] ⟨rfl, fun p y q h => by simp at h⟩
  have h0 : ((0 : Nat) : Int) = 0 := rfl
  rw [h0] at hr
  rw [hr, runL_if ok (fun s x => s ++ [x]) c l [] (fun l s => ∀ pre x post, l = pre ++ x :: post → ok (s ++ pre) x) (fun s pre x post h => by simp at h) (fun x l s => ?_)]
  · by_cases hq : ∀ pre x post, l = pre ++ x :: post → ok pre x
    · rw [if_pos hq, if_pos (by simpa using hq)]
    · rw [if_neg hq, if_neg (by simpa using hq)]; rfl
  · constructor
    · intro h
      refine ⟨by simpa using h [] x l rfl, fun pre y post hp => ?_⟩
      have := h (x :: pre) y post (by simp [hp])
      simpa using this
    · rintro ⟨h1, h2⟩ pre y post hp
      cases pre with
      | nil => simp at hp; obtain ⟨rfl, rfl⟩ := hp; simpa using h1
      | cons z pre =>
        simp at hp
        obtain ⟨rfl, hp⟩ := hp
        have := h2 pre y post hp
        simpa using this
theorem rCheck_L6_eq (b : TBylaw) {pre post : List TStreet} {x : TStreet} (hp : b.Streets = pre ++ x :: post) (hl : b.Streets.length ≤ 9223372036854775807) (hx : VStreet x) (hv : ∀ y, y ∈ pre → VStreet y) : loopF (m_R01_Check_L6 b (pre.length : Int) x) 0 = some (if ∀ y, y ∈ pre → ¬ meets y x then .inl (pre.length : Int) else .inr 13) := by
  have hle : pre.length ≤ 9223372036854775807 := by rw [hp] at hl; simp at hl; omega
  refine Eq.trans (all_loop (V := fun y => ¬ meets y x) hle (.inr 13) (.inl (pre.length : Int)) ?_ ?_) (by congr)
  · rintro p y q rfl _
    unfold m_R01_Check_L6 m_R01_meet
    have hy := hv y (by simp)
    have hidx : idx b.Streets (p.length : Int) = some y := by rw [hp, List.append_assoc]; exact idx_pre
    have hxm := hx.2.2.2.1
    have hym := hy.2.2.2.1
    have hx2 := hx.2.2.2.2.1
    have hy2 := hy.2.2.2.2.1
    simp only [lt_pre, decide_true, if_true, hidx, Option.bind_some, Wsucc hle]
    rw [W_id (z := x.First + x.Many) (by omega), W_id (z := y.First + y.Many) (by omega)]
    unfold meets
    by_cases h1 : y.First < x.First + x.Many
    · by_cases h2 : x.First < y.First + y.Many
      · simp [h1, h2]
      · simp [h1, h2]
    · simp [h1]
  · unfold m_R01_Check_L6; simp
theorem rCheck_eq (b : TBylaw) (h1 : b.Versions.length ≤ 9223372036854775807) (h2 : b.Streets.length ≤ 9223372036854775807) : m_R01_Check b = some (if VBylaw b then 0 else 13) := by
  unfold m_R01_Check
  by_cases g1 : (b.Versions.length : Int) > 60
  · have : ¬ VBylaw b := fun h => by have := h.vlen; omega
    simp [g1, this]
  by_cases g2 : (b.Streets.length : Int) > 20
  · have : ¬ VBylaw b := fun h => by have := h.slen; omega
    simp [g1, g2, this]
  simp only [g1, g2, decide_false, Bool.false_eq_true, if_false]
  have l1 : loopF (m_R01_Check_L1 b) 0 = some (if (∀ x, x ∈ b.Versions → VVersion x) ∧ b.Versions.Pairwise (fun a b => a.Source < b.Source) then .inl (b.Versions.length : Int) else .inr 13) := by
    refine Eq.trans (chain_loop (V := VVersion) (num := TVersion.Source) h1 (.inr 13) (.inl (b.Versions.length : Int)) ?_ ?_) (by congr)
    · intro pre x post hp
      have hl : (pre ++ x :: post).length ≤ 9223372036854775807 := by rw [← hp]; exact h1
      unfold m_R01_Check_L1
      rw [hp]
      simp only [lt_pre, decide_true, if_true, idx_pre, Option.bind_some, rCheckVersion_eq]
      by_cases hv : VVersion x
      · rcases ahead (num := TVersion.Source) hl with ⟨h1, h2, h3⟩ | ⟨y, h1, h2, h3⟩
        · simp only [hv, if_true, h2, h3, Wsucc hl, bne_self_eq_false, Bool.false_eq_true, if_false]; simp
        · simp only [hv, if_true, h1, h2, h3, Option.bind_some, Wsucc hl, true_and, Option.some.injEq, forall_eq']
          by_cases hq : y.Source < x.Source
          · have : ¬ y.Source ≥ x.Source := by omega
            simp [hq, this]
          · have : y.Source ≥ x.Source := by omega
            simp [hq, this]
      · simp [hv]
    · unfold m_R01_Check_L1; simp
  rw [l1]
  by_cases ha : (∀ x, x ∈ b.Versions → VVersion x) ∧ b.Versions.Pairwise (fun a b => a.Source < b.Source)
  · rw [if_pos ha]
    simp only [Option.bind_some]
    have l5 := pre_loop (body := m_R01_Check_L5 b) (ok := fun pre x => (VStreet x ∧ ∀ q, numOf TStreet.Id pre = some q → q < x.Id) ∧ ∀ y, y ∈ pre → ¬ meets y x) (l := b.Streets) h2 (.inr 13) (.inl (b.Streets.length : Int)) (by
      intro pre x post hp hpre
      have hl : (pre ++ x :: post).length ≤ 9223372036854775807 := by rw [← hp]; exact h2
      have hvp : ∀ y, y ∈ pre → VStreet y := fun y hy => by
        obtain ⟨p, q, rfl⟩ := List.append_of_mem hy
        exact (hpre p y q rfl).1.1
      have hidx : idx b.Streets (pre.length : Int) = some x := by rw [hp]; exact idx_pre
      have hlt : (pre.length : Int) < (b.Streets.length : Int) := by rw [hp]; exact lt_pre
      unfold m_R01_Check_L5
      simp only [hlt, decide_true, if_true, hidx, Option.bind_some, rCheckStreet_eq]
      by_cases hv : VStreet x
      · have l6 := rCheck_L6_eq b hp h2 hv hvp
        rcases ahead (num := TStreet.Id) hl with ⟨h1, h2, h3⟩ | ⟨y, h1, h2, h3⟩
        · simp only [hv, if_true, h2, h3, Wsucc hl, bne_self_eq_false, Bool.false_eq_true, if_false, l6, Option.bind_some]
          by_cases hm : ∀ y, y ∈ pre → ¬ meets y x
          · rw [if_pos hm, if_pos ⟨⟨trivial, by simp⟩, hm⟩]
          · rw [if_neg hm, if_neg (fun h => hm h.2)]
        · have h2' : idx b.Streets (W ((pre.length : Int) - 1)) = some y := by rw [hp]; exact h2
          simp only [hv, if_true, h1, h2', h3, Option.bind_some, Wsucc hl, true_and, Option.some.injEq, forall_eq', bne_self_eq_false, Bool.false_eq_true, if_false, l6]
          by_cases hq : y.Id < x.Id
          · have : ¬ y.Id ≥ x.Id := by omega
            simp only [hq, this, decide_false, Bool.false_eq_true, if_false, true_and]
            by_cases hm : ∀ y, y ∈ pre → ¬ meets y x
            · rw [if_pos hm, if_pos hm]
            · rw [if_neg hm, if_neg hm]
          · have : y.Id ≥ x.Id := by omega
            simp [hq, this]
      · simp [hv]) (by unfold m_R01_Check_L5; simp)
    rw [l5]
    have hiff : (∀ pre x post, b.Streets = pre ++ x :: post → (VStreet x ∧ ∀ q, numOf TStreet.Id pre = some q → q < x.Id) ∧ ∀ y, y ∈ pre → ¬ meets y x) ↔ VBylaw b := by
      constructor
      · intro h
        have hv : ∀ s, s ∈ b.Streets → VStreet s := fun s hs => by
          obtain ⟨p, q, hpq⟩ := List.append_of_mem hs
          exact (h p s q hpq).1.1
        have hch : ∀ (l p : List TStreet), b.Streets = p ++ l → chain VStreet TStreet.Id l (numOf TStreet.Id p) := by
          intro l
          induction l with
          | nil => intro p _; trivial
          | cons x l ih =>
            intro p hp
            refine ⟨(h p x l hp).1, ?_⟩
            have := ih (p ++ [x]) (by simp [hp])
            simpa [numOf] using this
        have hc := (chain_iff VStreet TStreet.Id b.Streets none).1 (hch b.Streets [] rfl)
        exact ⟨ha.1, ha.2, by omega, hv, hc.2.1, by omega, (pair_cases _).2 fun pre x post hp => (h pre x post hp).2⟩
      · intro h pre x post hp
        refine ⟨⟨h.sts x (by rw [hp]; simp), fun q hq => ?_⟩, fun y hy => (pair_cases _).1 h.apart pre x post hp y hy⟩
        simp only [numOf] at hq
        cases hg : pre.getLast? with
        | none => rw [hg] at hq; cases hq
        | some y =>
          rw [hg] at hq
          cases hq
          exact (pair_cases _).1 h.ssort pre x post hp y (List.mem_of_getLast? hg)
    by_cases hb : VBylaw b
    · rw [if_pos hb, if_pos (hiff.2 hb)]; rfl
    · rw [if_neg hb, if_neg (fun h => hb (hiff.1 h))]; rfl
  · have : ¬ VBylaw b := fun h => ha ⟨h.vers, h.vsort⟩
    rw [if_neg ha, if_neg this]; rfl
def stF (b : TBylaw) (lamp : Int) : Option TStreet := b.Streets.find? (hasB · lamp)
def noStreet : TStreet := ⟨0, 0, 0, 0, 0⟩
theorem streetOf_eq (b : TBylaw) (lamp : Int) (hl : b.Streets.length ≤ 9223372036854775807) : m_bylaw_streetOf b lamp = some (match stF b lamp with | some s => (s, 0) | none => (noStreet, 15)) := by
  unfold m_bylaw_streetOf
  have hi : m_slices_IndexFunc_api_Street_api_Street__bylaw_streetOf_1 b.Streets lamp = some (match b.Streets.findIdx? (hasB · lamp) with | some i => (i : Int) | none => -1) :=
    idxF_eq (fun s => m_bylaw_streetOf_1 s lamp) (p := (hasB · lamp)) b.Streets (fun x _ => by unfold m_bylaw_streetOf_1; rw [has_eq]; rfl) hl
  rw [hi]
  unfold stF
  cases hf : b.Streets.findIdx? (hasB · lamp) with
  | none =>
    have : b.Streets.find? (hasB · lamp) = none := List.find?_eq_none.2 fun x hx => by simpa using List.findIdx?_eq_none_iff.1 hf x hx
    rw [this]; rfl
  | some i =>
    obtain ⟨h1, h2, h3⟩ := List.findIdx?_eq_some_iff_getElem.1 hf
    have : b.Streets.find? (hasB · lamp) = some b.Streets[i] := by
      rw [List.find?_eq_some_iff_getElem]
      exact ⟨h2, i, h1, rfl, fun j hj => by have := h3 j hj; simpa using this⟩
    rw [this]
    have hn : ¬ ((i : Int) < 0) := by omega
    simp only [Option.bind_some, hn, decide_false, Bool.false_eq_true, if_false, idx_n h1]
theorem street_eq (b : TBylaw) (lamp : Int) (hl : b.Streets.length ≤ 9223372036854775807) : m_R01_street b lamp = some (match stF b lamp with | some s => (s, true) | none => (noStreet, false)) := by
  unfold m_R01_street
  have hr := loop_list (body := m_R01_street_L1 b lamp) b.Streets hl (fun k (_ : Unit) => (k : Int)) (fun s x => if hasB x lamp = true then .inr x else .inl s) (fun x => .inr (x, true)) (fun _ => .inl (b.Streets.length : Int)) (fun _ _ => True)
    (fun pre x post s hp _ => by
      refine ⟨?_, fun _ _ => trivial⟩
      have hll : (pre ++ x :: post).length ≤ 9223372036854775807 := by rw [← hp]; exact hl
      have hw : m_R01_Within lamp x.First (W (W (x.First + x.Many) - 1)) = some (hasB x lamp) := Within_eq _ _ _
      unfold m_R01_street_L1
      rw [hp]
      simp only [lt_pre, decide_true, if_true, idx_pre, Option.bind_some, hw, Wsucc hll]
      by_cases h : hasB x lamp = true
      · simp [h]
      · simp [h]) (fun s _ => by unfold m_R01_street_L1; simp) () trivial
  have h0 : ((0 : Nat) : Int) = 0 := rfl
  rw [h0] at hr
  rw [hr]
  have hk : ∀ (l : List TStreet) (u : Unit), runL (fun (s : Unit) x => if hasB x lamp = true then Sum.inr x else Sum.inl s) l u = match l.find? (hasB · lamp) with | some s => .inr s | none => .inl u := by
    intro l u
    induction l with
    | nil => rfl
    | cons x l ih =>
      simp only [runL, List.find?_cons]
      by_cases h : hasB x lamp = true
      · simp [h]
      · simp only [h, if_false, Bool.false_eq_true]; exact ih
  rw [hk]
  unfold stF
  cases b.Streets.find? (hasB · lamp) <;> rfl
end Go.Proofs.Ytmkkedbfjpkgkaa
namespace Go.Proofs.Ytmkkedbfjpkgkaa
open Go Go.Sx
open Classical
def zeroV : TVersion := ⟨0, 0, 0, ⟨0, 0⟩, ⟨0, 0⟩, 0, 0, 0, 0⟩
def counts (v : TVersion) (known : Int) : Prop := v.Known ≤ known ∧ (v.Until = 0 ∨ v.Until > known)
noncomputable def stepV (class_ night known : Int) (o v : TVersion) : TVersion := if v.Class = class_ ∧ v.From ≤ night ∧ counts v known ∧ v.From ≥ o.From then v else o
noncomputable def vF (b : TBylaw) (class_ night known : Int) : TVersion := b.Versions.foldl (stepV class_ night known) zeroV
def encV (k : Nat) (o : TVersion) : (Int × Int × Int × Int × Int × Int × Int × Int × Int × Int × Int × Int) := ((k : Int), o.Source, o.Class, o.From, o.On.Lo, o.On.Hi, o.Off.Lo, o.Off.Hi, o.Moon, o.Fog, o.Known, o.Until)
theorem zeroV_iff (o : TVersion) : ((o.Source == 0) && ((o.Class == 0) && ((o.From == 0) && ((o.On.Lo == 0) && ((o.On.Hi == 0) && ((o.Off.Lo == 0) && ((o.Off.Hi == 0) && ((o.Moon == 0) && ((o.Fog == 0) && ((o.Known == 0) && (o.Until == 0))))))))))) = decide (o = zeroV) := by
  obtain ⟨a1, a2, a3, ⟨a4, a5⟩, ⟨a6, a7⟩, a8, a9, a10, a11⟩ := o
  rw [Bool.eq_iff_iff]
  simp [zeroV, and_assoc]
theorem inForce_eq (b : TBylaw) (class_ night known : Int) (hl : b.Versions.length ≤ 9223372036854775807) : m_bylaw_inForce b class_ night known = some (vF b class_ night known, if vF b class_ night known = zeroV then 14 else 0) := by
  have hr := loop_list (body := m_bylaw_inForce_L1 b class_ night known) (R := Unit) b.Versions hl encV (fun o v => .inl (stepV class_ night known o v)) (fun _ => encV 0 zeroV) (fun o => encV b.Versions.length o) (fun _ _ => True)
    (fun pre x post o hp _ => by
      refine ⟨?_, fun _ _ => trivial⟩
      have hll : (pre ++ x :: post).length ≤ 9223372036854775807 := by rw [← hp]; exact hl
      unfold m_bylaw_inForce_L1 encV
      rw [hp]
      simp only [lt_pre, decide_true, if_true, idx_pre, Option.bind_some, Wsucc hll]
      by_cases h : x.Class = class_ ∧ x.From ≤ night ∧ counts x known ∧ x.From ≥ o.From
      · have e : stepV class_ night known o x = x := if_pos h
        rw [e]
        obtain ⟨h1, h2, ⟨h3, h4⟩, h5⟩ := h
        rcases h4 with h4 | h4
        · simp [h1, h2, h3, h4, h5]
        · simp [h1, h2, h3, h4, h5]
      · have e : stepV class_ night known o x = o := if_neg h
        rw [e]
        unfold counts at h
        (repeat' split) <;> first | rfl | (exfalso; apply h; simp_all)) (fun o _ => by unfold m_bylaw_inForce_L1 encV; simp) zeroV trivial
  rw [runL_foldl] at hr
  unfold m_bylaw_inForce
  rw [show (0, 0, 0, 0, 0, 0, 0, 0, 0, 0, 0, 0) = encV 0 zeroV from rfl, hr]
  simp only [Option.bind_some, encV]
  rw [zeroV_iff]
  show (if decide (vF b class_ night known = zeroV) = true then some (vF b class_ night known, (14 : Int)) else some (vF b class_ night known, 0)) = _
  by_cases h : vF b class_ night known = zeroV
  · rw [if_pos (by simpa using h), if_pos h]
  · rw [if_neg (by simpa using h), if_neg h]
theorem VVersion.ne {v : TVersion} (h : VVersion v) : v ≠ zeroV := fun e => by have := h.1.1; rw [e] at this; simp [zeroV] at this
theorem foldl_keep {α σ : Type} (P : σ → Prop) (f : σ → α → σ) (l : List α) (s : σ) (h0 : P s) (h : ∀ x, x ∈ l → ∀ s, P s → P (f s x)) : P (l.foldl f s) := by
  induction l generalizing s with
  | nil => exact h0
  | cons x l ih => exact ih (f s x) (h x (List.mem_cons_self ..) s h0) fun y hy => h y (List.mem_cons_of_mem _ hy)
theorem stepV_cases (c n k : Int) (o v : TVersion) : stepV c n k o v = v ∨ stepV c n k o v = o := by unfold stepV; split <;> simp
theorem vF_cases {b : TBylaw} (hb : VBylaw b) (c n k : Int) : vF b c n k = zeroV ∨ (VVersion (vF b c n k) ∧ vF b c n k ∈ b.Versions) := by
  unfold vF
  refine foldl_keep (fun o => o = zeroV ∨ (VVersion o ∧ o ∈ b.Versions)) _ _ _ (.inl rfl) fun x hx s hs => ?_
  rcases stepV_cases c n k s x with h | h
  · rw [h]; exact .inr ⟨hb.vers x hx, hx⟩
  · rw [h]; exact hs
def encR (k : Nat) (s : Bool × TVersion) : (Bool × Int × Int × Int × Int × Int × Int × Int × Int × Int × Int × Int × Int) := (s.1, encV k s.2)
theorem Counts_eq (v : TVersion) (known : Int) : m_R01_Counts v.Known v.Until known = some (decide (counts v known)) := by
  unfold m_R01_Counts counts
  by_cases h : v.Known ≤ known
  · by_cases hu : v.Until = 0
    · simp [h, hu]
    · simp [h, hu]
  · simp [h]
theorem rinForce_eq {b : TBylaw} (hb : VBylaw b) (class_ night known : Int) : m_R01_inForce b class_ ⟨night, known⟩ = some (vF b class_ night known, decide (vF b class_ night known ≠ zeroV)) := by
  have hl : b.Versions.length ≤ 9223372036854775807 := by have := hb.vlen; omega
  have hr := loop_list (body := m_R01_inForce_L1 b class_ ⟨night, known⟩) (R := Unit) b.Versions hl encR (fun s v => .inl (decide (stepV class_ night known s.2 v ≠ zeroV), stepV class_ night known s.2 v)) (fun _ => encR 0 (false, zeroV)) (fun o => encR b.Versions.length o) (fun _ s => s.1 = decide (s.2 ≠ zeroV) ∧ (s.2 = zeroV ∨ VVersion s.2))
    (fun pre x post s hp hs => by
      have hll : (pre ++ x :: post).length ≤ 9223372036854775807 := by rw [← hp]; exact hl
      have hx : VVersion x := hb.vers x (by rw [hp]; simp)
      obtain ⟨is, o⟩ := s
      obtain ⟨h1, h2⟩ := hs
      simp only at h1 h2
      rw [h1]
      clear h1
      refine ⟨?_, fun s' hs' => ?_⟩
      · unfold m_R01_inForce_L1 encR encV
        rw [hp]
        simp only [lt_pre, decide_true, if_true, idx_pre, Option.bind_some, Wsucc hll, Counts_eq]
        by_cases h : x.Class = class_ ∧ x.From ≤ night ∧ counts x known ∧ x.From ≥ o.From
        · have e : stepV class_ night known o x = x := if_pos h
          rw [e]
          obtain ⟨h1, h2, h3, h4⟩ := h
          by_cases ho : o = zeroV
          · simp [h1, h2, h3, ho, hx.ne]
          · simp [h1, h2, h3, h4, ho, hx.ne]
        · have e : stepV class_ night known o x = o := if_neg h
          rw [e]
          have hz : o = zeroV → x.From ≥ o.From := fun e => by rw [e]; exact hx.2.2.1.1
          (repeat' split) <;> first | rfl | (exfalso; apply h; simp_all)
      · cases hs'
        refine ⟨rfl, ?_⟩
        rcases stepV_cases class_ night known o x with h | h
        · simp only [h]; exact .inr hx
        · simp only [h]; exact h2) (fun o _ => by unfold m_R01_inForce_L1 encR encV; simp) (false, zeroV) ⟨by simp, .inl rfl⟩
  unfold m_R01_inForce
  rw [show (false, (0 : Int), (0 : Int), (0 : Int), (0 : Int), (0 : Int), (0 : Int), (0 : Int), (0 : Int), (0 : Int), (0 : Int), (0 : Int), (0 : Int)) = encR 0 (false, zeroV) from rfl, hr, runL_foldl]
  have key : ∀ (l : List TVersion) (o : TVersion) (is : Bool), is = decide (o ≠ zeroV) → l.foldl (fun (s : Bool × TVersion) v => (decide (stepV class_ night known s.2 v ≠ zeroV), stepV class_ night known s.2 v)) (is, o) = (decide (l.foldl (stepV class_ night known) o ≠ zeroV), l.foldl (stepV class_ night known) o) := by
    intro l
    induction l with
    | nil => intro o is h; rw [h]; rfl
    | cons x l ih => intro o is _; exact ih _ _ rfl
  rw [key _ _ _ (by simp)]
  rfl
noncomputable def askF (b : TBylaw) (lamp night known : Int) : TVersion × Int := match stF b lamp with
  | none => (zeroV, 15)
  | some s => if vF b s.Class night known = zeroV then (zeroV, 14) else (vF b s.Class night known, 0)
noncomputable def kF (b : TBylaw) (lamp : Int) (n : TNight) (night : Int) : TVersion × Int :=
  if VBylaw b then (if VNight n then (if 0 ≤ night ∧ night ≤ 100000 then askF b lamp n.No night else (zeroV, 6)) else (zeroV, 12)) else (zeroV, 13)
theorem known_eq {b : TBylaw} (hb : VBylaw b) (lamp : Int) (n : TNight) (night : Int) : ∃ w, m_bylaw_known b lamp n night = some (w, (askF b lamp n.No night).2) ∧ ((askF b lamp n.No night).2 = 0 → w = ⟨(askF b lamp n.No night).1, n⟩) := by
  have h1 : b.Versions.length ≤ 9223372036854775807 := by have := hb.vlen; omega
  have h2 : b.Streets.length ≤ 9223372036854775807 := by have := hb.slen; omega
  unfold m_bylaw_known
  rw [streetOf_eq b lamp h2]
  unfold askF
  cases hs : stF b lamp with
  | none => exact ⟨_, rfl, fun h => by simp at h⟩
  | some s =>
    simp only [Option.bind_some, bne_self_eq_false, Bool.false_eq_true, if_false, inForce_eq b _ _ _ h1]
    by_cases hz : vF b s.Class n.No night = zeroV
    · exact ⟨_, by rw [if_pos hz, if_pos hz], fun h => by rw [if_pos hz] at h; simp at h⟩
    · exact ⟨_, by rw [if_neg hz, if_neg hz], fun _ => by rw [if_neg hz]⟩
theorem rasked_eq {b : TBylaw} (hb : VBylaw b) (lamp night known : Int) (hn : 0 ≤ night ∧ night ≤ 100000) : m_R01_asked b lamp ⟨night, known⟩ = some (if 0 ≤ known ∧ known ≤ 100000 then askF b lamp night known else (zeroV, 6)) := by
  have h2 : b.Streets.length ≤ 9223372036854775807 := by have := hb.slen; omega
  unfold m_R01_asked
  simp only [IsNight_eq, Option.bind_some, ite_not, hn, and_self, if_true]
  by_cases hk : 0 ≤ known ∧ known ≤ 100000
  · rw [if_pos hk, if_pos hk, street_eq b lamp h2]
    unfold askF
    cases hs : stF b lamp with
    | none => rfl
    | some s =>
      simp only [Option.bind_some, Bool.not_true, Bool.false_eq_true, if_false, rinForce_eq hb]
      by_cases hz : vF b s.Class night known = zeroV
      · rw [if_pos hz]; simp [hz]; rfl
      · rw [if_neg hz]; simp [hz]
  · rw [if_neg hk, if_neg hk]; rfl
theorem rversion_eq (b : TBylaw) (lamp : Int) (n : TNight) (night : Int) (h1 : b.Versions.length ≤ 9223372036854775807) (h2 : b.Streets.length ≤ 9223372036854775807) : m_R01_version b lamp n night = some (kF b lamp n night) := by
  unfold m_R01_version kF
  rw [rCheck_eq b h1 h2]
  by_cases hb : VBylaw b
  · simp only [hb, if_true, Option.bind_some, bne_self_eq_false, Bool.false_eq_true, if_false, rCheckNight_eq]
    by_cases hn : VNight n
    · simp only [hn, if_true, bne_self_eq_false, Bool.false_eq_true, if_false, rasked_eq hb _ _ _ hn.1, Option.bind_some]
    · simp [hn]; rfl
  · simp [hb]; rfl
theorem kF_ok {b : TBylaw} {lamp : Int} {n : TNight} {night : Int} (h : (kF b lamp n night).2 = 0) : VBylaw b ∧ VNight n ∧ (0 ≤ night ∧ night ≤ 100000) ∧ VVersion (kF b lamp n night).1 ∧ kF b lamp n night = askF b lamp n.No night := by
  unfold kF at h ⊢
  by_cases hb : VBylaw b
  · by_cases hn : VNight n
    · by_cases hk : 0 ≤ night ∧ night ≤ 100000
      · simp only [hb, hn, hk, and_self, if_true] at h ⊢
        refine ⟨trivial, trivial, trivial, ?_, trivial⟩
        unfold askF at h ⊢
        cases hs : stF b lamp with
        | none => rw [hs] at h; simp at h
        | some s =>
          rw [hs] at h
          simp only at h ⊢
          by_cases hz : vF b s.Class n.No night = zeroV
          · rw [if_pos hz] at h; simp at h
          · rw [if_neg hz]
            rcases vF_cases hb s.Class n.No night with h | h
            · exact absurd h hz
            · exact h.1
      · simp [hb, hn, hk] at h
    · simp [hb, hn] at h
  · simp [hb] at h
end Go.Proofs.Ytmkkedbfjpkgkaa
namespace Go.Proofs.Ytmkkedbfjpkgkaa
open Go Go.Sx
open Classical
def litF (v : TVersion) (n : TNight) : Int := if n.Fog = 1 ∨ n.Light.Hi < v.Moon then 1 else if n.Fog = 0 ∧ n.Light.Lo ≥ v.Moon then 0 else 2
theorem lit_eq (w : Twindow) : m_bylaw_window_lit w = some (litF w.v w.n) := by
  unfold m_bylaw_window_lit litF
  (repeat' split) <;> simp_all <;> omega
theorem rlit_eq (v : TVersion) (n : TNight) : m_R01_lit v n = some (litF v n) := lit_eq ⟨v, n⟩
def mx (x : Int) : Int := if 0 > x then 0 else x
def mn (x : Int) : Int := if 1439 < x then 1439 else x
def lo1 (v : TVersion) (n : TNight) : Int := n.Set.Hi + v.On.Lo - (if n.Fog = 1 then v.Fog else 0)
def hi1 (v : TVersion) (n : TNight) : Int := n.Set.Lo + v.On.Hi - (if n.Fog = 0 then 0 else v.Fog)
def lo2 (v : TVersion) (n : TNight) : Int := n.Rise.Hi - v.Off.Hi
def hi2 (v : TVersion) (n : TNight) : Int := n.Rise.Lo - v.Off.Lo
def clipF (lo hi : Int) : TRange × Int := if mx lo > mn hi then (⟨0, 0⟩, 16) else (⟨mx lo, mn hi⟩, 0)
theorem rclip_eq (lo hi : Int) : m_R01_clip lo hi = some (clipF lo hi) := by
  unfold m_R01_clip clipF
  show (if decide (mx lo > mn hi) = true then some ((⟨0, 0⟩ : TRange), (16 : Int)) else some (⟨mx lo, mn hi⟩, 0)) = _
  by_cases h : mx lo > mn hi
  · rw [if_pos (by simpa using h), if_pos h]
  · rw [if_neg (by simpa using h), if_neg h]
theorem fog_eq (w : Twindow) (l : List Int) (hl : l.length ≤ 9223372036854775807) : m_bylaw_window_fog w l = some (if w.n.Fog ∈ l then w.v.Fog else 0) := by
  unfold m_bylaw_window_fog
  have hr := loop_list (body := m_bylaw_window_fog_L1 w l) l hl (fun k (_ : Unit) => (k : Int)) (fun s x => if w.n.Fog = x then .inr w.v.Fog else .inl s) (fun x => .inr x) (fun _ => .inl (l.length : Int)) (fun _ _ => True)
    (fun pre x post s hp _ => by
      refine ⟨?_, fun _ _ => trivial⟩
      have hll : (pre ++ x :: post).length ≤ 9223372036854775807 := by rw [← hp]; exact hl
      unfold m_bylaw_window_fog_L1
      rw [hp]
      simp only [lt_pre, decide_true, if_true, idx_pre, Option.bind_some, Wsucc hll]
      by_cases h : w.n.Fog = x
      · simp [h]
      · simp [h]) (fun s _ => by unfold m_bylaw_window_fog_L1; simp) () trivial
  have h0 : ((0 : Nat) : Int) = 0 := rfl
  rw [h0] at hr
  rw [hr]
  have hk : ∀ (l : List Int) (u : Unit), runL (fun (s : Unit) x => if w.n.Fog = x then Sum.inr w.v.Fog else Sum.inl s) l u = if w.n.Fog ∈ l then .inr w.v.Fog else .inl u := by
    intro l u
    induction l with
    | nil => simp [runL]
    | cons x l ih =>
      simp only [runL, List.mem_cons]
      by_cases h : w.n.Fog = x
      · simp [h]
      · simp only [h, if_false, false_or]; exact ih
  rw [hk]
  by_cases h : w.n.Fog ∈ l
  · rw [if_pos h, if_pos h]; rfl
  · rw [if_neg h, if_neg h]; rfl
structure Bd (v : TVersion) (n : TNight) : Prop where
  a1 : 0 ≤ n.Set.Lo ∧ n.Set.Lo ≤ n.Set.Hi ∧ n.Set.Hi ≤ n.Rise.Lo ∧ n.Rise.Lo ≤ n.Rise.Hi ∧ n.Rise.Hi ≤ 1439
  a2 : 0 ≤ v.On.Lo ∧ v.On.Lo ≤ v.On.Hi ∧ v.On.Hi ≤ 600
  a3 : 0 ≤ v.Off.Lo ∧ v.Off.Lo ≤ v.Off.Hi ∧ v.Off.Hi ≤ 600
  a4 : 0 ≤ v.Fog ∧ v.Fog ≤ 600
  a5 : n.Fog = 0 ∨ n.Fog = 1 ∨ n.Fog = 2
  a6 : 0 ≤ n.Light.Lo ∧ n.Light.Lo ≤ n.Light.Hi ∧ n.Light.Hi ≤ 1000
  a7 : 0 ≤ v.Moon ∧ v.Moon ≤ 1001
theorem Bd.of {v : TVersion} {n : TNight} (hv : VVersion v) (hn : VNight n) : Bd v n := by
  obtain ⟨_, h2, h3, h4, h5, h6⟩ := hn
  obtain ⟨_, _, _, k1, k2, k3, k4, _⟩ := hv
  exact ⟨by omega, k1, k2, k4, by omega, h5, k3⟩
theorem on_eq {v : TVersion} {n : TNight} (h : Bd v n) : m_bylaw_window_on ⟨v, n⟩ = some ⟨mx (lo1 v n), mn (hi1 v n)⟩ := by
  unfold m_bylaw_window_on
  rw [fog_eq _ _ (by simp), fog_eq _ _ (by simp)]
  have a1 := h.a1; have a2 := h.a2; have a4 := h.a4
  have e1 : (if n.Fog ∈ ([1] : List Int) then v.Fog else 0) = (if n.Fog = 1 then v.Fog else 0) := by simp
  have e2 : (if n.Fog ∈ ([1, 2] : List Int) then v.Fog else 0) = (if n.Fog = 0 then 0 else v.Fog) := by rcases h.a5 with h | h | h <;> simp [h]
  simp only [e1, e2, Option.bind_some]
  have b1 : 0 ≤ (if n.Fog = 1 then v.Fog else 0) ∧ (if n.Fog = 1 then v.Fog else 0) ≤ 600 := by split <;> omega
  have b2 : 0 ≤ (if n.Fog = 0 then 0 else v.Fog) ∧ (if n.Fog = 0 then 0 else v.Fog) ≤ 600 := by split <;> omega
  rw [W_id (z := n.Set.Hi + v.On.Lo) (by omega), W_id (z := n.Set.Lo + v.On.Hi) (by omega), W_id (by omega), W_id (by omega)]
  rfl
theorem ron_eq {v : TVersion} {n : TNight} (h : Bd v n) : m_R01_on v n = some (clipF (lo1 v n) (hi1 v n)) := by
  unfold m_R01_on lo1 hi1
  have a1 := h.a1; have a2 := h.a2; have a4 := h.a4
  rw [W_id (z := n.Set.Hi + v.On.Lo) (by omega), W_id (z := n.Set.Lo + v.On.Hi) (by omega), W_id (z := n.Set.Hi + v.On.Lo - v.Fog) (by omega), W_id (z := n.Set.Lo + v.On.Hi - v.Fog) (by omega)]
  simp only [rclip_eq]
  rcases h.a5 with h | h | h <;> simp [h]
theorem off_eq {v : TVersion} {n : TNight} (h : Bd v n) : m_bylaw_window_off ⟨v, n⟩ = some ⟨mx (lo2 v n), mn (hi2 v n)⟩ := by
  unfold m_bylaw_window_off
  have a1 := h.a1; have a3 := h.a3
  simp only
  rw [W_id (z := n.Rise.Hi - v.Off.Hi) (by omega), W_id (z := n.Rise.Lo - v.Off.Lo) (by omega)]
  rfl
theorem roff_eq {v : TVersion} {n : TNight} (h : Bd v n) : m_R01_off v n = some (clipF (lo2 v n) (hi2 v n)) := by
  unfold m_R01_off
  have a1 := h.a1; have a3 := h.a3
  rw [W_id (z := n.Rise.Hi - v.Off.Hi) (by omega), W_id (z := n.Rise.Lo - v.Off.Lo) (by omega), rclip_eq]
  rfl
theorem clip_gt {lo hi : Int} : (if decide (mx lo > mn hi) = true then some ((⟨0, 0⟩ : TRange), (16 : Int)) else some (⟨mx lo, mn hi⟩, 0)) = some (clipF lo hi) := by
  unfold clipF
  by_cases h : mx lo > mn hi
  · rw [if_pos (by simpa using h), if_pos h]
  · rw [if_neg (by simpa using h), if_neg h]
theorem minon_eq {v : TVersion} {n : TNight} (h : Bd v n) : m_bylaw_window_minutes__bylaw_window_on ⟨v, n⟩ ⟨v, n⟩ = some (if litF v n = 0 then (⟨0, 0⟩, 18) else clipF (lo1 v n) (hi1 v n)) := by
  unfold m_bylaw_window_minutes__bylaw_window_on
  rw [lit_eq]
  simp only [Option.bind_some, on_eq h, clip_gt]
  by_cases hl : litF v n = 0 <;> simp [hl]
theorem minoff_eq {v : TVersion} {n : TNight} (h : Bd v n) : m_bylaw_window_minutes__bylaw_window_off ⟨v, n⟩ ⟨v, n⟩ = some (if litF v n = 0 then (⟨0, 0⟩, 18) else clipF (lo2 v n) (hi2 v n)) := by
  unfold m_bylaw_window_minutes__bylaw_window_off
  rw [lit_eq]
  simp only [Option.bind_some, off_eq h, clip_gt]
  by_cases hl : litF v n = 0 <;> simp [hl]
theorem clipF_err (lo hi : Int) : (clipF lo hi).2 = 0 ∨ (clipF lo hi).2 = 16 := by unfold clipF; split <;> simp
def noDuty : TDuty := ⟨0, ⟨0, 0⟩, ⟨0, 0⟩⟩
def dutyF (v : TVersion) (n : TNight) : TDuty × Int :=
  if litF v n = 0 then (noDuty, 0) else if (clipF (lo1 v n) (hi1 v n)).2 = 0 ∧ (clipF (lo2 v n) (hi2 v n)).2 = 0 then (⟨litF v n, (clipF (lo1 v n) (hi1 v n)).1, (clipF (lo2 v n) (hi2 v n)).1⟩, 0) else (noDuty, 16)
theorem duty_eq {v : TVersion} {n : TNight} (h : Bd v n) : m_bylaw_window_duty ⟨v, n⟩ = some (dutyF v n) := by
  unfold m_bylaw_window_duty dutyF
  rw [lit_eq, minon_eq h, minoff_eq h]
  simp only [Option.bind_some]
  by_cases hl : litF v n = 0
  · simp [hl]; rfl
  · simp only [hl, beq_iff_eq, if_false]
    rcases clipF_err (lo1 v n) (hi1 v n) with e1 | e1
    · rcases clipF_err (lo2 v n) (hi2 v n) with e2 | e2
      · simp [e1, e2]
      · simp [e1, e2]; rfl
    · simp [e1]; rfl
theorem rduty_eq {v : TVersion} {n : TNight} (h : Bd v n) : m_R01_duty v n = some (dutyF v n) := by
  unfold m_R01_duty dutyF
  rw [rlit_eq, ron_eq h, roff_eq h]
  simp only [Option.bind_some]
  by_cases hl : litF v n = 0
  · simp [hl]; rfl
  · simp only [hl, beq_iff_eq, if_false]
    by_cases e1 : (clipF (lo1 v n) (hi1 v n)).2 = 0
    · by_cases e2 : (clipF (lo2 v n) (hi2 v n)).2 = 0
      · simp [e1, e2]
      · simp [e1, e2]; rfl
    · simp [e1]; rfl
theorem kF_bd {b : TBylaw} {lamp : Int} {n : TNight} {night : Int} (h : (kF b lamp n night).2 = 0) : Bd (kF b lamp n night).1 n := Bd.of (kF_ok h).2.2.2.1 (kF_ok h).2.1
noncomputable def DutyF (b : TBylaw) (lamp : Int) (n : TNight) (night : Int) : TDuty × Int := if (kF b lamp n night).2 = 0 then dutyF (kF b lamp n night).1 n else (noDuty, (kF b lamp n night).2)
theorem rDuty_eq (b : TBylaw) (h1 : b.Versions.length ≤ 9223372036854775807) (h2 : b.Streets.length ≤ 9223372036854775807) (lamp : Int) (n : TNight) (night : Int) : m_R01_Duty b lamp n night = some (DutyF b lamp n night) := by
  unfold m_R01_Duty DutyF
  rw [rversion_eq b lamp n night h1 h2]
  by_cases h : (kF b lamp n night).2 = 0
  · rw [if_pos h]; simp [h, rduty_eq (kF_bd h)]
  · rw [if_neg h]; simp [h]; rfl
theorem dutyOf_eq {b : TBylaw} (hb : VBylaw b) {n : TNight} (hn : VNight n) {night : Int} (hk : 0 ≤ night ∧ night ≤ 100000) (lamp : Int) : m_bylaw_dutyOf b lamp n night = some (DutyF b lamp n night) := by
  unfold m_bylaw_dutyOf DutyF
  have e : kF b lamp n night = askF b lamp n.No night := by unfold kF; rw [if_pos hb, if_pos hn, if_pos hk]
  obtain ⟨w, g1, g2⟩ := known_eq hb lamp n night
  rw [g1]
  by_cases h : (kF b lamp n night).2 = 0
  · have h' := h; rw [e] at h'
    have hd := kF_bd h
    rw [if_pos h, g2 h', h']
    rw [e] at hd ⊢
    simp [duty_eq hd]
  · rw [if_neg h]
    rw [e] at h ⊢
    simp [h]; rfl
end Go.Proofs.Ytmkkedbfjpkgkaa
namespace Go.Proofs.Ytmkkedbfjpkgkaa
open Go Go.Sx
open Classical
@[irreducible] def lampNo : List Int := (List.range 999).map fun k : Nat => (k : Int) + 1
theorem lampNo_len : lampNo.length = 999 := by unfold lampNo; rw [List.length_map, List.length_range]
theorem lampNo_get {pre post : List Int} {x : Int} (h : lampNo = pre ++ x :: post) : x = (pre.length : Int) + 1 ∧ pre.length < 999 := by
  have hx : lampNo[pre.length]? = some x := by rw [h]; simp
  have hl : pre.length < 999 := by have := congrArg List.length h; rw [lampNo_len] at this; simp at this; omega
  unfold lampNo at hx
  rw [List.getElem?_map, List.getElem?_range hl] at hx
  simp only [Option.map_some, Option.some.injEq] at hx
  omega
def isLamp (b : TBylaw) (d lamp : Int) : Bool := match stF b lamp with | some s => decide (d = 0 ∨ s.District = d) | none => false
def lampsL (b : TBylaw) (d : Int) : List Int := lampNo.filter (isLamp b d)
theorem lampsL_len (b : TBylaw) (d : Int) : (lampsL b d).length ≤ 999 := by
  have := List.length_filter_le (isLamp b d) lampNo
  rw [lampNo_len] at this
  exact this
theorem lamps_it (b : TBylaw) (d : Int) (h2 : b.Streets.length ≤ 9223372036854775807) : it_bylaw_lamps_1 b d = some (lampsL b d, ()) := by
  unfold it_bylaw_lamps_1
  have hr := loopI_list (body := it_bylaw_lamps_1_L1 b d) lampNo (by rw [lampNo_len]; omega) (fun k => (k : Int) + 1) (fun x => if isLamp b d x = true then [x] else []) (1000 : Int)
    (fun pre x post hp => by
      obtain ⟨hx, hl⟩ := lampNo_get hp
      subst hx
      unfold it_bylaw_lamps_1_L1 isLamp
      have c : (pre.length : Int) + 1 ≤ 999 := by omega
      have w : W ((pre.length : Int) + 1 + 1) = ((pre.length + 1 : Nat) : Int) + 1 := by rw [W_id (by omega)]; simp
      simp only [c, decide_true, if_true, streetOf_eq b _ h2, Option.bind_some, w]
      cases hs : stF b ((pre.length : Int) + 1) with
      | none => simp
      | some s =>
        by_cases hd : d = 0
        · simp [hd, emit]
        · by_cases hd2 : s.District = d
          · simp [hd, hd2, emit]
          · simp [hd, hd2]) (by rw [lampNo_len]; unfold it_bylaw_lamps_1_L1; simp)
  have h0 : ((0 : Nat) : Int) + 1 = 1 := rfl
  rw [h0] at hr
  rw [hr]
  unfold bindI
  simp only [List.append_nil]
  congr 2
  unfold lampsL
  generalize lampNo = l
  induction l with
  | nil => rfl
  | cons x l ih =>
    simp only [List.flatMap_cons, List.filter_cons, ih]
    by_cases h : isLamp b d x = true <;> simp [h]
theorem rlamps_eq (b : TBylaw) (d : Int) (h2 : b.Streets.length ≤ 9223372036854775807) : m_R01_lamps b d = some (lampsL b d) := by
  unfold m_R01_lamps
  have hr := loop_list (body := m_R01_lamps_L1 b d) (R := Unit) lampNo (by rw [lampNo_len]; omega) (fun k (o : List Int) => (([] : List Int), (k : Int) + 1, o)) (fun o x => .inl (if isLamp b d x = true then o ++ [x] else o)) (fun _ => ([], 0, [])) (fun o => ([], 1000, o)) (fun pre o => o.length ≤ pre.length)
    (fun pre x post o hp ho => by
      obtain ⟨hx, hl⟩ := lampNo_get hp
      subst hx
      refine ⟨?_, fun s' hs' => by cases hs'; split <;> simp <;> omega⟩
      unfold m_R01_lamps_L1 isLamp
      have c : (pre.length : Int) + 1 ≤ 999 := by omega
      have w : W ((pre.length : Int) + 1 + 1) = ((pre.length + 1 : Nat) : Int) + 1 := by rw [W_id (by omega)]; simp
      have g : (o.length + ([(pre.length : Int) + 1] : List Int).length) * 8 ≤ 140737488355328 ∧ o.length + ([(pre.length : Int) + 1] : List Int).length ≤ 9223372036854775807 := by simp; omega
      simp only [c, decide_true, if_true, street_eq b _ h2, Option.bind_some, w, gd_pos g]
      cases hs : stF b ((pre.length : Int) + 1) with
      | none => simp
      | some s =>
        by_cases hd : d = 0
        · simp [hd]
        · by_cases hd2 : s.District = d
          · simp [hd, hd2]
          · simp [hd, hd2]) (fun s _ => by rw [lampNo_len]; unfold m_R01_lamps_L1; simp) [] (by simp)
  have h0 : ((0 : Nat) : Int) + 1 = 1 := rfl
  simp only [h0] at hr
  rw [hr, runL_foldl]
  simp only [Option.bind_some]
  congr 1
  have key : ∀ (l o : List Int), l.foldl (fun o x => if isLamp b d x = true then o ++ [x] else o) o = o ++ l.filter (isLamp b d) := by
    intro l
    induction l with
    | nil => simp
    | cons x l ih =>
      intro o
      simp only [List.foldl_cons, List.filter_cons, ih]
      by_cases h : isLamp b d x = true <;> simp [h]
  rw [key]; rfl
noncomputable def askE (b : TBylaw) (n : TNight) (l : List Int) : Int := if VBylaw b then (if VNight n then (if ∀ x, x ∈ l → 0 ≤ x ∧ x ≤ 100000 then 0 else 6) else 12) else 13
theorem ask_eq (b : TBylaw) (h1 : b.Versions.length ≤ 9223372036854775807) (h2 : b.Streets.length ≤ 9223372036854775807) (n : TNight) (l : List Int) (hl : l.length ≤ 9223372036854775807) : m_bylaw_ask b n l = some (askE b n l) := by
  unfold m_bylaw_ask askE
  rw [Check_eq b h1 h2]
  by_cases hb : VBylaw b
  · by_cases hn : VNight n
    · simp only [hb, hn, if_true, Option.bind_some, bne_self_eq_false, Bool.false_eq_true, if_false, CheckNight_eq]
      have := all_loop (body := m_bylaw_ask_L1 l) (V := fun x => 0 ≤ x ∧ x ≤ 100000) hl (.inr 6) (.inl (l.length : Int)) (fun pre x post hp _ => by
        have hll : (pre ++ x :: post).length ≤ 9223372036854775807 := by rw [← hp]; exact hl
        unfold m_bylaw_ask_L1
        rw [hp]
        simp only [lt_pre, decide_true, if_true, idx_pre, Option.bind_some, Wsucc hll, isNight_eq, ite_not]
        split <;> rfl) (by unfold m_bylaw_ask_L1; simp)
      rw [this]
      by_cases hx : ∀ x, x ∈ l → 0 ≤ x ∧ x ≤ 100000
      · rw [if_pos hx, if_pos hx]; rfl
      · rw [if_neg hx, if_neg hx]; rfl
    · simp [hb, hn, CheckNight_eq]
  · simp [hb]
theorem checked_eq (b : TBylaw) (h1 : b.Versions.length ≤ 9223372036854775807) (h2 : b.Streets.length ≤ 9223372036854775807) (n : TNight) (l : List Int) (hl : l.length ≤ 9223372036854775807) : m_R01_checked b n l = some (askE b n l) := by
  unfold m_R01_checked askE
  rw [rCheck_eq b h1 h2]
  by_cases hb : VBylaw b
  · by_cases hn : VNight n
    · simp only [hb, hn, if_true, Option.bind_some, bne_self_eq_false, Bool.false_eq_true, if_false, rCheckNight_eq]
      have := all_loop (body := m_R01_checked_L1 l) (V := fun x => 0 ≤ x ∧ x ≤ 100000) hl (.inr 6) (.inl (l.length : Int)) (fun pre x post hp _ => by
        have hll : (pre ++ x :: post).length ≤ 9223372036854775807 := by rw [← hp]; exact hl
        unfold m_R01_checked_L1
        rw [hp]
        simp only [lt_pre, decide_true, if_true, idx_pre, Option.bind_some, Wsucc hll, IsNight_eq, ite_not]
        split <;> rfl) (by unfold m_R01_checked_L1; simp)
      rw [this]
      by_cases hx : ∀ x, x ∈ l → 0 ≤ x ∧ x ≤ 100000
      · rw [if_pos hx, if_pos hx]; rfl
      · rw [if_neg hx, if_neg hx]; rfl
    · simp [hb, hn, rCheckNight_eq]
  · simp [hb]
theorem askE_ok {b : TBylaw} {n : TNight} {l : List Int} (h : askE b n l = 0) : VBylaw b ∧ VNight n ∧ ∀ x, x ∈ l → 0 ≤ x ∧ x ≤ 100000 := by
  unfold askE at h
  by_cases hb : VBylaw b
  · by_cases hn : VNight n
    · by_cases hx : ∀ x, x ∈ l → 0 ≤ x ∧ x ≤ 100000
      · exact ⟨hb, hn, hx⟩
      · rw [if_pos hb, if_pos hn, if_neg hx] at h; cases h
    · rw [if_pos hb, if_neg hn] at h; cases h
  · rw [if_neg hb] at h; cases h
theorem told_ne (d e : TDuty) (i j : Int) : (!((d.Lit == e.Lit) && ((d.On.Lo == e.On.Lo) && ((d.On.Hi == e.On.Hi) && ((d.Off.Lo == e.Off.Lo) && ((d.Off.Hi == e.Off.Hi) && (i == j))))))) = decide ((d, i) ≠ (e, j)) := by
  obtain ⟨a, ⟨b, c⟩, ⟨f, g⟩⟩ := d
  obtain ⟨a', ⟨b', c'⟩, ⟨f', g'⟩⟩ := e
  have h : ((a == a') && ((b == b') && ((c == c') && ((f == f') && ((g == g') && (i == j)))))) = decide (((⟨a, ⟨b, c⟩, ⟨f, g⟩⟩ : TDuty), i) = ((⟨a', ⟨b', c'⟩, ⟨f', g'⟩⟩ : TDuty), j)) := by
    rw [Bool.eq_iff_iff]; simp [and_assoc]
  rw [h, decide_not]
theorem duty_ne (d e : TDuty) : (!((d.Lit == e.Lit) && ((d.On.Lo == e.On.Lo) && ((d.On.Hi == e.On.Hi) && ((d.Off.Lo == e.Off.Lo) && (d.Off.Hi == e.Off.Hi)))))) = decide (d ≠ e) := by
  obtain ⟨a, ⟨b, c⟩, ⟨f, g⟩⟩ := d
  obtain ⟨a', ⟨b', c'⟩, ⟨f', g'⟩⟩ := e
  have h : ((a == a') && ((b == b') && ((c == c') && ((f == f') && (g == g'))))) = decide ((⟨a, ⟨b, c⟩, ⟨f, g⟩⟩ : TDuty) = (⟨a', ⟨b', c'⟩, ⟨f', g'⟩⟩ : TDuty)) := by
    rw [Bool.eq_iff_iff]; simp [and_assoc]
  rw [h, decide_not]
noncomputable def diffL (l : List Int) (f g : Int → TDuty × Int) : List Int := l.filter fun x => decide (f x ≠ g x)
theorem diff_fold (l o : List Int) (p : Int → Bool) : l.foldl (fun o x => if p x = true then o ++ [x] else o) o = o ++ l.filter p := by
  induction l generalizing o with
  | nil => simp
  | cons x l ih =>
    simp only [List.foldl_cons, List.filter_cons, ih]
    by_cases h : p x = true <;> simp [h]
theorem range_filter {m : List Int → Int → Option (Sum (List Int) Unit)} {p : Int → Bool} (l : List Int) (h : ∀ x, x ∈ l → ∀ o : List Int, o.length ≤ 1000 → m o x = some (.inl (if p x = true then o ++ [x] else o))) (hl : l.length ≤ 999) : rangeF m l [] = some (.inl (l.filter p)) := by
  have key : ∀ (l o : List Int), (∀ x, x ∈ l → ∀ o : List Int, o.length ≤ 1000 → m o x = some (.inl (if p x = true then o ++ [x] else o))) → o.length + l.length ≤ 1000 → rangeF m l o = some (.inl (o ++ l.filter p)) := by
    intro l
    induction l with
    | nil => intro o _ _; simp [rangeF]
    | cons x l ih =>
      intro o h ho
      simp only [List.length_cons] at ho
      simp only [rangeF, h x (List.mem_cons_self ..) o (by omega)]
      rw [ih _ (fun y hy => h y (List.mem_cons_of_mem _ hy)) (by split <;> (try simp) <;> omega)]
      by_cases hp : p x = true <;> simp [hp]
  have := key l [] h (by simp; omega)
  simpa using this
theorem loop_filter {body : (List Int × Int × List Int) → Option (Sum (List Int × Int × List Int) (List Int × Int × List Int))} {p : Int → Bool} (l : List Int) (hl : l.length ≤ 999)
    (h : ∀ pre x post (o : List Int), l = pre ++ x :: post → o.length ≤ 1000 → body ([], (pre.length : Int), o) = some (.inl ([], ((pre.length + 1 : Nat) : Int), if p x = true then o ++ [x] else o)))
    (he : ∀ o, body ([], (l.length : Int), o) = some (.inr ([], (l.length : Int), o))) : loopF body ([], 0, []) = some ([], (l.length : Int), l.filter p) := by
  have hr := loop_list (body := body) (R := Unit) l (by omega) (fun k (o : List Int) => (([] : List Int), (k : Int), o)) (fun o x => .inl (if p x = true then o ++ [x] else o)) (fun _ => ([], 0, [])) (fun o => ([], (l.length : Int), o)) (fun pre o => o.length ≤ pre.length)
    (fun pre x post o hp ho => by
      have : pre.length ≤ 999 := by have := congrArg List.length hp; simp at this; omega
      exact ⟨h pre x post o hp (by omega), fun s' hs' => by cases hs'; split <;> simp <;> omega⟩) (fun o _ => he o) [] (by simp)
  have h0 : ((0 : Nat) : Int) = 0 := rfl
  simp only [h0] at hr
  rw [hr, runL_foldl, diff_fold]; rfl
theorem tells1_eq {b : TBylaw} (hb : VBylaw b) {n : TNight} (hn : VNight n) {k : Int} (hk : 0 ≤ k ∧ k ≤ 100000) (lamp : Int) : m_bylaw_tells_1 lamp b n k = some ⟨(DutyF b lamp n k).1, (DutyF b lamp n k).2⟩ := by
  unfold m_bylaw_tells_1; rw [dutyOf_eq hb hn hk]; rfl
theorem differ_eq {b c d : TBylaw} (hl : b.Streets.length ≤ 9223372036854775807) (hc : VBylaw c) (hd : VBylaw d) {n : TNight} (hn : VNight n) {k j : Int} (hk : 0 ≤ k ∧ k ≤ 100000) (hj : 0 ≤ j ∧ j ≤ 100000) :
    m_bylaw_differ__bylaw_tells_1__bylaw_tells_1 b c n k d n j = some (diffL (lampsL b 0) (fun x => DutyF c x n k) (fun x => DutyF d x n j)) := by
  unfold m_bylaw_differ__bylaw_tells_1__bylaw_tells_1 m_bylaw_lamps
  simp only [Option.bind_some, lamps_it b 0 hl]
  rw [range_filter (p := fun x => decide (DutyF c x n k ≠ DutyF d x n j)) (lampsL b 0) (fun x _ o ho => by
    unfold m_bylaw_differ__bylaw_tells_1__bylaw_tells_1_L1
    have g : (o.length + ([x] : List Int).length) * 8 ≤ 140737488355328 ∧ o.length + ([x] : List Int).length ≤ 9223372036854775807 := by simp; omega
    simp only [tells1_eq hc hn hk, tells1_eq hd hn hj, Option.bind_some, told_ne, gd_pos g]
    by_cases h : DutyF c x n k = DutyF d x n j
    · simp [h]
    · have h' : ¬ (((DutyF c x n k).1, (DutyF c x n k).2) = ((DutyF d x n j).1, (DutyF d x n j).2)) := h
      simp [h, h']) (lampsL_len b 0)]
  rfl
theorem Changed_eq (b : TBylaw) (h1 : b.Versions.length ≤ 9223372036854775807) (h2 : b.Streets.length ≤ 9223372036854775807) (n : TNight) (k j : Int) : ∃ x, m_bylaw_Changed b n k j = some x ∧ m_R01_Changed b n (k, j) = some x ∧ x.1.length ≤ 999 := by
  unfold m_bylaw_Changed m_R01_Changed m_bylaw_tells
  rw [ask_eq b h1 h2 n _ (by simp), checked_eq b h1 h2 n _ (by simp)]
  by_cases he : askE b n [k, j] = 0
  · obtain ⟨hb, hn, hk⟩ := askE_ok he
    have hk1 := hk k (by simp); have hk2 := hk j (by simp)
    simp only [he, Option.bind_some, bne_self_eq_false, Bool.false_eq_true, if_false, differ_eq h2 hb hb hn hk1 hk2, rlamps_eq b 0 h2]
    have hl := loop_filter (body := m_R01_Changed_L1 b n (k, j) (lampsL b 0)) (p := fun x => decide (DutyF b x n k ≠ DutyF b x n j)) (lampsL b 0) (lampsL_len b 0) (fun pre x post o hp ho => by
      have hll : (pre ++ x :: post).length ≤ 9223372036854775807 := by rw [← hp]; have := lampsL_len b 0; omega
      unfold m_R01_Changed_L1
      rw [hp]
      have g : (o.length + ([x] : List Int).length) * 8 ≤ 140737488355328 ∧ o.length + ([x] : List Int).length ≤ 9223372036854775807 := by simp; omega
      simp only [lt_pre, decide_true, if_true, idx_pre, Option.bind_some, Wsucc hll, rDuty_eq b h1 h2, duty_ne, gd_pos g]
      by_cases e1 : (DutyF b x n k).1 = (DutyF b x n j).1
      · by_cases e2 : (DutyF b x n k).2 = (DutyF b x n j).2
        · have : DutyF b x n k = DutyF b x n j := Prod.ext e1 e2
          simp [this]
        · have : ¬ DutyF b x n k = DutyF b x n j := fun h => e2 (by rw [h])
          simp [e1, e2, this]
      · have : ¬ DutyF b x n k = DutyF b x n j := fun h => e1 (by rw [h])
        simp [e1, this]) (fun o => by unfold m_R01_Changed_L1; simp)
    rw [hl]
    refine ⟨_, rfl, rfl, ?_⟩
    exact Nat.le_trans (List.length_filter_le _ _) (lampsL_len b 0)
  · simp only [Option.bind_some, bne_iff_ne, ne_eq, he, not_false_eq_true, if_true]
    exact ⟨_, rfl, rfl, by simp⟩
theorem Same_self (l : List Int) (h : l.length ≤ 9223372036854775807) : m_R01_Same l l = some true := by
  unfold m_R01_Same
  have := all_loop (body := m_R01_Same_L1 l l) (V := fun _ => True) h (.inr false) (.inl (l.length : Int)) (fun pre x post hp _ => by
    have hll : (pre ++ x :: post).length ≤ 9223372036854775807 := by rw [← hp]; exact h
    unfold m_R01_Same_L1
    rw [hp]
    simp only [lt_pre, decide_true, if_true, idx_pre, Option.bind_some, Wsucc hll, bne_self_eq_false, Bool.false_eq_true, if_false]) (by unfold m_R01_Same_L1; simp)
  rw [this]
  simp
end Go.Proofs.Ytmkkedbfjpkgkaa
namespace Go.Proofs.Ytmkkedbfjpkgkaa
open Go Go.Sx
open Classical
theorem Compare_eq (x y : Int) : m_cmp_Compare_int x y = some (if x < y then -1 else if x > y then 1 else 0) := by
  unfold m_cmp_Compare_int m_cmp_isNaN_int
  simp only [Option.bind_some, bne_self_eq_false, Bool.false_eq_true, if_false]
  by_cases h : x < y
  · simp [h]
  · by_cases h2 : x > y <;> simp [h, h2]
theorem search1_eq (x : TVersion) (n : Int) : m_bylaw_search_api_Version_1__bylaw_sourceOf x n = some (if x.Source < n then -1 else if x.Source > n then 1 else 0) := by
  unfold m_bylaw_search_api_Version_1__bylaw_sourceOf m_bylaw_sourceOf
  simp only [Option.bind_some, Compare_eq]
theorem u64_id {z : Int} (h : 0 ≤ z ∧ z ≤ 18446744073709551615) : IntKind.u64.wrap z = z := by
  simp only [IntKind.wrap, IntKind.signed, IntKind.bits]
  simp
  omega
theorem half (i j : Nat) (h : i + j ≤ 9223372036854775807) : W ((IntKind.u64.wrap (W ((i : Int) + (j : Int)))).fdiv (2 ^ (min (1 : Int).toNat IntKind.u64.bits))) = (((i + j) / 2 : Nat) : Int) := by
  have e : (2 : Int) ^ (min (1 : Int).toNat IntKind.u64.bits) = 2 := by decide
  rw [e, W_id (z := (i : Int) + j) (by omega), u64_id (by omega), Int.fdiv_eq_ediv_of_nonneg _ (by omega)]
  have e2 : ((i : Int) + j) / 2 = (((i + j) / 2 : Nat) : Int) := by simp
  rw [e2, W_id (by omega)]
theorem bs_eq (l : List TVersion) (hl : l.length ≤ 4611686018427387903) (hs : l.Pairwise (fun a c => a.Source < c.Source)) (t : Int) : ∃ i : Nat, m_bylaw_search_api_Version__bylaw_sourceOf l t = some ((i : Int), decide (∃ v, l[i]? = some v ∧ v.Source = t)) ∧ i ≤ l.length ∧ (∀ v, v ∈ l.take i → v.Source < t) ∧ (∀ v, v ∈ l.drop i → t ≤ v.Source) := by
  unfold m_bylaw_search_api_Version__bylaw_sourceOf m_slices_BinarySearchFunc_api_Version_api_Version_int__bylaw_search_api_Version_1_of_bylaw_sourceOf
  have hmono : ∀ (i j : Nat) (hi : i < l.length) (hj : j < l.length), i ≤ j → l[i].Source ≤ l[j].Source := by
    intro i j hi hj hij
    rcases Nat.lt_or_eq_of_le hij with h | h
    · have := List.pairwise_iff_getElem.1 hs i j hi hj h; omega
    · subst h; omega
  obtain ⟨e, h1, i, h2, h3, h4, h5⟩ := loop_rule (body := m_slices_BinarySearchFunc_api_Version_api_Version_int__bylaw_search_api_Version_1_of_bylaw_sourceOf_L1 l t) (fun st : Int × Int => ∃ i j : Nat, st = ((i : Int), (j : Int)) ∧ i ≤ j ∧ j ≤ l.length ∧ (∀ k (hk : k < l.length), k < i → l[k].Source < t) ∧ (∀ k (hk : k < l.length), j ≤ k → t ≤ l[k].Source))
    (fun st => (st.2 - st.1).toNat) (fun st => ∃ i : Nat, st = ((i : Int), (i : Int)) ∧ i ≤ l.length ∧ (∀ k (hk : k < l.length), k < i → l[k].Source < t) ∧ (∀ k (hk : k < l.length), i ≤ k → t ≤ l[k].Source)) (by
    rintro ⟨_, _⟩ ⟨i, j, he, hij, hj, ha, hb⟩
    cases he
    unfold m_slices_BinarySearchFunc_api_Version_api_Version_int__bylaw_search_api_Version_1_of_bylaw_sourceOf_L1
    by_cases hlt : i < j
    · right
      have c : (i : Int) < (j : Int) := by omega
      have hm : (i + j) / 2 < l.length := by omega
      simp only [c, decide_true, if_true, half i j (by omega), idx_n hm, Option.bind_some, search1_eq]
      by_cases hc : l[(i + j) / 2].Source < t
      · refine ⟨((((i + j) / 2 + 1 : Nat) : Int), (j : Int)), ?_, ⟨(i + j) / 2 + 1, j, rfl, by omega, hj, fun k hk hki => ?_, hb⟩, by simp only; omega⟩
        · simp only [hc, if_true, show decide ((-1 : Int) < 0) = true from rfl]
          rw [W_id (z := (((i + j) / 2 : Nat) : Int) + 1) (by omega)]; rfl
        · have := hmono k ((i + j) / 2) hk hm (by omega); omega
      · refine ⟨((i : Int), (((i + j) / 2 : Nat) : Int)), ?_, ⟨i, (i + j) / 2, rfl, by omega, by omega, ha, fun k hk hki => ?_⟩, by simp only; omega⟩
        · have : decide ((if l[(i + j) / 2].Source > t then (1 : Int) else 0) < 0) = false := by split <;> rfl
          simp only [hc, if_false, this, Bool.false_eq_true]
        · have := hmono ((i + j) / 2) k hm hk hki; omega
    · left
      have c : ¬ (i : Int) < (j : Int) := by omega
      obtain rfl : i = j := by omega
      exact ⟨_, by simp only [c, decide_false, Bool.false_eq_true, if_false], i, rfl, hj, ha, hb⟩) (0, (l.length : Int)) ⟨0, l.length, rfl, by omega, by omega, by omega, by omega⟩ (fuel_lt (by simp only; omega))
  subst h2
  rw [h1]
  have g1 : ∀ v, v ∈ l.take i → v.Source < t := fun v hv => by
    obtain ⟨k, hk, rfl⟩ := List.mem_take_iff_getElem.1 hv
    exact h4 k (by omega) (by omega)
  have g2 : ∀ v, v ∈ l.drop i → t ≤ v.Source := fun v hv => by
    obtain ⟨k, hk, rfl⟩ := List.mem_drop_iff_getElem.1 hv
    exact h5 _ _ (by omega)
  refine ⟨i, ?_, h3, g1, g2⟩
  by_cases hi : i < l.length
  · have c : (i : Int) < (l.length : Int) := by omega
    simp only [Option.bind_some, c, decide_true, if_true, idx_n hi, search1_eq]
    have hge := h5 i hi (Nat.le_refl _)
    congr 2
    rw [Bool.eq_iff_iff]
    simp only [beq_iff_eq, decide_eq_true_eq, List.getElem?_eq_getElem hi, Option.some.injEq, exists_eq_left']
    split
    · omega
    · split <;> omega
  · have c : ¬ (i : Int) < (l.length : Int) := by omega
    simp only [Option.bind_some, c, decide_false, Bool.false_eq_true, if_false]
    congr 2
    rw [eq_comm, decide_eq_false_iff_not]
    rintro ⟨v, hv, _⟩
    exact hi (List.getElem?_eq_some_iff.1 hv).1
theorem VBylaw.filter {b : TBylaw} (hb : VBylaw b) (p : TVersion → Bool) : VBylaw ⟨b.Versions.filter p, b.Streets⟩ :=
  ⟨fun v hv => hb.vers v (List.mem_filter.1 hv).1, hb.vsort.filter p, Nat.le_trans (List.length_filter_le _ _) hb.vlen, hb.sts, hb.ssort, hb.slen, hb.apart⟩
theorem rMoved_L1_eq (b : TBylaw) (h1 : b.Versions.length ≤ 1000) (source : Int) : loopF (m_R01_Moved_L1 b source) (0, []) = some ((b.Versions.length : Int), b.Versions.filter fun v => decide (v.Source ≠ source)) := by
  have hl := loop_list (body := m_R01_Moved_L1 b source) (R := Unit) b.Versions (by omega) (fun k (o : List TVersion) => ((k : Int), o)) (fun o x => .inl (if decide (x.Source ≠ source) = true then o ++ [x] else o)) (fun _ => (0, [])) (fun o => ((b.Versions.length : Int), o)) (fun pre o => o.length ≤ pre.length)
    (fun pre x post o hp ho => by
      have hl2 : (pre ++ x :: post).length ≤ 9223372036854775807 := by rw [← hp]; omega
      have hpl : pre.length ≤ 1000 := by have := congrArg List.length hp; simp at this; omega
      have g : (o.length + ([x] : List TVersion).length) * 88 ≤ 140737488355328 ∧ o.length + ([x] : List TVersion).length ≤ 9223372036854775807 := by simp; omega
      refine ⟨?_, fun s' hs' => by cases hs'; split <;> simp <;> omega⟩
      unfold m_R01_Moved_L1
      rw [hp]
      simp only [lt_pre, decide_true, if_true, idx_pre, Option.bind_some, Wsucc hl2, gd_pos g]
      by_cases h : x.Source = source <;> simp [h]) (fun o _ => by unfold m_R01_Moved_L1; simp) [] (by simp)
  have h0 : ((0 : Nat) : Int) = 0 := rfl
  simp only [h0] at hl
  rw [hl, runL_foldl]
  have key : ∀ (l o : List TVersion), l.foldl (fun o x => if decide (x.Source ≠ source) = true then o ++ [x] else o) o = o ++ l.filter fun v => decide (v.Source ≠ source) := by
    intro l
    induction l with
    | nil => simp
    | cons x l ih =>
      intro o
      simp only [List.foldl_cons, List.filter_cons, ih]
      by_cases h : decide (x.Source ≠ source) = true <;> simp [h]
  rw [key]; rfl
theorem Clone_eq {b : TBylaw} (hb : VBylaw b) : m_IN_bylaw_copied b = some (b.Versions, b.Streets) := by
  unfold m_IN_bylaw_copied m_slices_Clone_api_Version_api_Version m_slices_Clone_api_Street_api_Street
  have h1 := hb.vlen
  have h2 := hb.slen
  have g1 : b.Versions.length * 88 ≤ 140737488355328 ∧ b.Versions.length ≤ 9223372036854775807 := by omega
  have g2 : b.Streets.length * 40 ≤ 140737488355328 ∧ b.Streets.length ≤ 9223372036854775807 := by omega
  simp only [gd_pos g1, gd_pos g2, Option.bind_some]
theorem Moved_eq (b : TBylaw) (h1 : b.Versions.length ≤ 9223372036854775807) (h2 : b.Streets.length ≤ 9223372036854775807) (source : Int) (n : TNight) (k : Int) : ∃ x, m_bylaw_Moved b source n k = some x ∧ m_R01_Moved b source n k = some x ∧ x.1.length ≤ 999 := by
  unfold m_bylaw_Moved m_R01_Moved m_bylaw_tells
  rw [ask_eq b h1 h2 n _ (by simp), checked_eq b h1 h2 n _ (by simp)]
  by_cases he : askE b n [k] = 0
  · obtain ⟨hb, hn, hk⟩ := askE_ok he
    have hk1 := hk k (by simp)
    have hvl := hb.vlen
    obtain ⟨i, g1, g2, g3, g4⟩ := bs_eq b.Versions (by omega) hb.vsort source
    simp only [he, Option.bind_some, bne_self_eq_false, Bool.false_eq_true, if_false, g1, rMoved_L1_eq b (by omega) source]
    by_cases hx : ∃ v, b.Versions[i]? = some v ∧ v.Source = source
    · obtain ⟨v, hv, hvs⟩ := hx
      have hi : i < b.Versions.length := (List.getElem?_eq_some_iff.1 hv).1
      have hvi : b.Versions[i] = v := (List.getElem?_eq_some_iff.1 hv).2
      have hdec : decide (∃ v, b.Versions[i]? = some v ∧ v.Source = source) = true := decide_eq_true ⟨v, hv, hvs⟩
      have hsplit : b.Versions = b.Versions.take i ++ v :: b.Versions.drop (i + 1) := by rw [← hvi, ← List.drop_eq_getElem_cons hi, List.take_append_drop]
      have hfil : b.Versions.filter (fun v => decide (v.Source ≠ source)) = b.Versions.take i ++ b.Versions.drop (i + 1) := by
        have f1 : (b.Versions.take i).filter (fun v => decide (v.Source ≠ source)) = b.Versions.take i := List.filter_eq_self.2 fun x hx => by have := g3 x hx; simp; omega
        have f2 : (b.Versions.drop (i + 1)).filter (fun v => decide (v.Source ≠ source)) = b.Versions.drop (i + 1) := List.filter_eq_self.2 fun x hx => by
          obtain ⟨j, hj, rfl⟩ := List.mem_drop_iff_getElem.1 hx
          have := List.pairwise_iff_getElem.1 hb.vsort i (i + 1 + j) hi (by omega) (by omega)
          rw [hvi] at this
          simp; omega
        conv => lhs; rw [hsplit]
        rw [List.filter_append, List.filter_cons, f1, f2]
        simp [hvs]
      have hw : W ((i : Int) + 1) = ((i + 1 : Nat) : Int) := W_s (by omega)
      have ga : (0 < b.Versions.length) ∧ (0 ≤ (i : Int) ∧ (i : Int) ≤ (b.Versions.length : Int)) := by omega
      have gb : (0 < b.Versions.length) ∧ (0 ≤ ((i + 1 : Nat) : Int) ∧ ((i + 1 : Nat) : Int) ≤ (b.Versions.length : Int)) := by omega
      have gc : (((i : Int).toNat - 0) + (b.Versions.length - (((i + 1 : Nat) : Int)).toNat)) * 88 ≤ 140737488355328 ∧ ((i : Int).toNat - 0) + (b.Versions.length - (((i + 1 : Nat) : Int)).toNat) ≤ 9223372036854775807 := by omega
      have s1 : sub b.Versions 0 (i : Int).toNat = b.Versions.take i := by simp [sub]
      have s2 : sub b.Versions (((i + 1 : Nat) : Int)).toNat b.Versions.length = b.Versions.drop (i + 1) := by
        simp only [sub, Int.toNat_natCast]
        rw [List.take_of_length_le (by simp)]
      simp only [hdec, Bool.not_true, Bool.false_eq_true, if_false, Clone_eq hb, Option.bind_some, hw, gd_pos ga, gd_pos gb, gd_pos gc, s1, s2]
      have hne : (((b.Versions.filter (fun v => decide (v.Source ≠ source))).length : Int) == (b.Versions.length : Int)) = false := by
        rw [hfil, beq_eq_false_iff_ne]
        simp only [List.length_append, List.length_take, List.length_drop]
        omega
      have hless := hb.filter (fun v => decide (v.Source ≠ source))
      rw [← hfil, differ_eq h2 hb hless hn hk1 hk1]
      simp only [hne, Bool.false_eq_true, if_false, rlamps_eq b 0 h2, Option.bind_some]
      have hl := loop_filter (body := m_R01_Moved_L2 b n k (b.Versions.filter (fun v => decide (v.Source ≠ source))) (lampsL b 0)) (p := fun x => decide (DutyF b x n k ≠ DutyF ⟨b.Versions.filter (fun v => decide (v.Source ≠ source)), b.Streets⟩ x n k)) (lampsL b 0) (lampsL_len b 0) (fun pre x post o hp ho => by
        have hll : (pre ++ x :: post).length ≤ 9223372036854775807 := by rw [← hp]; have := lampsL_len b 0; omega
        have g : (o.length + ([x] : List Int).length) * 8 ≤ 140737488355328 ∧ o.length + ([x] : List Int).length ≤ 9223372036854775807 := by simp; omega
        have hr2 := rDuty_eq ⟨b.Versions.filter (fun v => decide (v.Source ≠ source)), b.Streets⟩ (by have := hless.vlen; simp only at this ⊢; omega) h2 x n k
        unfold m_R01_Moved_L2
        rw [hp]
        simp only [lt_pre, decide_true, if_true, idx_pre, Option.bind_some, Wsucc hll, rDuty_eq b h1 h2, hr2, duty_ne, gd_pos g]
        generalize DutyF ⟨b.Versions.filter (fun v => decide (v.Source ≠ source)), b.Streets⟩ x n k = d2
        generalize DutyF b x n k = d1
        by_cases e1 : d1.1 = d2.1
        · by_cases e2 : d1.2 = d2.2
          · have : d1 = d2 := Prod.ext e1 e2
            simp [this]
          · have : ¬ d1 = d2 := fun h => e2 (by rw [h])
            simp [e1, e2, this]
        · have : ¬ d1 = d2 := fun h => e1 (by rw [h])
          simp [e1, this]) (fun o => by unfold m_R01_Moved_L2; simp)
      rw [hl]
      refine ⟨_, rfl, rfl, ?_⟩
      exact Nat.le_trans (List.length_filter_le _ _) (lampsL_len b 0)
    · have hdec : decide (∃ v, b.Versions[i]? = some v ∧ v.Source = source) = false := decide_eq_false hx
      have hfil : b.Versions.filter (fun v => decide (v.Source ≠ source)) = b.Versions := List.filter_eq_self.2 fun x hx' => by
        simp only [decide_eq_true_eq]
        intro e
        obtain ⟨j, hj, rfl⟩ := List.mem_iff_getElem.1 hx'
        rcases Nat.lt_trichotomy j i with h | h | h
        · have := g3 b.Versions[j] (List.mem_take_iff_getElem.2 ⟨j, by omega, rfl⟩); omega
        · subst h; exact hx ⟨_, List.getElem?_eq_getElem hj, e⟩
        · have hi : i < b.Versions.length := by omega
          have a1 := g4 b.Versions[i] (List.mem_drop_iff_getElem.2 ⟨0, by omega, rfl⟩)
          have a2 := List.pairwise_iff_getElem.1 hb.vsort i j hi hj h
          omega
      rw [hfil]
      simp only [hdec, Bool.not_false, if_true, beq_self_eq_true]
      exact ⟨_, rfl, rfl, by simp⟩
  · simp only [Option.bind_some, bne_iff_ne, ne_eq, he, not_false_eq_true, if_true]
    exact ⟨_, rfl, rfl, by simp⟩
end Go.Proofs.Ytmkkedbfjpkgkaa
namespace Go.Proofs.Ytmkkedbfjpkgkaa
open Go Go.Sx
set_option maxRecDepth 1000000
theorem pl_sane : m_L01_sane = some true := by decide +kernel
end Go.Proofs.Ytmkkedbfjpkgkaa
namespace Go.Proofs.Ytmkkedbfjpkgkaa
open Go Go.Sx
open Classical
theorem pl_BylawMoves (b : TBylaw) (n : TNight) (a : TAsk) (h0 : TBylaw.G b) (_ : TNight.G n) (_ : TAsk.G a) : m_L01_BylawMoves b n a = some true := by
  have h1 : b.Versions.length ≤ 9223372036854775807 := h0.1.2.1
  have h2 : b.Streets.length ≤ 9223372036854775807 := h0.2.2.1
  obtain ⟨x, hx1, hx2, hx3⟩ := Changed_eq b h1 h2 n a.Known a.Later
  obtain ⟨y, hy1, hy2, hy3⟩ := Moved_eq b h1 h2 a.Source n a.Known
  unfold m_L01_BylawMoves
  rw [hx1, hx2, hy1, hy2]
  simp only [Option.bind_some, beq_self_eq_true, if_true, Same_self x.1 (by omega), Same_self y.1 (by omega), pl_sane]
end Go.Proofs.Ytmkkedbfjpkgkaa
