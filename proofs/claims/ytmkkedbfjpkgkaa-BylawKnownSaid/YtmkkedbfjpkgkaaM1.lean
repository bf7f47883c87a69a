/- What may be read at the types of the statement's parameters; plain facts. -/
import Derived.Test.YtmkkedbfjpkgkaaL1
set_option linter.unusedVariables false
set_option linter.unusedSimpArgs false
namespace Go.Proofs.Ytmkkedbfjpkgkaa
open Go Go.RowKit Go.Sx
def TRange.G (x : TRange) : Prop := InK .i64 x.Lo ∧ InK .i64 x.Hi
theorem op_27 : Opens Try.prog 27 TRange.c TRange.G :=
  (Opens.struct Try.underlying27 (OpensF.cons (s := 1) (Opens.int Try.underlying3) (OpensF.last (s := 1) (Opens.int Try.underlying3) rfl (by kernel_rfl) rfl) rfl (by kernel_rfl)) (by kernel_rfl)).iso (fun x => (⟨x.1, x.2⟩ : TRange)) (fun _ => rfl) (fun _ h => h)
def TVersion.G (x : TVersion) : Prop := InK .i64 x.Source ∧ InK .i64 x.Class ∧ InK .i64 x.From ∧ TRange.G x.On ∧ TRange.G x.Off ∧ InK .i64 x.Moon ∧ InK .i64 x.Fog ∧ InK .i64 x.Known ∧ InK .i64 x.Until
theorem op_82 : Opens Try.prog 82 TVersion.c TVersion.G :=
  (Opens.struct Try.underlying82 (OpensF.cons (s := 1) (Opens.int Try.underlying3) (OpensF.cons (s := 1) (Opens.int Try.underlying3) (OpensF.cons (s := 1) (Opens.int Try.underlying3) (OpensF.cons (s := 2) op_27 (OpensF.cons (s := 2) op_27 (OpensF.cons (s := 1) (Opens.int Try.underlying3) (OpensF.cons (s := 1) (Opens.int Try.underlying3) (OpensF.cons (s := 1) (Opens.int Try.underlying3) (OpensF.last (s := 1) (Opens.int Try.underlying3) rfl (by kernel_rfl) rfl) rfl (by kernel_rfl)) rfl (by kernel_rfl)) rfl (by kernel_rfl)) rfl (by kernel_rfl)) rfl (by kernel_rfl)) rfl (by kernel_rfl)) rfl (by kernel_rfl)) rfl (by kernel_rfl)) (by kernel_rfl)).iso (fun x => (⟨x.1, x.2.1, x.2.2.1, x.2.2.2.1, x.2.2.2.2.1, x.2.2.2.2.2.1, x.2.2.2.2.2.2.1, x.2.2.2.2.2.2.2.1, x.2.2.2.2.2.2.2.2⟩ : TVersion)) (fun _ => rfl) (fun _ h => h)
theorem op_22 : Opens Try.prog 22 (fun l : (List TVersion) => [.lst 11 l.length (l.flatMap TVersion.c)]) (fun l => (l.length * 88 ≤ reachBytes ∧ l.length ≤ maxLen ∧ ∀ y : TVersion, y ∈ l → TVersion.G y)) :=
  Opens.slice Try.underlying22 op_82 (by kernel_rfl) (by kernel_rfl) (fun _ => rfl) (fun _ => rfl) (by decide)
def TStreet.G (x : TStreet) : Prop := InK .i64 x.Id ∧ InK .i64 x.Class ∧ InK .i64 x.District ∧ InK .i64 x.First ∧ InK .i64 x.Many
theorem op_84 : Opens Try.prog 84 TStreet.c TStreet.G :=
  (Opens.struct Try.underlying84 (OpensF.cons (s := 1) (Opens.int Try.underlying3) (OpensF.cons (s := 1) (Opens.int Try.underlying3) (OpensF.cons (s := 1) (Opens.int Try.underlying3) (OpensF.cons (s := 1) (Opens.int Try.underlying3) (OpensF.last (s := 1) (Opens.int Try.underlying3) rfl (by kernel_rfl) rfl) rfl (by kernel_rfl)) rfl (by kernel_rfl)) rfl (by kernel_rfl)) rfl (by kernel_rfl)) (by kernel_rfl)).iso (fun x => (⟨x.1, x.2.1, x.2.2.1, x.2.2.2.1, x.2.2.2.2⟩ : TStreet)) (fun _ => rfl) (fun _ h => h)
theorem op_23 : Opens Try.prog 23 (fun l : (List TStreet) => [.lst 5 l.length (l.flatMap TStreet.c)]) (fun l => (l.length * 40 ≤ reachBytes ∧ l.length ≤ maxLen ∧ ∀ y : TStreet, y ∈ l → TStreet.G y)) :=
  Opens.slice Try.underlying23 op_84 (by kernel_rfl) (by kernel_rfl) (fun _ => rfl) (fun _ => rfl) (by decide)
def TBylaw.G (x : TBylaw) : Prop := (x.Versions.length * 88 ≤ reachBytes ∧ x.Versions.length ≤ maxLen ∧ ∀ y : TVersion, y ∈ x.Versions → TVersion.G y) ∧ (x.Streets.length * 40 ≤ reachBytes ∧ x.Streets.length ≤ maxLen ∧ ∀ y : TStreet, y ∈ x.Streets → TStreet.G y)
theorem op_25 : Opens Try.prog 25 TBylaw.c TBylaw.G :=
  (Opens.struct Try.underlying25 (OpensF.cons (s := 1) op_22 (OpensF.last (s := 1) op_23 rfl (by kernel_rfl) rfl) rfl (by kernel_rfl)) (by kernel_rfl)).iso (fun x => (⟨x.1, x.2⟩ : TBylaw)) (fun _ => rfl) (fun _ h => h)
def TNight.G (x : TNight) : Prop := InK .i64 x.No ∧ TRange.G x.Set ∧ TRange.G x.Rise ∧ TRange.G x.Light ∧ InK .i64 x.Fog
theorem op_29 : Opens Try.prog 29 TNight.c TNight.G :=
  (Opens.struct Try.underlying29 (OpensF.cons (s := 1) (Opens.int Try.underlying3) (OpensF.cons (s := 2) op_27 (OpensF.cons (s := 2) op_27 (OpensF.cons (s := 2) op_27 (OpensF.last (s := 1) (Opens.int Try.underlying3) rfl (by kernel_rfl) rfl) rfl (by kernel_rfl)) rfl (by kernel_rfl)) rfl (by kernel_rfl)) rfl (by kernel_rfl)) (by kernel_rfl)).iso (fun x => (⟨x.1, x.2.1, x.2.2.1, x.2.2.2.1, x.2.2.2.2⟩ : TNight)) (fun _ => rfl) (fun _ h => h)
def TAsk.G (x : TAsk) : Prop := InK .i64 x.Lamp ∧ InK .i64 x.Class ∧ InK .i64 x.District ∧ InK .i64 x.Source ∧ InK .i64 x.Known ∧ InK .i64 x.Later
theorem op_47 : Opens Try.prog 47 TAsk.c TAsk.G :=
  (Opens.struct Try.underlying47 (OpensF.cons (s := 1) (Opens.int Try.underlying3) (OpensF.cons (s := 1) (Opens.int Try.underlying3) (OpensF.cons (s := 1) (Opens.int Try.underlying3) (OpensF.cons (s := 1) (Opens.int Try.underlying3) (OpensF.cons (s := 1) (Opens.int Try.underlying3) (OpensF.last (s := 1) (Opens.int Try.underlying3) rfl (by kernel_rfl) rfl) rfl (by kernel_rfl)) rfl (by kernel_rfl)) rfl (by kernel_rfl)) rfl (by kernel_rfl)) rfl (by kernel_rfl)) (by kernel_rfl)).iso (fun x => (⟨x.1, x.2.1, x.2.2.1, x.2.2.2.1, x.2.2.2.2.1, x.2.2.2.2.2⟩ : TAsk)) (fun _ => rfl) (fun _ h => h)
end Go.Proofs.Ytmkkedbfjpkgkaa
namespace Go.Proofs.Ytmkkedbfjpkgkaa
open Go Go.Sx
theorem W_id {z : Int} (h : -9223372036854775808 ≤ z ∧ z ≤ 9223372036854775807) : W z = z := wrap_id h
theorem W_s {k : Nat} (h : k < 9223372036854775807) : W ((k : Int) + 1) = ((k + 1 : Nat) : Int) := wrap_s h
def runL {α σ R : Type} (f : σ → α → Sum σ R) : List α → σ → Sum σ R
  | [], s => .inl s
  | x :: l, s => match f s x with | .inl s' => runL f l s' | .inr r => .inr r
theorem runL_foldl {α σ R : Type} (f : σ → α → σ) (l : List α) (s : σ) : runL (R := R) (fun s x => .inl (f s x)) l s = .inl (l.foldl f s) := by
  induction l generalizing s with
  | nil => rfl
  | cons x l ih => exact ih (f s x)
theorem loop_list {α σ S E R : Type} {body : S → Option (Sum S E)} (l : List α) (hl : l.length ≤ 9223372036854775807) (enc : Nat → σ → S) (f : σ → α → Sum σ R) (out : R → E) (fin : σ → E) (P : List α → σ → Prop)
    (h : ∀ pre x post s, l = pre ++ x :: post → P pre s → body (enc pre.length s) = some (match f s x with | .inl s' => .inl (enc (pre.length + 1) s') | .inr r => .inr (out r)) ∧ ∀ s', f s x = .inl s' → P (pre ++ [x]) s')
    (he : ∀ s, P l s → body (enc l.length s) = some (.inr (fin s))) (s0 : σ) (h0 : P [] s0) :
    loopF body (enc 0 s0) = some (match runL f l s0 with | .inl s => fin s | .inr r => out r) := by
  have key : ∀ (post pre : List α) (s : σ) (n : Nat), l = pre ++ post → P pre s → post.length < n → loopO body n (enc pre.length s) = some (match runL f post s with | .inl s => fin s | .inr r => out r) := by
    intro post
    induction post with
    | nil =>
      intro pre s n hp hs hn
      cases n with
      | zero => omega
      | succ n =>
        simp only [List.append_nil] at hp
        subst hp
        simp only [loopO, he s hs, runL]
    | cons x post ih =>
      intro pre s n hp hs hn
      cases n with
      | zero => omega
      | succ n =>
        obtain ⟨h1, h2⟩ := h pre x post s hp hs
        simp only [loopO, h1, runL]
        cases hf : f s x with
        | inl s' =>
          have := ih (pre ++ [x]) s' n (by simp [hp]) (h2 s' hf) (by simp at hn; omega)
          simpa using this
        | inr r => rfl
  exact key l [] s0 FUEL rfl h0 (by unfold FUEL; omega)
theorem idx_pre {α : Type} {pre post : List α} {x : α} : idx (pre ++ x :: post) (pre.length : Int) = some x := by
  unfold idx; simp
theorem lt_pre {α : Type} {pre post : List α} {x : α} : ((pre.length : Int) < ((pre ++ x :: post).length : Int)) := by simp; omega
end Go.Proofs.Ytmkkedbfjpkgkaa
namespace Go.Proofs.Ytmkkedbfjpkgkaa
open Go Go.Sx
theorem in_eq (n lo hi : Int) : m_bylaw_in n lo hi = some (decide (lo ≤ n ∧ n ≤ hi)) := by
  unfold m_bylaw_in; by_cases h : lo ≤ n <;> simp [h]
theorem Within_eq (n lo hi : Int) : m_R01_Within n lo hi = some (decide (lo ≤ n ∧ n ≤ hi)) := in_eq n lo hi
theorem isNight_eq (n : Int) : m_bylaw_isNight n = some (decide (0 ≤ n ∧ n ≤ 100000)) := by unfold m_bylaw_isNight; rw [in_eq]; rfl
theorem IsNight_eq (n : Int) : m_R01_IsNight n = some (decide (0 ≤ n ∧ n ≤ 100000)) := by unfold m_R01_IsNight; rw [Within_eq]; rfl
theorem isRange_eq (r : TRange) (hi : Int) : m_bylaw_isRange r hi = some (decide (0 ≤ r.Lo ∧ r.Lo ≤ r.Hi ∧ r.Hi ≤ hi)) := by
  unfold m_bylaw_isRange; by_cases h : 0 ≤ r.Lo <;> by_cases h1 : r.Lo ≤ r.Hi <;> simp [h, h1]
theorem IsRange_eq (r : TRange) (lo hi : Int) : m_R01_IsRange r lo hi = some (decide (lo ≤ r.Lo ∧ r.Lo ≤ r.Hi ∧ r.Hi ≤ hi)) := by
  unfold m_R01_IsRange; by_cases h : lo ≤ r.Lo <;> by_cases h1 : r.Lo ≤ r.Hi <;> simp [h, h1]
theorem ite_not {α : Type} {p : Prop} [Decidable p] {a b : α} : (if (!decide p) = true then a else b) = if p then b else a := by by_cases h : p <;> simp [h]
theorem ite_and {α : Type} {p q : Prop} [Decidable p] [Decidable q] {a b : α} : (if p then (if q then a else b) else b) = if p ∧ q then a else b := by by_cases h : p <;> by_cases k : q <;> simp [h, k]
def VNight (n : TNight) : Prop := (0 ≤ n.No ∧ n.No ≤ 100000) ∧ (0 ≤ n.Set.Lo ∧ n.Set.Lo ≤ n.Set.Hi ∧ n.Set.Hi ≤ 1439) ∧ (0 ≤ n.Rise.Lo ∧ n.Rise.Lo ≤ n.Rise.Hi ∧ n.Rise.Hi ≤ 1439) ∧ n.Set.Hi ≤ n.Rise.Lo ∧ (0 ≤ n.Light.Lo ∧ n.Light.Lo ≤ n.Light.Hi ∧ n.Light.Hi ≤ 1000) ∧ (0 ≤ n.Fog ∧ n.Fog ≤ 2)
instance (n : TNight) : Decidable (VNight n) := by unfold VNight; exact inferInstance
theorem ite_gt {α : Type} {x y : Int} {a b : α} : (if decide (x > y) = true then a else b) = if x ≤ y then b else a := by by_cases h : x ≤ y <;> simp [h] <;> omega
theorem CheckNight_eq (n : TNight) : m_bylaw_CheckNight n = some (if VNight n then 0 else 12) := by
  unfold m_bylaw_CheckNight
  simp only [isNight_eq, isRange_eq, in_eq, Option.bind_some, ite_not, ite_gt, ite_and]
  by_cases hv : VNight n
  · rw [if_pos hv]; exact if_pos hv
  · rw [if_neg hv]; exact if_neg hv
theorem rCheckNight_eq (n : TNight) : m_R01_CheckNight n = some (if VNight n then 0 else 12) := by
  unfold m_R01_CheckNight
  simp only [IsNight_eq, IsRange_eq, Within_eq, Option.bind_some, ite_not, ite_gt, ite_and]
  by_cases hv : VNight n
  · rw [if_pos hv]; exact if_pos hv
  · rw [if_neg hv]; exact if_neg hv
def VVersion (v : TVersion) : Prop := (1 ≤ v.Source ∧ v.Source ≤ 99999) ∧ (1 ≤ v.Class ∧ v.Class ≤ 9) ∧ (0 ≤ v.From ∧ v.From ≤ 100000) ∧ (0 ≤ v.On.Lo ∧ v.On.Lo ≤ v.On.Hi ∧ v.On.Hi ≤ 600) ∧ (0 ≤ v.Off.Lo ∧ v.Off.Lo ≤ v.Off.Hi ∧ v.Off.Hi ≤ 600) ∧
  (0 ≤ v.Moon ∧ v.Moon ≤ 1001) ∧ (0 ≤ v.Fog ∧ v.Fog ≤ 600) ∧ (0 ≤ v.Known ∧ v.Known ≤ 100000) ∧ (v.Until = 0 ∨ (v.Known < v.Until ∧ v.Until ≤ 100000))
instance (v : TVersion) : Decidable (VVersion v) := by unfold VVersion; exact inferInstance
theorem CheckVersion_eq (v : TVersion) : m_bylaw_CheckVersion v = some (if VVersion v then 0 else 10) := by
  unfold m_bylaw_CheckVersion
  simp only [isNight_eq, isRange_eq, in_eq, Option.bind_some, ite_not]
  by_cases hk : 0 ≤ v.Known ∧ v.Known ≤ 100000
  · rw [W_id (by omega)]
    have e : ∀ {a b : Option Int}, (if (v.Until != 0) = true then (if v.Known + 1 ≤ v.Until ∧ v.Until ≤ 100000 then a else b) else a) = if (v.Until = 0 ∨ (v.Known < v.Until ∧ v.Until ≤ 100000)) then a else b := by
      intro a b
      by_cases h : v.Until = 0
      · simp [h]
      · simp only [bne_iff_ne, ne_eq, h, not_false_eq_true, if_true, false_or, Int.add_one_le_iff]
    simp only [e, ite_and]
    by_cases hv : VVersion v
    · rw [if_pos hv]; exact if_pos hv
    · rw [if_neg hv]; exact if_neg hv
  · have : ¬ VVersion v := fun h => hk h.2.2.2.2.2.2.2.1
    simp only [hk, this, if_false, ite_self]
theorem Lasts_eq (k u : Int) : m_R01_Lasts k u = some (decide ((0 ≤ k ∧ k ≤ 100000) ∧ (u = 0 ∨ (k < u ∧ u ≤ 100000)))) := by
  unfold m_R01_Lasts
  simp only [IsNight_eq, Option.bind_some]
  by_cases hk : 0 ≤ k ∧ k ≤ 100000
  · by_cases hu : u = 0
    · simp [hk, hu]
    · by_cases hl : k < u
      · have : 0 ≤ u := by omega
        simp [hk, hu, hl, this]
      · simp [hk, hu, hl]
  · simp only [hk, false_and, decide_false, Bool.false_eq_true, if_false]
theorem rCheckVersion_eq (v : TVersion) : m_R01_CheckVersion v = some (if VVersion v then 0 else 10) := by
  unfold m_R01_CheckVersion
  simp only [IsNight_eq, IsRange_eq, Within_eq, Lasts_eq, Option.bind_some, ite_not, ite_and]
  by_cases hv : VVersion v
  · rw [if_pos hv]; exact if_pos hv
  · rw [if_neg hv]; exact if_neg hv
def VStreet (s : TStreet) : Prop := (1 ≤ s.Id ∧ s.Id ≤ 99) ∧ (1 ≤ s.Class ∧ s.Class ≤ 9) ∧ (1 ≤ s.District ∧ s.District ≤ 9) ∧ (1 ≤ s.First ∧ s.First ≤ 999) ∧ (1 ≤ s.Many ∧ s.Many ≤ 200) ∧ s.First + s.Many - 1 ≤ 999
instance (s : TStreet) : Decidable (VStreet s) := by unfold VStreet; exact inferInstance
theorem CheckStreet_eq (s : TStreet) : m_bylaw_CheckStreet s = some (if VStreet s then 0 else 11) := by
  unfold m_bylaw_CheckStreet
  simp only [in_eq, Option.bind_some, ite_not]
  by_cases h : (1 ≤ s.First ∧ s.First ≤ 999) ∧ (1 ≤ s.Many ∧ s.Many ≤ 200)
  · rw [W_id (z := s.First + s.Many) (by omega), W_id (by omega)]
    simp only [ite_gt, ite_and]
    by_cases hv : VStreet s
    · rw [if_pos hv]; exact if_pos hv
    · rw [if_neg hv]; exact if_neg hv
  · have : ¬ VStreet s := fun k => h ⟨k.2.2.2.1, k.2.2.2.2.1⟩
    simp only [this, if_false]
    by_cases h1 : 1 ≤ s.First ∧ s.First ≤ 999
    · have h2 : ¬ (1 ≤ s.Many ∧ s.Many ≤ 200) := fun k => h ⟨h1, k⟩
      simp only [h1, h2, if_false, ite_self]
    · simp only [h1, if_false, ite_self]
theorem rCheckStreet_eq (s : TStreet) : m_R01_CheckStreet s = some (if VStreet s then 0 else 11) := by
  rw [← CheckStreet_eq]; rfl
def hasB (s : TStreet) (lamp : Int) : Bool := decide (s.First ≤ lamp ∧ lamp ≤ W (W (s.First + s.Many) - 1))
theorem has_eq (s : TStreet) (lamp : Int) : m_bylaw_has s lamp = some (hasB s lamp) := by unfold m_bylaw_has; rw [in_eq]; rfl
theorem VStreet.has {s : TStreet} (h : VStreet s) (lamp : Int) : hasB s lamp = decide (s.First ≤ lamp ∧ lamp < s.First + s.Many) := by
  obtain ⟨_, _, _, h1, h2, h3⟩ := h
  unfold hasB
  rw [W_id (z := s.First + s.Many) (by omega), W_id (by omega)]
  congr 2
  exact propext ⟨fun h => by omega, fun h => by omega⟩
end Go.Proofs.Ytmkkedbfjpkgkaa
namespace Go.Proofs.Ytmkkedbfjpkgkaa
open Go Go.Sx
open Classical
noncomputable def stepIf {α σ R : Type} (ok : σ → α → Prop) (nx : σ → α → σ) (c : R) (s : σ) (x : α) : Sum σ R := if ok s x then .inl (nx s x) else .inr c
theorem stepIf_pos {α σ R : Type} {ok : σ → α → Prop} {nx : σ → α → σ} {c : R} {s : σ} {x : α} (h : ok s x) : stepIf ok nx c s x = .inl (nx s x) := if_pos h
theorem stepIf_neg {α σ R : Type} {ok : σ → α → Prop} {nx : σ → α → σ} {c : R} {s : σ} {x : α} (h : ¬ ok s x) : stepIf ok nx c s x = .inr c := if_neg h
theorem runL_if {α σ R : Type} (ok : σ → α → Prop) (nx : σ → α → σ) (c : R) (l : List α) (s : σ) (Q : List α → σ → Prop) (h0 : ∀ s, Q [] s) (h : ∀ x l s, Q (x :: l) s ↔ ok s x ∧ Q l (nx s x)) :
    runL (stepIf ok nx c) l s = if Q l s then .inl (l.foldl nx s) else .inr c := by
  induction l generalizing s with
  | nil => rw [if_pos (h0 s)]; rfl
  | cons x l ih =>
    simp only [runL]
    by_cases hk : ok s x
    · rw [stepIf_pos hk]
      simp only
      rw [ih]
      by_cases hq : Q l (nx s x)
      · rw [if_pos hq, if_pos ((h x l s).2 ⟨hk, hq⟩)]; rfl
      · rw [if_neg hq, if_neg (fun hh => hq ((h x l s).1 hh).2)]
    · rw [stepIf_neg hk, if_neg (fun hh => hk ((h x l s).1 hh).1)]
def chain {α : Type} (V : α → Prop) (num : α → Int) : List α → Option Int → Prop
  | [], _ => True
  | x :: l, p => (V x ∧ ∀ q, p = some q → q < num x) ∧ chain V num l (some (num x))
theorem chain_iff {α : Type} (V : α → Prop) (num : α → Int) (l : List α) (p : Option Int) : chain V num l p ↔ (∀ x, x ∈ l → V x) ∧ l.Pairwise (fun a b => num a < num b) ∧ ∀ q, p = some q → ∀ x, x ∈ l → q < num x := by
  induction l generalizing p with
  | nil => simp [chain]
  | cons x l ih =>
    simp only [chain, ih, List.mem_cons, List.pairwise_cons, forall_eq_or_imp, Option.some.injEq, forall_eq']
    constructor
    · rintro ⟨⟨h1, h2⟩, h3, h4, h5⟩
      exact ⟨⟨h1, h3⟩, ⟨h5, h4⟩, fun q hq => ⟨h2 q hq, fun y hy => by have := h2 q hq; have := h5 y hy; omega⟩⟩
    · rintro ⟨⟨h1, h3⟩, ⟨h5, h4⟩, h2⟩
      exact ⟨⟨h1, fun q hq => (h2 q hq).1⟩, h3, h4, h5⟩
def numOf {α : Type} (num : α → Int) : List α → Option Int := fun pre => pre.getLast?.map num
theorem chain_loop {α E : Type} {body : Int → Option (Sum Int E)} {V : α → Prop} {num : α → Int} {l : List α} (hl : l.length ≤ 9223372036854775807) (c : E) (fin : E)
    (h : ∀ pre x post, l = pre ++ x :: post → body (pre.length : Int) = some (if V x ∧ ∀ q, numOf num pre = some q → q < num x then .inl ((pre.length + 1 : Nat) : Int) else .inr c))
    (he : body (l.length : Int) = some (.inr fin)) : loopF body 0 = some (if (∀ x, x ∈ l → V x) ∧ l.Pairwise (fun a b => num a < num b) then fin else c) := by
  have hr := loop_list (body := body) (R := E) l hl (fun k (_ : Option Int) => (k : Int)) (stepIf (fun s x => V x ∧ ∀ q, s = some q → q < num x) (fun _ x => some (num x)) c) id (fun _ => fin) (fun pre s => s = numOf num pre)
    (fun pre x post s hp hs => by
      subst hs
      rw [h pre x post hp]
      by_cases hk : V x ∧ ∀ q, numOf num pre = some q → q < num x
      · have e := stepIf_pos (ok := fun s x => V x ∧ ∀ q, s = some q → q < num x) (nx := fun _ x => some (num x)) (c := c) hk
        rw [if_pos hk, e]
        exact ⟨rfl, fun s' hs' => by cases hs'; simp [numOf]⟩
      · have e := stepIf_neg (ok := fun s x => V x ∧ ∀ q, s = some q → q < num x) (nx := fun _ x => some (num x)) (c := c) hk
        rw [if_neg hk, e]
        exact ⟨rfl, fun s' hs' => by cases hs'⟩) (fun s _ => he) none rfl
  have h0 : ((0 : Nat) : Int) = 0 := rfl
  rw [h0] at hr
  rw [hr, runL_if (fun s x => V x ∧ ∀ q, s = some q → q < num x) (fun _ x => some (num x)) c l none (fun l s => chain V num l s) (fun _ => trivial) (fun _ _ _ => Iff.rfl)]
  have hc := chain_iff V num l none
  by_cases hq : chain V num l none
  · rw [if_pos hq, if_pos ⟨(hc.1 hq).1, (hc.1 hq).2.1⟩]
  · rw [if_neg hq, if_neg (fun hh => hq (hc.2 ⟨hh.1, hh.2, by simp⟩))]; rfl
theorem ahead {α : Type} {num : α → Int} {pre post : List α} {x : α} (hl : (pre ++ x :: post).length ≤ 9223372036854775807) :
    (pre = [] ∧ numOf num pre = none ∧ decide ((pre.length : Int) > 0) = false) ∨ ∃ y, decide ((pre.length : Int) > 0) = true ∧ idx (pre ++ x :: post) (W ((pre.length : Int) - 1)) = some y ∧ numOf num pre = some (num y) := by
  rcases List.eq_nil_or_concat pre with rfl | ⟨r, y, rfl⟩
  · left; exact ⟨rfl, rfl, by simp⟩
  · right
    simp at hl
    refine ⟨y, by simp, ?_, by simp [numOf]⟩
    have : W (((r.concat y).length : Int) - 1) = (r.length : Int) := by
      rw [W_id (by simp; omega)]; simp
    rw [this]
    unfold idx
    simp
theorem gd_pos {α : Type} {p : Prop} [Decidable p] {k : Option α} (h : p) : gd p k = k := by unfold gd; rw [if_pos h]
theorem Wsucc {α : Type} {pre post : List α} {x : α} (hl : (pre ++ x :: post).length ≤ 9223372036854775807) : W ((pre.length : Int) + 1) = ((pre.length + 1 : Nat) : Int) := W_s (by simp at hl; omega)
theorem areVersions_eq (l : List TVersion) (most : Int) (hl : l.length ≤ 9223372036854775807) : m_bylaw_areAll_api_Version__bylaw_CheckVersion__bylaw_sourceOf l most = some (decide (((∀ x, x ∈ l → VVersion x) ∧ l.Pairwise (fun a b => a.Source < b.Source)) ∧ (l.length : Int) ≤ most)) := by
  unfold m_bylaw_areAll_api_Version__bylaw_CheckVersion__bylaw_sourceOf
  rw [chain_loop (V := VVersion) (num := TVersion.Source) (l := l) hl (.inr false) (.inl (l.length : Int)) ?_ ?_]
  · by_cases h : (∀ x, x ∈ l → VVersion x) ∧ l.Pairwise (fun a b => a.Source < b.Source)
    · rw [if_pos h]
      simp only [Option.bind_some]
      congr 1
      exact decide_eq_decide.2 ⟨fun k => ⟨h, k⟩, fun k => k.2⟩
    · rw [if_neg h]
      simp only [Option.bind_some]
      congr 1
      exact (decide_eq_false fun k => h k.1).symm
  · rintro pre x post rfl
    unfold m_bylaw_areAll_api_Version__bylaw_CheckVersion__bylaw_sourceOf_L1
    simp only [lt_pre, decide_true, if_true, idx_pre, Option.bind_some, CheckVersion_eq, m_bylaw_sourceOf]
    by_cases hv : VVersion x
    · rcases ahead (num := TVersion.Source) hl with ⟨h1, h2, h3⟩ | ⟨y, h1, h2, h3⟩
      · simp only [hv, if_true, h2, h3, Wsucc hl, bne_self_eq_false, Bool.false_eq_true, if_false]; simp
      · simp only [hv, if_true, h1, h2, h3, Option.bind_some, Wsucc hl, true_and, Option.some.injEq, forall_eq']
        by_cases hq : y.Source < x.Source
        · have : ¬ y.Source ≥ x.Source := by omega
          simp [hq, this]
        · have : y.Source ≥ x.Source := by omega
          simp [hq, this]
    · simp [hv]
  · unfold m_bylaw_areAll_api_Version__bylaw_CheckVersion__bylaw_sourceOf_L1
    simp
theorem areStreets_eq (l : List TStreet) (most : Int) (hl : l.length ≤ 9223372036854775807) : m_bylaw_areAll_api_Street__bylaw_CheckStreet__bylaw_idOf l most = some (decide (((∀ x, x ∈ l → VStreet x) ∧ l.Pairwise (fun a b => a.Id < b.Id)) ∧ (l.length : Int) ≤ most)) := by
  unfold m_bylaw_areAll_api_Street__bylaw_CheckStreet__bylaw_idOf
  rw [chain_loop (V := VStreet) (num := TStreet.Id) (l := l) hl (.inr false) (.inl (l.length : Int)) ?_ ?_]
  · by_cases h : (∀ x, x ∈ l → VStreet x) ∧ l.Pairwise (fun a b => a.Id < b.Id)
    · rw [if_pos h]
      simp only [Option.bind_some]
      congr 1
      exact decide_eq_decide.2 ⟨fun k => ⟨h, k⟩, fun k => k.2⟩
    · rw [if_neg h]
      simp only [Option.bind_some]
      congr 1
      exact (decide_eq_false fun k => h k.1).symm
  · rintro pre x post rfl
    unfold m_bylaw_areAll_api_Street__bylaw_CheckStreet__bylaw_idOf_L1
    simp only [lt_pre, decide_true, if_true, idx_pre, Option.bind_some, CheckStreet_eq, m_bylaw_idOf]
    by_cases hv : VStreet x
    · rcases ahead (num := TStreet.Id) hl with ⟨h1, h2, h3⟩ | ⟨y, h1, h2, h3⟩
      · simp only [hv, if_true, h2, h3, Wsucc hl, bne_self_eq_false, Bool.false_eq_true, if_false]; simp
      · simp only [hv, if_true, h1, h2, h3, Option.bind_some, Wsucc hl, true_and, Option.some.injEq, forall_eq']
        by_cases hq : y.Id < x.Id
        · have : ¬ y.Id ≥ x.Id := by omega
          simp [hq, this]
        · have : y.Id ≥ x.Id := by omega
          simp [hq, this]
    · simp [hv]
  · unfold m_bylaw_areAll_api_Street__bylaw_CheckStreet__bylaw_idOf_L1
    simp
theorem all_loop {α E : Type} {body : Int → Option (Sum Int E)} {V : α → Prop} {l : List α} (hl : l.length ≤ 9223372036854775807) (c : E) (fin : E)
    (h : ∀ pre x post, l = pre ++ x :: post → (∀ y, y ∈ pre → V y) → body (pre.length : Int) = some (if V x then .inl ((pre.length + 1 : Nat) : Int) else .inr c))
    (he : body (l.length : Int) = some (.inr fin)) : loopF body 0 = some (if ∀ x, x ∈ l → V x then fin else c) := by
  have hr := loop_list (body := body) (R := E) l hl (fun k (_ : Unit) => (k : Int)) (stepIf (fun _ x => V x) (fun s _ => s) c) id (fun _ => fin) (fun pre _ => ∀ y, y ∈ pre → V y)
    (fun pre x post s hp hpre => by
      rw [h pre x post hp hpre]
      by_cases hk : V x
      · have e := stepIf_pos (ok := fun _ x => V x) (nx := fun s _ => s) (c := c) (s := s) hk
        rw [if_pos hk, e]
        refine ⟨rfl, fun s' _ y hy => ?_⟩
        rcases List.mem_append.1 hy with h | h
        · exact hpre y h
        · simp at h; subst h; exact hk
      · have e := stepIf_neg (ok := fun _ x => V x) (nx := fun s _ => s) (c := c) (s := s) hk
        rw [if_neg hk, e]
        exact ⟨rfl, fun s' hs' => by cases hs'⟩) (fun s _ => he) () (by simp)
  have h0 : ((0 : Nat) : Int) = 0 := rfl
  rw [h0] at hr
  rw [hr, runL_if (fun _ x => V x) (fun s _ => s) c l () (fun l _ => ∀ x, x ∈ l → V x) (by simp) (by simp)]
  by_cases hq : ∀ x, x ∈ l → V x
  · rw [if_pos hq, if_pos hq]
  · rw [if_neg hq, if_neg hq]; rfl
def meets (s t : TStreet) : Prop := t.First < s.First + s.Many ∧ s.First < t.First + t.Many
structure VBylaw (b : TBylaw) : Prop where
  vers : ∀ v, v ∈ b.Versions → VVersion v
  vsort : b.Versions.Pairwise (fun a c => a.Source < c.Source)
  vlen : b.Versions.length ≤ 60
  sts : ∀ s, s ∈ b.Streets → VStreet s
  ssort : b.Streets.Pairwise (fun a c => a.Id < c.Id)
  slen : b.Streets.length ≤ 20
  apart : b.Streets.Pairwise (fun s t => ¬ meets s t)
theorem pair_cases {α : Type} {R : α → α → Prop} (l : List α) : l.Pairwise R ↔ ∀ pre x post, l = pre ++ x :: post → ∀ y, y ∈ pre → R y x := by
  constructor
  · rintro h pre x post rfl y hy
    exact (List.pairwise_append.1 h).2.2 y hy x (List.mem_cons_self ..)
  · intro h
    rw [List.pairwise_iff_getElem]
    intro i j hi hj hij
    exact h (l.take j) l[j] (l.drop (j + 1)) (by rw [← List.drop_eq_getElem_cons hj, List.take_append_drop]) _ (List.mem_take_iff_getElem.2 ⟨i, by omega, rfl⟩)
theorem Check_L4_eq (x : TStreet) (l : List TStreet) (hl : l.length ≤ 9223372036854775807) (hx : VStreet x) (hv : ∀ y, y ∈ l → VStreet y) : loopF (m_bylaw_Check_L4 x l) 0 = some (if ∀ y, y ∈ l → ¬ meets y x then .inl (l.length : Int) else .inr 13) := by
  refine Eq.trans (all_loop (V := fun y => ¬ meets y x) hl (.inr 13) (.inl (l.length : Int)) ?_ ?_) (by congr)
  · rintro pre y post rfl _
    unfold m_bylaw_Check_L4
    have hy := hv y (by simp)
    simp only [lt_pre, decide_true, if_true, idx_pre, Option.bind_some, has_eq, hx.has, hy.has, Wsucc hl]
    have hxm := hx.2.2.2.2.1
    have hym := hy.2.2.2.2.1
    unfold meets
    by_cases h1 : x.First ≤ y.First ∧ y.First < x.First + x.Many
    · have : (x.First < y.First + y.Many ∧ y.First < x.First + x.Many) := by omega
      simp [h1, this]
    · by_cases h2 : y.First ≤ x.First ∧ x.First < y.First + y.Many
      · have : (x.First < y.First + y.Many ∧ y.First < x.First + x.Many) := by omega
        simp [h1, h2, this]
      · have : ¬ (x.First < y.First + y.Many ∧ y.First < x.First + x.Many) := by omega
        simp only [h1, h2, this, decide_false, Bool.false_eq_true, if_false, not_false_eq_true, if_true]
  · unfold m_bylaw_Check_L4; simp
theorem Check_eq (b : TBylaw) (h1 : b.Versions.length ≤ 9223372036854775807) (h2 : b.Streets.length ≤ 9223372036854775807) : m_bylaw_Check b = some (if VBylaw b then 0 else 13) := by
  unfold m_bylaw_Check
  rw [areVersions_eq _ _ h1, areStreets_eq _ _ h2]
  simp only [Option.bind_some, ite_not]
  by_cases ha : ((∀ x, x ∈ b.Versions → VVersion x) ∧ b.Versions.Pairwise (fun a b => a.Source < b.Source)) ∧ (b.Versions.length : Int) ≤ 60
  · by_cases hb : ((∀ x, x ∈ b.Streets → VStreet x) ∧ b.Streets.Pairwise (fun a b => a.Id < b.Id)) ∧ (b.Streets.length : Int) ≤ 20
    · rw [if_pos ha, if_pos hb]
      have hloop : loopF (m_bylaw_Check_L3 b) 0 = some (if b.Streets.Pairwise (fun s t => ¬ meets s t) then .inl (b.Streets.length : Int) else .inr 13) := by
        have hr := loop_list (body := m_bylaw_Check_L3 b) (R := Unit) b.Streets h2 (fun k (_ : Unit) => (k : Int)) (stepIf (fun _ x => ∀ pre post, b.Streets = pre ++ x :: post → ∀ y, y ∈ pre → ¬ meets y x) (fun s _ => s) ()) (fun _ => .inr 13) (fun _ => .inl (b.Streets.length : Int)) (fun _ _ => True)
          (fun pre x post s hp _ => by
            refine ⟨?_, fun _ _ => trivial⟩
            have hnd : b.Streets.Pairwise (fun a b => a ≠ b) := hb.1.2.imp fun h e => by subst e; omega
            have hu : ∀ pre' post', b.Streets = pre' ++ x :: post' → pre' = pre := by
              intro pre' post' hp'
              have hd : (pre ++ x :: post).Nodup := by rw [← hp]; exact hnd
              rw [hp] at hp'
              have hlen : pre'.length = pre.length := by
                have hx1 : (pre ++ x :: post)[pre.length]? = some x := by simp
                have hx2 : (pre ++ x :: post)[pre'.length]? = some x := by rw [hp']; simp
                have hlt1 : pre.length < (pre ++ x :: post).length := by simp
                exact ((List.getElem?_inj hlt1 hd).1 (by rw [hx1, hx2])).symm
              exact (List.append_inj hp'.symm (by omega)).1
            have hcond : (∀ pre' post', b.Streets = pre' ++ x :: post' → ∀ y, y ∈ pre' → ¬ meets y x) ↔ ∀ y, y ∈ pre → ¬ meets y x := ⟨fun h => h pre post hp, fun h pre' post' hp' => by rw [hu pre' post' hp']; exact h⟩
            have hsub : sub b.Streets 0 ((pre.length : Int)).toNat = pre := by rw [hp]; simp [sub]
            unfold m_bylaw_Check_L3
            have hidx : idx b.Streets (pre.length : Int) = some x := by rw [hp]; exact idx_pre
            have hlt : (pre.length : Int) < (b.Streets.length : Int) := by rw [hp]; exact lt_pre
            have hg : 0 ≤ (pre.length : Int) ∧ (pre.length : Int) ≤ (b.Streets.length : Int) := by omega
            simp only [hlt, decide_true, if_true, hidx, Option.bind_some, gd_pos hg, hsub]
            rw [Check_L4_eq x pre (by omega) (hb.1.1 x (by rw [hp]; simp)) (fun y hy => hb.1.1 y (by rw [hp]; simp [hy]))]
            have hw : W ((pre.length : Int) + 1) = ((pre.length + 1 : Nat) : Int) := W_s (by omega)
            by_cases hk : ∀ y, y ∈ pre → ¬ meets y x
            · have e := stepIf_pos (ok := fun _ x => ∀ pre post, b.Streets = pre ++ x :: post → ∀ y, y ∈ pre → ¬ meets y x) (nx := fun s _ => s) (c := ()) (s := s) (hcond.2 hk)
              rw [if_pos hk, e]; simp [hw]
            · have e := stepIf_neg (ok := fun _ x => ∀ pre post, b.Streets = pre ++ x :: post → ∀ y, y ∈ pre → ¬ meets y x) (nx := fun s _ => s) (c := ()) (s := s) (fun h => hk (hcond.1 h))
              rw [if_neg hk, e]; rfl) (fun s _ => by unfold m_bylaw_Check_L3; simp) () trivial
        have h0 : ((0 : Nat) : Int) = 0 := rfl
        rw [h0] at hr
        rw [hr, runL_if (fun _ x => ∀ pre post, b.Streets = pre ++ x :: post → ∀ y, y ∈ pre → ¬ meets y x) (fun s _ => s) () b.Streets () (fun l _ => ∀ x, x ∈ l → ∀ pre post, b.Streets = pre ++ x :: post → ∀ y, y ∈ pre → ¬ meets y x) (by simp) (fun x l s => by simp only [List.mem_cons, forall_eq_or_imp])]
        have hiff : (∀ x, x ∈ b.Streets → ∀ pre post, b.Streets = pre ++ x :: post → ∀ y, y ∈ pre → ¬ meets y x) ↔ b.Streets.Pairwise (fun s t => ¬ meets s t) := by
          rw [pair_cases]
          exact ⟨fun h pre x post hp y hy => h x (by rw [hp]; simp) pre post hp y hy, fun h x _ pre post hp y hy => h pre x post hp y hy⟩
        by_cases hk : b.Streets.Pairwise (fun s t => ¬ meets s t)
        · rw [if_pos hk, if_pos (hiff.2 hk)]
        · rw [if_neg hk, if_neg (fun h => hk (hiff.1 h))]
      rw [hloop]
      by_cases hk : b.Streets.Pairwise (fun s t => ¬ meets s t)
      · have : VBylaw b := ⟨ha.1.1, ha.1.2, by omega, hb.1.1, hb.1.2, by omega, hk⟩
        rw [if_pos hk, if_pos this]; rfl
      · have : ¬ VBylaw b := fun h => hk h.apart
        rw [if_neg hk, if_neg this]; rfl
    · have : ¬ VBylaw b := fun h => hb ⟨⟨h.sts, h.ssort⟩, by have := h.slen; omega⟩
      rw [if_pos ha, if_neg hb, if_neg this]
  · have : ¬ VBylaw b := fun h => ha ⟨⟨h.vers, h.vsort⟩, by have := h.vlen; omega⟩
    rw [if_neg ha, if_neg this]
end Go.Proofs.Ytmkkedbfjpkgkaa
namespace Go.Proofs.Ytmkkedbfjpkgkaa
open Go Go.Sx
open Classical
theorem pre_loop {α E : Type} {body : Int → Option (Sum Int E)} {ok : List α → α → Prop} {l : List α} (hl : l.length ≤ 9223372036854775807) (c : E) (fin : E)
    (h : ∀ pre x post, l = pre ++ x :: post → (∀ p y q, pre = p ++ y :: q → ok p y) → body (pre.length : Int) = some (if ok pre x then .inl ((pre.length + 1 : Nat) : Int) else .inr c))
    (he : body (l.length : Int) = some (.inr fin)) : loopF body 0 = some (if ∀ pre x post, l = pre ++ x :: post → ok pre x then fin else c) := by
  have hr := loop_list (body := body) (R := E) l hl (fun k (_ : List α) => (k : Int)) (stepIf ok (fun s x => s ++ [x]) c) id (fun _ => fin) (fun pre s => s = pre ∧ ∀ p y q, pre = p ++ y :: q → ok p y)
    (fun pre x post s hp hpre => by
      obtain ⟨rfl, hpre⟩ := hpre
      rw [h s x post hp hpre]
      by_cases hk : ok s x
      · rw [if_pos hk, stepIf_pos hk]
        refine ⟨rfl, fun s' hs' => ?_⟩
        cases hs'
        refine ⟨rfl, fun p y q hpq => ?_⟩
        rcases List.eq_nil_or_concat q with rfl | ⟨r, z, rfl⟩
        · have := List.append_inj' hpq rfl
          obtain ⟨h1, h2⟩ := this
          cases h2; subst h1; exact hk
        · have e : s ++ [x] = (p ++ y :: r) ++ [z] := by rw [hpq]; simp
          exact hpre p y r (List.append_inj' e rfl).1
      · rw [if_neg hk, stepIf_neg hk]
        exact ⟨rfl, fun s' hs' => by cases hs'⟩) (fun s _ => he) [] ⟨rfl, fun p y q h => by simp at h⟩
  have h0 : ((0 : Nat) : Int) = 0 := rfl
  rw [h0] at hr
  rw [hr, runL_if ok (fun s x => s ++ [x]) c l [] (fun l s => ∀ pre x post, l = pre ++ x :: post → ok (s ++ pre) x) (fun s pre x post h => by simp at h) (fun x l s => ?_)]
  · by_cases hq : ∀ pre x post, l = pre ++ x :: post → ok pre x
    · rw [if_pos hq, if_pos (by simpa using hq)]
    · rw [if_neg hq, if_neg (by simpa using hq)]; rfl
  · constructor
    · intro h
      refine ⟨by simpa using h [] x l rfl, fun pre y post hp => ?_⟩
      have := h (x :: pre) y post (by simp [hp])
      simpa using this
    · rintro ⟨h1, h2⟩ pre y post hp
      cases pre with
      | nil => simp at hp; obtain ⟨rfl, rfl⟩ := hp; simpa using h1
      | cons z pre =>
        simp at hp
        obtain ⟨rfl, hp⟩ := hp
        have := h2 pre y post hp
        simpa using this
theorem rCheck_L6_eq (b : TBylaw) {pre post : List TStreet} {x : TStreet} (hp : b.Streets = pre ++ x :: post) (hl : b.Streets.length ≤ 9223372036854775807) (hx : VStreet x) (hv : ∀ y, y ∈ pre → VStreet y) : loopF (m_R01_Check_L6 b (pre.length : Int) x) 0 = some (if ∀ y, y ∈ pre → ¬ meets y x then .inl (pre.length : Int) else .inr 13) := by
  have hle : pre.length ≤ 9223372036854775807 := by rw [hp] at hl; simp at hl; omega
  refine Eq.trans (all_loop (V := fun y => ¬ meets y x) hle (.inr 13) (.inl (pre.length : Int)) ?_ ?_) (by congr)
  · rintro p y q rfl _
    unfold m_R01_Check_L6 m_R01_meet
    have hy := hv y (by simp)
    have hidx : idx b.Streets (p.length : Int) = some y := by rw [hp, List.append_assoc]; exact idx_pre
    have hxm := hx.2.2.2.1
    have hym := hy.2.2.2.1
    have hx2 := hx.2.2.2.2.1
    have hy2 := hy.2.2.2.2.1
    simp only [lt_pre, decide_true, if_true, hidx, Option.bind_some, Wsucc hle]
    rw [W_id (z := x.First + x.Many) (by omega), W_id (z := y.First + y.Many) (by omega)]
    unfold meets
    by_cases h1 : y.First < x.First + x.Many
    · by_cases h2 : x.First < y.First + y.Many
      · simp [h1, h2]
      · simp [h1, h2]
    · simp [h1]
  · unfold m_R01_Check_L6; simp
theorem rCheck_eq (b : TBylaw) (h1 : b.Versions.length ≤ 9223372036854775807) (h2 : b.Streets.length ≤ 9223372036854775807) : m_R01_Check b = some (if VBylaw b then 0 else 13) := by
  unfold m_R01_Check
  by_cases g1 : (b.Versions.length : Int) > 60
  · have : ¬ VBylaw b := fun h => by have := h.vlen; omega
    simp [g1, this]
  by_cases g2 : (b.Streets.length : Int) > 20
  · have : ¬ VBylaw b := fun h => by have := h.slen; omega
    simp [g1, g2, this]
  simp only [g1, g2, decide_false, Bool.false_eq_true, if_false]
  have l1 : loopF (m_R01_Check_L1 b) 0 = some (if (∀ x, x ∈ b.Versions → VVersion x) ∧ b.Versions.Pairwise (fun a b => a.Source < b.Source) then .inl (b.Versions.length : Int) else .inr 13) := by
    refine Eq.trans (chain_loop (V := VVersion) (num := TVersion.Source) h1 (.inr 13) (.inl (b.Versions.length : Int)) ?_ ?_) (by congr)
    · intro pre x post hp
      have hl : (pre ++ x :: post).length ≤ 9223372036854775807 := by rw [← hp]; exact h1
      unfold m_R01_Check_L1
      rw [hp]
      simp only [lt_pre, decide_true, if_true, idx_pre, Option.bind_some, rCheckVersion_eq]
      by_cases hv : VVersion x
      · rcases ahead (num := TVersion.Source) hl with ⟨h1, h2, h3⟩ | ⟨y, h1, h2, h3⟩
        · simp only [hv, if_true, h2, h3, Wsucc hl, bne_self_eq_false, Bool.false_eq_true, if_false]; simp
        · simp only [hv, if_true, h1, h2, h3, Option.bind_some, Wsucc hl, true_and, Option.some.injEq, forall_eq']
          by_cases hq : y.Source < x.Source
          · have : ¬ y.Source ≥ x.Source := by omega
            simp [hq, this]
          · have : y.Source ≥ x.Source := by omega
            simp [hq, this]
      · simp [hv]
    · unfold m_R01_Check_L1; simp
  rw [l1]
  by_cases ha : (∀ x, x ∈ b.Versions → VVersion x) ∧ b.Versions.Pairwise (fun a b => a.Source < b.Source)
  · rw [if_pos ha]
    simp only [Option.bind_some]
    have l5 := pre_loop (body := m_R01_Check_L5 b) (ok := fun pre x => (VStreet x ∧ ∀ q, numOf TStreet.Id pre = some q → q < x.Id) ∧ ∀ y, y ∈ pre → ¬ meets y x) (l := b.Streets) h2 (.inr 13) (.inl (b.Streets.length : Int)) (by
      intro pre x post hp hpre
      have hl : (pre ++ x :: post).length ≤ 9223372036854775807 := by rw [← hp]; exact h2
      have hvp : ∀ y, y ∈ pre → VStreet y := fun y hy => by
        obtain ⟨p, q, rfl⟩ := List.append_of_mem hy
        exact (hpre p y q rfl).1.1
      have hidx : idx b.Streets (pre.length : Int) = some x := by rw [hp]; exact idx_pre
      have hlt : (pre.length : Int) < (b.Streets.length : Int) := by rw [hp]; exact lt_pre
      unfold m_R01_Check_L5
      simp only [hlt, decide_true, if_true, hidx, Option.bind_some, rCheckStreet_eq]
      by_cases hv : VStreet x
      · have l6 := rCheck_L6_eq b hp h2 hv hvp
        rcases ahead (num := TStreet.Id) hl with ⟨h1, h2, h3⟩ | ⟨y, h1, h2, h3⟩
        · simp only [hv, if_true, h2, h3, Wsucc hl, bne_self_eq_false, Bool.false_eq_true, if_false, l6, Option.bind_some]
          by_cases hm : ∀ y, y ∈ pre → ¬ meets y x
          · rw [if_pos hm, if_pos ⟨⟨trivial, by simp⟩, hm⟩]
          · rw [if_neg hm, if_neg (fun h => hm h.2)]
        · have h2' : idx b.Streets (W ((pre.length : Int) - 1)) = some y := by rw [hp]; exact h2
          simp only [hv, if_true, h1, h2', h3, Option.bind_some, Wsucc hl, true_and, Option.some.injEq, forall_eq', bne_self_eq_false, Bool.false_eq_true, if_false, l6]
          by_cases hq : y.Id < x.Id
          · have : ¬ y.Id ≥ x.Id := by omega
            simp only [hq, this, decide_false, Bool.false_eq_true, if_false, true_and]
            by_cases hm : ∀ y, y ∈ pre → ¬ meets y x
            · rw [if_pos hm, if_pos hm]
            · rw [if_neg hm, if_neg hm]
          · have : y.Id ≥ x.Id := by omega
            simp [hq, this]
      · simp [hv]) (by unfold m_R01_Check_L5; simp)
    rw [l5]
    have hiff : (∀ pre x post, b.Streets = pre ++ x :: post → (VStreet x ∧ ∀ q, numOf TStreet.Id pre = some q → q < x.Id) ∧ ∀ y, y ∈ pre → ¬ meets y x) ↔ VBylaw b := by
      constructor
      · intro h
        have hv : ∀ s, s ∈ b.Streets → VStreet s := fun s hs => by
          obtain ⟨p, q, hpq⟩ := List.append_of_mem hs
          exact (h p s q hpq).1.1
        have hch : ∀ (l p : List TStreet), b.Streets = p ++ l → chain VStreet TStreet.Id l (numOf TStreet.Id p) := by
          intro l
          induction l with
          | nil => intro p _; trivial
          | cons x l ih =>
            intro p hp
            refine ⟨(h p x l hp).1, ?_⟩
            have := ih (p ++ [x]) (by simp [hp])
            simpa [numOf] using this
        have hc := (chain_iff VStreet TStreet.Id b.Streets none).1 (hch b.Streets [] rfl)
        exact ⟨ha.1, ha.2, by omega, hv, hc.2.1, by omega, (pair_cases _).2 fun pre x post hp => (h pre x post hp).2⟩
      · intro h pre x post hp
        refine ⟨⟨h.sts x (by rw [hp]; simp), fun q hq => ?_⟩, fun y hy => (pair_cases _).1 h.apart pre x post hp y hy⟩
        simp only [numOf] at hq
        cases hg : pre.getLast? with
        | none => rw [hg] at hq; cases hq
        | some y =>
          rw [hg] at hq
          cases hq
          exact (pair_cases _).1 h.ssort pre x post hp y (List.mem_of_getLast? hg)
    by_cases hb : VBylaw b
    · rw [if_pos hb, if_pos (hiff.2 hb)]; rfl
    · rw [if_neg hb, if_neg (fun h => hb (hiff.1 h))]; rfl
  · have : ¬ VBylaw b := fun h => ha ⟨h.vers, h.vsort⟩
    rw [if_neg ha, if_neg this]; rfl
def stF (b : TBylaw) (lamp : Int) : Option TStreet := b.Streets.find? (hasB · lamp)
def noStreet : TStreet := ⟨0, 0, 0, 0, 0⟩
theorem streetOf_eq (b : TBylaw) (lamp : Int) (hl : b.Streets.length ≤ 9223372036854775807) : m_bylaw_streetOf b lamp = some (match stF b lamp with | some s => (s, 0) | none => (noStreet, 15)) := by
  unfold m_bylaw_streetOf
  have hi : m_slices_IndexFunc_api_Street_api_Street__bylaw_streetOf_1 b.Streets lamp = some (match b.Streets.findIdx? (hasB · lamp) with | some i => (i : Int) | none => -1) :=
    idxF_eq (fun s => m_bylaw_streetOf_1 s lamp) (p := (hasB · lamp)) b.Streets (fun x _ => by unfold m_bylaw_streetOf_1; rw [has_eq]; rfl) hl
  rw [hi]
  unfold stF
  cases hf : b.Streets.findIdx? (hasB · lamp) with
  | none =>
    have : b.Streets.find? (hasB · lamp) = none := List.find?_eq_none.2 fun x hx => by simpa using List.findIdx?_eq_none_iff.1 hf x hx
    rw [this]; rfl
  | some i =>
    obtain ⟨h1, h2, h3⟩ := List.findIdx?_eq_some_iff_getElem.1 hf
    have : b.Streets.find? (hasB · lamp) = some b.Streets[i] := by
      rw [List.find?_eq_some_iff_getElem]
      exact ⟨h2, i, h1, rfl, fun j hj => by have := h3 j hj; simpa using this⟩
    rw [this]
    have hn : ¬ ((i : Int) < 0) := by omega
    simp only [Option.bind_some, hn, decide_false, Bool.false_eq_true, if_false, idx_n h1]
end Go.Proofs.Ytmkkedbfjpkgkaa
namespace Go.Proofs.Ytmkkedbfjpkgkaa
open Go Go.Sx
open Classical
def zeroV : TVersion := ⟨0, 0, 0, ⟨0, 0⟩, ⟨0, 0⟩, 0, 0, 0, 0⟩
def counts (v : TVersion) (known : Int) : Prop := v.Known ≤ known ∧ (v.Until = 0 ∨ v.Until > known)
noncomputable def stepV (class_ night known : Int) (o v : TVersion) : TVersion := if v.Class = class_ ∧ v.From ≤ night ∧ counts v known ∧ v.From ≥ o.From then v else o
noncomputable def vF (b : TBylaw) (class_ night known : Int) : TVersion := b.Versions.foldl (stepV class_ night known) zeroV
def encV (k : Nat) (o : TVersion) : (Int × Int × Int × Int × Int × Int × Int × Int × Int × Int × Int × Int) := ((k : Int), o.Source, o.Class, o.From, o.On.Lo, o.On.Hi, o.Off.Lo, o.Off.Hi, o.Moon, o.Fog, o.Known, o.Until)
theorem zeroV_iff (o : TVersion) : ((o.Source == 0) && ((o.Class == 0) && ((o.From == 0) && ((o.On.Lo == 0) && ((o.On.Hi == 0) && ((o.Off.Lo == 0) && ((o.Off.Hi == 0) && ((o.Moon == 0) && ((o.Fog == 0) && ((o.Known == 0) && (o.Until == 0))))))))))) = decide (o = zeroV) := by
  obtain ⟨a1, a2, a3, ⟨a4, a5⟩, ⟨a6, a7⟩, a8, a9, a10, a11⟩ := o
  rw [Bool.eq_iff_iff]
  simp [zeroV, and_assoc]
theorem inForce_eq (b : TBylaw) (class_ night known : Int) (hl : b.Versions.length ≤ 9223372036854775807) : m_bylaw_inForce b class_ night known = some (vF b class_ night known, if vF b class_ night known = zeroV then 14 else 0) := by
  have hr := loop_list (body := m_bylaw_inForce_L1 b class_ night known) (R := Unit) b.Versions hl encV (fun o v => .inl (stepV class_ night known o v)) (fun _ => encV 0 zeroV) (fun o => encV b.Versions.length o) (fun _ _ => True)
    (fun pre x post o hp _ => by
      refine ⟨?_, fun _ _ => trivial⟩
      have hll : (pre ++ x :: post).length ≤ 9223372036854775807 := by rw [← hp]; exact hl
      unfold m_bylaw_inForce_L1 encV
      rw [hp]
      simp only [lt_pre, decide_true, if_true, idx_pre, Option.bind_some, Wsucc hll]
      by_cases h : x.Class = class_ ∧ x.From ≤ night ∧ counts x known ∧ x.From ≥ o.From
      · have e : stepV class_ night known o x = x := if_pos h
        rw [e]
        obtain ⟨h1, h2, ⟨h3, h4⟩, h5⟩ := h
        rcases h4 with h4 | h4
        · simp [h1, h2, h3, h4, h5]
        · simp [h1, h2, h3, h4, h5]
      · have e : stepV class_ night known o x = o := if_neg h
        rw [e]
        unfold counts at h
        (repeat' split) <;> first | rfl | (exfalso; apply h; simp_all)) (fun o _ => by unfold m_bylaw_inForce_L1 encV; simp) zeroV trivial
  rw [runL_foldl] at hr
  unfold m_bylaw_inForce
  rw [show (0, 0, 0, 0, 0, 0, 0, 0, 0, 0, 0, 0) = encV 0 zeroV from rfl, hr]
  simp only [Option.bind_some, encV]
  rw [zeroV_iff]
  show (if decide (vF b class_ night known = zeroV) = true then some (vF b class_ night known, (14 : Int)) else some (vF b class_ night known, 0)) = _
  by_cases h : vF b class_ night known = zeroV
  · rw [if_pos (by simpa using h), if_pos h]
  · rw [if_neg (by simpa using h), if_neg h]
theorem foldl_keep {α σ : Type} (P : σ → Prop) (f : σ → α → σ) (l : List α) (s : σ) (h0 : P s) (h : ∀ x, x ∈ l → ∀ s, P s → P (f s x)) : P (l.foldl f s) := by
  induction l generalizing s with
  | nil => exact h0
  | cons x l ih => exact ih (f s x) (h x (List.mem_cons_self ..) s h0) fun y hy => h y (List.mem_cons_of_mem _ hy)
theorem stepV_cases (c n k : Int) (o v : TVersion) : stepV c n k o v = v ∨ stepV c n k o v = o := by unfold stepV; split <;> simp
theorem vF_cases {b : TBylaw} (hb : VBylaw b) (c n k : Int) : vF b c n k = zeroV ∨ (VVersion (vF b c n k) ∧ vF b c n k ∈ b.Versions) := by
  unfold vF
  refine foldl_keep (fun o => o = zeroV ∨ (VVersion o ∧ o ∈ b.Versions)) _ _ _ (.inl rfl) fun x hx s hs => ?_
  rcases stepV_cases c n k s x with h | h
  · rw [h]; exact .inr ⟨hb.vers x hx, hx⟩
  · rw [h]; exact hs
noncomputable def askF (b : TBylaw) (lamp night known : Int) : TVersion × Int := match stF b lamp with
  | none => (zeroV, 15)
  | some s => if vF b s.Class night known = zeroV then (zeroV, 14) else (vF b s.Class night known, 0)
noncomputable def kF (b : TBylaw) (lamp : Int) (n : TNight) (night : Int) : TVersion × Int :=
  if VBylaw b then (if VNight n then (if 0 ≤ night ∧ night ≤ 100000 then askF b lamp n.No night else (zeroV, 6)) else (zeroV, 12)) else (zeroV, 13)
theorem known_eq {b : TBylaw} (hb : VBylaw b) (lamp : Int) (n : TNight) (night : Int) : ∃ w, m_bylaw_known b lamp n night = some (w, (askF b lamp n.No night).2) ∧ ((askF b lamp n.No night).2 = 0 → w = ⟨(askF b lamp n.No night).1, n⟩) := by
  have h1 : b.Versions.length ≤ 9223372036854775807 := by have := hb.vlen; omega
  have h2 : b.Streets.length ≤ 9223372036854775807 := by have := hb.slen; omega
  unfold m_bylaw_known
  rw [streetOf_eq b lamp h2]
  unfold askF
  cases hs : stF b lamp with
  | none => exact ⟨_, rfl, fun h => by simp at h⟩
  | some s =>
    simp only [Option.bind_some, bne_self_eq_false, Bool.false_eq_true, if_false, inForce_eq b _ _ _ h1]
    by_cases hz : vF b s.Class n.No night = zeroV
    · exact ⟨_, by rw [if_pos hz, if_pos hz], fun h => by rw [if_pos hz] at h; simp at h⟩
    · exact ⟨_, by rw [if_neg hz, if_neg hz], fun _ => by rw [if_neg hz]⟩
theorem look_eq (b : TBylaw) (lamp : Int) (n : TNight) (night : Int) (h1 : b.Versions.length ≤ 9223372036854775807) (h2 : b.Streets.length ≤ 9223372036854775807) : ∃ w, m_bylaw_look b lamp n night = some (w, (kF b lamp n night).2) ∧ ((kF b lamp n night).2 = 0 → w = ⟨(kF b lamp n night).1, n⟩) := by
  unfold m_bylaw_look kF
  rw [Check_eq b h1 h2]
  by_cases hb : VBylaw b
  · simp only [hb, if_true, Option.bind_some, bne_self_eq_false, Bool.false_eq_true, if_false, CheckNight_eq]
    by_cases hn : VNight n
    · simp only [hn, if_true, bne_self_eq_false, Bool.false_eq_true, if_false, isNight_eq, Option.bind_some, ite_not]
      by_cases hk : 0 ≤ night ∧ night ≤ 100000
      · obtain ⟨w, g1, g2⟩ := known_eq hb lamp n night
        simp only [hk, and_self, if_true, g1, Option.bind_some]
        exact ⟨w, rfl, g2⟩
      · rw [if_neg hk, if_neg hk]; exact ⟨_, rfl, fun h => by simp at h⟩
    · simp only [hn, if_false]; exact ⟨_, rfl, fun h => by simp at h⟩
  · simp only [hb, if_false]; exact ⟨_, rfl, fun h => by simp at h⟩
theorem kF_ok {b : TBylaw} {lamp : Int} {n : TNight} {night : Int} (h : (kF b lamp n night).2 = 0) : VBylaw b ∧ VNight n ∧ (0 ≤ night ∧ night ≤ 100000) ∧ VVersion (kF b lamp n night).1 ∧ kF b lamp n night = askF b lamp n.No night := by
  unfold kF at h ⊢
  by_cases hb : VBylaw b
  · by_cases hn : VNight n
    · by_cases hk : 0 ≤ night ∧ night ≤ 100000
      · simp only [hb, hn, hk, and_self, if_true] at h ⊢
        refine ⟨trivial, trivial, trivial, ?_, trivial⟩
        unfold askF at h ⊢
        cases hs : stF b lamp with
        | none => rw [hs] at h; simp at h
        | some s =>
          rw [hs] at h
          simp only at h ⊢
          by_cases hz : vF b s.Class n.No night = zeroV
          · rw [if_pos hz] at h; simp at h
          · rw [if_neg hz]
            rcases vF_cases hb s.Class n.No night with h | h
            · exact absurd h hz
            · exact h.1
      · simp [hb, hn, hk] at h
    · simp [hb, hn] at h
  · simp [hb] at h
end Go.Proofs.Ytmkkedbfjpkgkaa
namespace Go.Proofs.Ytmkkedbfjpkgkaa
open Go Go.Sx
open Classical
def litF (v : TVersion) (n : TNight) : Int := if n.Fog = 1 ∨ n.Light.Hi < v.Moon then 1 else if n.Fog = 0 ∧ n.Light.Lo ≥ v.Moon then 0 else 2
theorem lit_eq (w : Twindow) : m_bylaw_window_lit w = some (litF w.v w.n) := by
  unfold m_bylaw_window_lit litF
  (repeat' split) <;> simp_all <;> omega
def mx (x : Int) : Int := if 0 > x then 0 else x
def mn (x : Int) : Int := if 1439 < x then 1439 else x
def lo1 (v : TVersion) (n : TNight) : Int := n.Set.Hi + v.On.Lo - (if n.Fog = 1 then v.Fog else 0)
def hi1 (v : TVersion) (n : TNight) : Int := n.Set.Lo + v.On.Hi - (if n.Fog = 0 then 0 else v.Fog)
def lo2 (v : TVersion) (n : TNight) : Int := n.Rise.Hi - v.Off.Hi
def hi2 (v : TVersion) (n : TNight) : Int := n.Rise.Lo - v.Off.Lo
def clipF (lo hi : Int) : TRange × Int := if mx lo > mn hi then (⟨0, 0⟩, 16) else (⟨mx lo, mn hi⟩, 0)
theorem fog_eq (w : Twindow) (l : List Int) (hl : l.length ≤ 9223372036854775807) : m_bylaw_window_fog w l = some (if w.n.Fog ∈ l then w.v.Fog else 0) := by
  unfold m_bylaw_window_fog
  have hr := loop_list (body := m_bylaw_window_fog_L1 w l) l hl (fun k (_ : Unit) => (k : Int)) (fun s x => if w.n.Fog = x then .inr w.v.Fog else .inl s) (fun x => .inr x) (fun _ => .inl (l.length : Int)) (fun _ _ => True)
    (fun pre x post s hp _ => by
      refine ⟨?_, fun _ _ => trivial⟩
      have hll : (pre ++ x :: post).length ≤ 9223372036854775807 := by rw [← hp]; exact hl
      unfold m_bylaw_window_fog_L1
      rw [hp]
      simp only [lt_pre, decide_true, if_true, idx_pre, Option.bind_some, Wsucc hll]
      by_cases h : w.n.Fog = x
      · simp [h]
      · simp [h]) (fun s _ => by unfold m_bylaw_window_fog_L1; simp) () trivial
  have h0 : ((0 : Nat) : Int) = 0 := rfl
  rw [h0] at hr
  rw [hr]
  have hk : ∀ (l : List Int) (u : Unit), runL (fun (s : Unit) x => if w.n.Fog = x then Sum.inr w.v.Fog else Sum.inl s) l u = if w.n.Fog ∈ l then .inr w.v.Fog else .inl u := by
    intro l u
    induction l with
    | nil => simp [runL]
    | cons x l ih =>
      simp only [runL, List.mem_cons]
      by_cases h : w.n.Fog = x
      · simp [h]
      · simp only [h, if_false, false_or]; exact ih
  rw [hk]
  by_cases h : w.n.Fog ∈ l
  · rw [if_pos h, if_pos h]; rfl
  · rw [if_neg h, if_neg h]; rfl
structure Bd (v : TVersion) (n : TNight) : Prop where
  a1 : 0 ≤ n.Set.Lo ∧ n.Set.Lo ≤ n.Set.Hi ∧ n.Set.Hi ≤ n.Rise.Lo ∧ n.Rise.Lo ≤ n.Rise.Hi ∧ n.Rise.Hi ≤ 1439
  a2 : 0 ≤ v.On.Lo ∧ v.On.Lo ≤ v.On.Hi ∧ v.On.Hi ≤ 600
  a3 : 0 ≤ v.Off.Lo ∧ v.Off.Lo ≤ v.Off.Hi ∧ v.Off.Hi ≤ 600
  a4 : 0 ≤ v.Fog ∧ v.Fog ≤ 600
  a5 : n.Fog = 0 ∨ n.Fog = 1 ∨ n.Fog = 2
  a6 : 0 ≤ n.Light.Lo ∧ n.Light.Lo ≤ n.Light.Hi ∧ n.Light.Hi ≤ 1000
  a7 : 0 ≤ v.Moon ∧ v.Moon ≤ 1001
theorem Bd.of {v : TVersion} {n : TNight} (hv : VVersion v) (hn : VNight n) : Bd v n := by
  obtain ⟨_, h2, h3, h4, h5, h6⟩ := hn
  obtain ⟨_, _, _, k1, k2, k3, k4, _⟩ := hv
  exact ⟨by omega, k1, k2, k4, by omega, h5, k3⟩
theorem on_eq {v : TVersion} {n : TNight} (h : Bd v n) : m_bylaw_window_on ⟨v, n⟩ = some ⟨mx (lo1 v n), mn (hi1 v n)⟩ := by
  unfold m_bylaw_window_on
  rw [fog_eq _ _ (by simp), fog_eq _ _ (by simp)]
  have a1 := h.a1; have a2 := h.a2; have a4 := h.a4
  have e1 : (if n.Fog ∈ ([1] : List Int) then v.Fog else 0) = (if n.Fog = 1 then v.Fog else 0) := by simp
  have e2 : (if n.Fog ∈ ([1, 2] : List Int) then v.Fog else 0) = (if n.Fog = 0 then 0 else v.Fog) := by rcases h.a5 with h | h | h <;> simp [h]
  simp only [e1, e2, Option.bind_some]
  have b1 : 0 ≤ (if n.Fog = 1 then v.Fog else 0) ∧ (if n.Fog = 1 then v.Fog else 0) ≤ 600 := by split <;> omega
  have b2 : 0 ≤ (if n.Fog = 0 then 0 else v.Fog) ∧ (if n.Fog = 0 then 0 else v.Fog) ≤ 600 := by split <;> omega
  rw [W_id (z := n.Set.Hi + v.On.Lo) (by omega), W_id (z := n.Set.Lo + v.On.Hi) (by omega), W_id (by omega), W_id (by omega)]
  rfl
theorem off_eq {v : TVersion} {n : TNight} (h : Bd v n) : m_bylaw_window_off ⟨v, n⟩ = some ⟨mx (lo2 v n), mn (hi2 v n)⟩ := by
  unfold m_bylaw_window_off
  have a1 := h.a1; have a3 := h.a3
  simp only
  rw [W_id (z := n.Rise.Hi - v.Off.Hi) (by omega), W_id (z := n.Rise.Lo - v.Off.Lo) (by omega)]
  rfl
theorem clip_gt {lo hi : Int} : (if decide (mx lo > mn hi) = true then some ((⟨0, 0⟩ : TRange), (16 : Int)) else some (⟨mx lo, mn hi⟩, 0)) = some (clipF lo hi) := by
  unfold clipF
  by_cases h : mx lo > mn hi
  · rw [if_pos (by simpa using h), if_pos h]
  · rw [if_neg (by simpa using h), if_neg h]
theorem minon_eq {v : TVersion} {n : TNight} (h : Bd v n) : m_bylaw_window_minutes__bylaw_window_on ⟨v, n⟩ ⟨v, n⟩ = some (if litF v n = 0 then (⟨0, 0⟩, 18) else clipF (lo1 v n) (hi1 v n)) := by
  unfold m_bylaw_window_minutes__bylaw_window_on
  rw [lit_eq]
  simp only [Option.bind_some, on_eq h, clip_gt]
  by_cases hl : litF v n = 0 <;> simp [hl]
theorem minoff_eq {v : TVersion} {n : TNight} (h : Bd v n) : m_bylaw_window_minutes__bylaw_window_off ⟨v, n⟩ ⟨v, n⟩ = some (if litF v n = 0 then (⟨0, 0⟩, 18) else clipF (lo2 v n) (hi2 v n)) := by
  unfold m_bylaw_window_minutes__bylaw_window_off
  rw [lit_eq]
  simp only [Option.bind_some, off_eq h, clip_gt]
  by_cases hl : litF v n = 0 <;> simp [hl]
theorem clipF_err (lo hi : Int) : (clipF lo hi).2 = 0 ∨ (clipF lo hi).2 = 16 := by unfold clipF; split <;> simp
def noDuty : TDuty := ⟨0, ⟨0, 0⟩, ⟨0, 0⟩⟩
def dutyF (v : TVersion) (n : TNight) : TDuty × Int :=
  if litF v n = 0 then (noDuty, 0) else if (clipF (lo1 v n) (hi1 v n)).2 = 0 ∧ (clipF (lo2 v n) (hi2 v n)).2 = 0 then (⟨litF v n, (clipF (lo1 v n) (hi1 v n)).1, (clipF (lo2 v n) (hi2 v n)).1⟩, 0) else (noDuty, 16)
theorem duty_eq {v : TVersion} {n : TNight} (h : Bd v n) : m_bylaw_window_duty ⟨v, n⟩ = some (dutyF v n) := by
  unfold m_bylaw_window_duty dutyF
  rw [lit_eq, minon_eq h, minoff_eq h]
  simp only [Option.bind_some]
  by_cases hl : litF v n = 0
  · simp [hl]; rfl
  · simp only [hl, beq_iff_eq, if_false]
    rcases clipF_err (lo1 v n) (hi1 v n) with e1 | e1
    · rcases clipF_err (lo2 v n) (hi2 v n) with e2 | e2
      · simp [e1, e2]
      · simp [e1, e2]; rfl
    · simp [e1]; rfl
theorem kF_bd {b : TBylaw} {lamp : Int} {n : TNight} {night : Int} (h : (kF b lamp n night).2 = 0) : Bd (kF b lamp n night).1 n := Bd.of (kF_ok h).2.2.2.1 (kF_ok h).2.1
noncomputable def DutyF (b : TBylaw) (lamp : Int) (n : TNight) (night : Int) : TDuty × Int := if (kF b lamp n night).2 = 0 then dutyF (kF b lamp n night).1 n else (noDuty, (kF b lamp n night).2)
theorem Duty_eq (b : TBylaw) (h1 : b.Versions.length ≤ 9223372036854775807) (h2 : b.Streets.length ≤ 9223372036854775807) (lamp : Int) (n : TNight) (night : Int) : m_bylaw_Duty b lamp n night = some (DutyF b lamp n night) := by
  unfold m_bylaw_Duty DutyF
  obtain ⟨w, g1, g2⟩ := look_eq b lamp n night h1 h2
  rw [g1]
  by_cases h : (kF b lamp n night).2 = 0
  · rw [if_pos h, g2 h, h]; simp [duty_eq (kF_bd h)]
  · rw [if_neg h]; simp [h]; rfl
end Go.Proofs.Ytmkkedbfjpkgkaa
namespace Go.Proofs.Ytmkkedbfjpkgkaa
open Go Go.Sx
open Classical
theorem VBylaw.filter {b : TBylaw} (hb : VBylaw b) (p : TVersion → Bool) : VBylaw ⟨b.Versions.filter p, b.Streets⟩ :=
  ⟨fun v hv => hb.vers v (List.mem_filter.1 hv).1, hb.vsort.filter p, Nat.le_trans (List.length_filter_le _ _) hb.vlen, hb.sts, hb.ssort, hb.slen, hb.apart⟩
end Go.Proofs.Ytmkkedbfjpkgkaa
namespace Go.Proofs.Ytmkkedbfjpkgkaa
open Go Go.Sx
open Classical
def truthOK (x : TTruth) : Prop := 0 ≤ x.Set ∧ x.Set ≤ x.Rise ∧ x.Rise ≤ 1439 ∧ (0 ≤ x.Light ∧ x.Light ≤ 1000)
def fogOK (n : TNight) (f : Bool) : Bool := match f with | true => n.Fog != 0 | false => n.Fog != 1
end Go.Proofs.Ytmkkedbfjpkgkaa
namespace Go.Proofs.Ytmkkedbfjpkgkaa
open Go Go.Sx
open Classical
structure Of (n : TNight) (x : TTruth) : Prop where
  s : n.Set.Lo ≤ x.Set ∧ x.Set ≤ n.Set.Hi
  r : n.Rise.Lo ≤ x.Rise ∧ x.Rise ≤ n.Rise.Hi
  l : n.Light.Lo ≤ x.Light ∧ x.Light ≤ n.Light.Hi
  f : fogOK n x.Fog = true
theorem Of.ok {n : TNight} (hn : VNight n) {x : TTruth} (h : Of n x) : truthOK x := by
  obtain ⟨_, h2, h3, h4, h5, _⟩ := hn
  obtain ⟨a, b, c, _⟩ := h
  unfold truthOK
  omega
structure Live (b : TBylaw) (lamp : Int) (n : TNight) (k : Int) (v : TVersion) : Prop where
  hb : VBylaw b
  hn : VNight n
  hv : VVersion v
  hk : kF b lamp n k = (v, 0)
theorem Live.of {b : TBylaw} {lamp : Int} {n : TNight} {k : Int} (h : (kF b lamp n k).2 = 0) : Live b lamp n k (kF b lamp n k).1 := by
  obtain ⟨h1, h2, _, h4, _⟩ := kF_ok h
  exact ⟨h1, h2, h4, Prod.ext rfl h⟩
end Go.Proofs.Ytmkkedbfjpkgkaa
namespace Go.Proofs.Ytmkkedbfjpkgkaa
open Go Go.Sx
open Classical
def dOf (v : TVersion) : List Int := if v.Until = 0 then [v.Known] else [v.Known, v.Until]
def dL (l : List TVersion) : List Int := l.flatMap dOf
theorem dOf_len (v : TVersion) : (dOf v).length ≤ 2 := by unfold dOf; split <;> simp
theorem dL_len : ∀ (l : List TVersion), (dL l).length ≤ 2 * l.length
  | [] => by simp [dL]
  | v :: l => by
    have := dL_len l
    have h2 := dOf_len v
    unfold dL at *
    rw [List.flatMap_cons, List.length_append, List.length_cons]
    omega
theorem mem_dL {l : List TVersion} {x : Int} : x ∈ dL l ↔ ∃ v, v ∈ l ∧ (x = v.Known ∨ (v.Until ≠ 0 ∧ x = v.Until)) := by
  unfold dL
  rw [List.mem_flatMap]
  constructor
  · rintro ⟨v, hv, hx⟩
    refine ⟨v, hv, ?_⟩
    unfold dOf at hx
    split at hx
    · exact .inl (by simpa using hx)
    · rename_i h; simp at hx; rcases hx with h1 | h1
      · exact .inl h1
      · exact .inr ⟨h, h1⟩
  · rintro ⟨v, hv, hx⟩
    refine ⟨v, hv, ?_⟩
    unfold dOf
    rcases hx with h | ⟨h, h1⟩
    · split <;> simp [h]
    · rw [if_neg h]; simp [h1]
noncomputable def datesF (b : TBylaw) : List Int := compI (sortI (dL b.Versions))
theorem mem_dates {b : TBylaw} {x : Int} : x ∈ datesF b ↔ x ∈ dL b.Versions := by unfold datesF; rw [mem_compI, mem_sortI]
theorem dates_lt (b : TBylaw) : (datesF b).Pairwise (fun a c => a < c) := compI_lt (sortI_sorted _)
theorem dates_len {b : TBylaw} (hb : VBylaw b) : (datesF b).length ≤ 120 := by
  have h1 := compI_len (sortI (dL b.Versions))
  rw [sortI_len] at h1
  have h2 := dL_len b.Versions
  have h3 := hb.vlen
  unfold datesF; omega
theorem Dates_eq (b : TBylaw) (h1 : b.Versions.length ≤ 9223372036854775807) (h2 : b.Streets.length ≤ 9223372036854775807) : m_bylaw_Dates b = some (if VBylaw b then (datesF b, 0) else ([], 13)) := by
  unfold m_bylaw_Dates
  rw [Check_eq b h1 h2, Option.bind_some]
  by_cases hb : VBylaw b
  rotate_left
  · rw [if_neg hb, if_pos (by decide), if_neg hb]
  rw [if_pos hb, if_neg (by decide), if_pos hb]
  have hvl := hb.vlen
  have hA := loop_list (body := m_bylaw_Dates_L1 b) (R := Unit) b.Versions h1 (fun k (o : List Int) => (([] : List Int), (k : Int), o)) (fun o v => .inl (o ++ dOf v)) (fun _ => ([], 0, [])) (fun o => ([], (b.Versions.length : Int), o)) (fun pre o => o.length ≤ 2 * pre.length)
    (fun pre v post o he hP => by
      have hlen : pre.length + 1 + post.length = b.Versions.length := by rw [he]; simp; omega
      have hx : idx b.Versions (pre.length : Int) = some v := by rw [he]; exact idx_pre
      have g1 : (o.length + ([v.Known] : List Int).length) * 8 ≤ 140737488355328 ∧ o.length + ([v.Known] : List Int).length ≤ 9223372036854775807 := by simp only [List.length_cons, List.length_nil]; omega
      have g2 : ((o ++ ([v.Known] : List Int)).length + ([v.Until] : List Int).length) * 8 ≤ 140737488355328 ∧ (o ++ ([v.Known] : List Int)).length + ([v.Until] : List Int).length ≤ 9223372036854775807 := by simp only [List.length_append, List.length_cons, List.length_nil]; omega
      have hd := dOf_len v
      refine ⟨?_, fun s' hs' => by cases hs'; simp only [List.length_append, List.length_cons, List.length_nil]; omega⟩
      unfold m_bylaw_Dates_L1
      dsimp only
      rw [if_pos (by simp; omega), hx, Option.bind_some, gd_pos g1, gd_pos g2, W_s (by omega)]
      unfold dOf
      by_cases h : v.Until = 0
      · rw [if_neg (by simp [h]), if_pos h]
      · rw [if_pos (by simpa using h), if_neg h]; simp)
    (fun o hP => by
      unfold m_bylaw_Dates_L1
      dsimp only
      rw [if_neg (by simp)]) [] (Nat.le_refl _)
  have hA' : loopF (m_bylaw_Dates_L1 b) ([], 0, []) = _ := hA
  rw [hA', runL_foldl]
  have key : ∀ (l : List TVersion) (o : List Int), l.foldl (fun o v => o ++ dOf v) o = o ++ dL l := by
    intro l
    induction l with
    | nil => simp [dL]
    | cons v l ih => intro o; rw [List.foldl_cons, ih]; simp [dL]
  rw [key, Option.bind_some]
  dsimp only
  rw [List.nil_append]
  have h3 := dL_len b.Versions
  unfold m_slices_Sort_int_int m_slices_Compact_int_int
  rw [gd_pos (by omega), Option.bind_some, Option.bind_some]
  rfl
end Go.Proofs.Ytmkkedbfjpkgkaa
namespace Go.Proofs.Ytmkkedbfjpkgkaa
open Go Go.Sx
set_option maxRecDepth 1000000
theorem pl_sane : m_L01_sane = some true := by decide +kernel
end Go.Proofs.Ytmkkedbfjpkgkaa
namespace Go.Proofs.Ytmkkedbfjpkgkaa
open Go Go.Sx
open Classical
theorem now_loop {b : TBylaw} (hb : VBylaw b) (a : TAsk) : loopF (m_L01_BylawKnown_L1 b a) (0, [], []) = some ((b.Versions.length : Int), [], b.Versions.filter fun v => decide (counts v a.Known)) := by
  have hvl := hb.vlen
  have hA := loop_list (body := m_L01_BylawKnown_L1 b a) (R := Unit) b.Versions (by omega) (fun k (o : List TVersion) => ((k : Int), ([] : List TVersion), o)) (fun o v => .inl (if decide (counts v a.Known) = true then o ++ [v] else o)) (fun _ => (0, [], [])) (fun o => ((b.Versions.length : Int), [], o)) (fun pre o => o.length ≤ pre.length)
    (fun pre v post o he hP => by
      have hlen : pre.length + 1 + post.length = b.Versions.length := by rw [he]; simp; omega
      have hx : idx b.Versions (pre.length : Int) = some v := by rw [he]; exact idx_pre
      have g1 : (o.length + ([v] : List TVersion).length) * 88 ≤ 140737488355328 ∧ o.length + ([v] : List TVersion).length ≤ 9223372036854775807 := by simp only [List.length_cons, List.length_nil]; omega
      refine ⟨?_, fun s' hs' => by
        cases hs'
        by_cases h : decide (counts v a.Known) = true
        · rw [if_pos h]; simp; omega
        · rw [if_neg h]; simp; omega⟩
      unfold m_L01_BylawKnown_L1
      try dsimp only
      rw [if_pos (by simp; omega), hx, Option.bind_some, gd_pos g1, W_s (by omega)]
      by_cases h1 : v.Known ≤ a.Known
      · rw [if_pos (by simpa using h1)]
        by_cases h2 : v.Until = 0
        · have hc : counts v a.Known := ⟨h1, .inl h2⟩
          rw [if_pos (by simp [h2]), if_pos (by simpa using hc)]
        · rw [if_neg (by simpa using h2)]
          by_cases h3 : v.Until > a.Known
          · have hc : counts v a.Known := ⟨h1, .inr h3⟩
            rw [if_pos (by simpa using h3), if_pos (by simpa using hc)]
          · have hc : ¬ counts v a.Known := fun h => by rcases h.2 with h | h; exact h2 h; exact h3 h
            rw [if_neg (by simpa using h3), if_neg (by simpa using hc)]
      · have hc : ¬ counts v a.Known := fun h => h1 h.1
        rw [if_neg (by simpa using h1), if_neg (by simpa using hc)])
    (fun o hP => by
      unfold m_L01_BylawKnown_L1
      try dsimp only
      rw [if_neg (by simp)]) [] (Nat.le_refl _)
  have hA' : loopF (m_L01_BylawKnown_L1 b a) (0, [], []) = _ := hA
  rw [hA', runL_foldl]
  have key : ∀ (l o : List TVersion), l.foldl (fun o v => if decide (counts v a.Known) = true then o ++ [v] else o) o = o ++ l.filter fun v => decide (counts v a.Known) := by
    intro l
    induction l with
    | nil => simp
    | cons v l ih =>
      intro o
      rw [List.foldl_cons, ih]
      by_cases h : counts v a.Known <;> simp [h]
  rw [key, List.nil_append]
structure Last (l : List Int) (k z : Int) : Prop where
  no : z < 0 → ∀ d, d ∈ l → ¬ d ≤ k
  is : 0 ≤ z → z ∈ l ∧ z ≤ k ∧ ∀ d, d ∈ l → d ≤ k → d ≤ z
theorem last_fold (k : Int) : ∀ (l pre : List Int) (z : Int), (pre ++ l).Pairwise (fun a c => a < c) → (∀ d, d ∈ pre ++ l → 0 ≤ d) → Last pre k z → Last (pre ++ l) k (l.foldl (fun z d => if d ≤ k then d else z) z)
  | [], pre, z, _, _, h => by simpa using h
  | d :: l, pre, z, hs, h0, h => by
    have e : pre ++ d :: l = (pre ++ [d]) ++ l := by simp
    rw [e] at hs h0 ⊢
    rw [List.foldl_cons]
    refine last_fold k l (pre ++ [d]) _ hs h0 ?_
    have hd := h0 d (by simp)
    have hlt : ∀ x, x ∈ pre → x < d := fun x hx => by
      have := (List.pairwise_append.1 (List.pairwise_append.1 hs).1).2.2 x hx d (by simp)
      exact this
    by_cases hk : d ≤ k
    · rw [if_pos hk]
      refine ⟨fun h => by omega, fun _ => ⟨by simp, hk, fun x hx _ => ?_⟩⟩
      rcases List.mem_append.1 hx with hx | hx
      · have := hlt x hx; omega
      · rw [List.mem_singleton.1 hx]; exact Int.le_refl _
    · rw [if_neg hk]
      refine ⟨fun hz x hx => ?_, fun hz => ⟨List.mem_append.2 (.inl (h.is hz).1), (h.is hz).2.1, fun x hx hxk => ?_⟩⟩
      · rcases List.mem_append.1 hx with hx | hx
        · exact h.no hz x hx
        · rw [List.mem_singleton.1 hx]; exact hk
      · rcases List.mem_append.1 hx with hx | hx
        · exact (h.is hz).2.2 x hx hxk
        · rw [List.mem_singleton.1 hx] at hxk; exact absurd hxk hk
theorem last_loop (a : TAsk) (l : List Int) (hl : l.length ≤ 1000) : loopF (m_L01_BylawKnown_L2 a l) ((-1), 0) = some (l.foldl (fun z d => if d ≤ a.Known then d else z) (-1), (l.length : Int)) := by
  have hA := loop_list (body := m_L01_BylawKnown_L2 a l) (R := Unit) l (by omega) (fun k (z : Int) => (z, (k : Int))) (fun z d => .inl (if d ≤ a.Known then d else z)) (fun _ => (0, 0)) (fun z => (z, (l.length : Int))) (fun _ _ => True)
    (fun pre d post z he _ => by
      have hlen : pre.length + 1 + post.length = l.length := by rw [he]; simp; omega
      have hx : idx l (pre.length : Int) = some d := by rw [he]; exact idx_pre
      refine ⟨?_, fun _ _ => trivial⟩
      unfold m_L01_BylawKnown_L2
      try dsimp only
      rw [if_pos (by simp; omega), hx, Option.bind_some, W_s (by omega)]
      by_cases h : d ≤ a.Known
      · rw [if_pos (by simpa using h), if_pos h]
      · rw [if_neg (by simpa using h), if_neg h])
    (fun z _ => by
      unfold m_L01_BylawKnown_L2
      try dsimp only
      rw [if_neg (by simp)]) (-1) trivial
  have hA' : loopF (m_L01_BylawKnown_L2 a l) ((-1), 0) = _ := hA
  rw [hA', runL_foldl]
theorem vF_now {b : TBylaw} (c n k : Int) : vF ⟨b.Versions.filter (fun v => decide (counts v k)), b.Streets⟩ c n k = vF b c n k := by
  unfold vF
  have key : ∀ (l : List TVersion) (o : TVersion), (l.filter fun v => decide (counts v k)).foldl (stepV c n k) o = l.foldl (stepV c n k) o := by
    intro l
    induction l with
    | nil => intro o; rfl
    | cons v l ih =>
      intro o
      by_cases h : counts v k
      · rw [List.filter_cons_of_pos (by simpa using h), List.foldl_cons, List.foldl_cons, ih]
      · rw [List.filter_cons_of_neg (by simpa using h), List.foldl_cons, ih]
        congr 1
        unfold stepV
        rw [if_neg (fun q => h q.2.2.1)]
  exact key _ _
theorem vF_same {b : TBylaw} {c n k m : Int} (h : ∀ v, v ∈ b.Versions → (counts v k ↔ counts v m)) : vF b c n k = vF b c n m := by
  unfold vF
  have key : ∀ (l : List TVersion) (o : TVersion), (∀ v, v ∈ l → (counts v k ↔ counts v m)) → l.foldl (stepV c n k) o = l.foldl (stepV c n m) o := by
    intro l
    induction l with
    | nil => intro o _; rfl
    | cons v l ih =>
      intro o h
      rw [List.foldl_cons, List.foldl_cons, ih _ (fun v hv => h v (List.mem_cons_of_mem _ hv))]
      congr 1
      unfold stepV
      rw [h v (List.mem_cons_self ..)]
  exact key _ _ h
theorem vF_none {b : TBylaw} {c n k : Int} (h : ∀ v, v ∈ b.Versions → ¬ counts v k) : vF b c n k = zeroV := by
  unfold vF
  have key : ∀ (l : List TVersion) (o : TVersion), (∀ v, v ∈ l → ¬ counts v k) → l.foldl (stepV c n k) o = o := by
    intro l
    induction l with
    | nil => intro o _; rfl
    | cons v l ih =>
      intro o h
      rw [List.foldl_cons, ih _ (fun v hv => h v (List.mem_cons_of_mem _ hv))]
      unfold stepV
      rw [if_neg (fun q => h v (List.mem_cons_self ..) q.2.2.1)]
  exact key _ _ h
theorem pl_BylawKnown (b : TBylaw) (n : TNight) (a : TAsk) (h0 : TBylaw.G b) (_ : TNight.G n) (_ : TAsk.G a) : m_L01_BylawKnown b n a = some true := by
  have h1 : b.Versions.length ≤ 9223372036854775807 := h0.1.2.1
  have h2 : b.Streets.length ≤ 9223372036854775807 := h0.2.2.1
  unfold m_L01_BylawKnown
  rw [rCheck_eq b h1 h2, Option.bind_some]
  by_cases hb : VBylaw b
  rotate_left
  · rw [if_neg hb, if_pos (by decide), pl_sane, Option.bind_some]
  rw [if_pos hb, if_neg (by decide), rCheckNight_eq, Option.bind_some]
  by_cases hn : VNight n
  rotate_left
  · rw [if_neg hn, if_pos (by decide), pl_sane, Option.bind_some]
  rw [if_pos hn, if_neg (by decide), IsNight_eq, Option.bind_some]
  by_cases hk : 0 ≤ a.Known ∧ a.Known ≤ 100000
  rotate_left
  · rw [if_pos (by simp only [decide_eq_false hk, Bool.not_false]), pl_sane, Option.bind_some]
  rw [if_neg (by simp only [decide_eq_true hk, Bool.not_true, Bool.false_eq_true, not_false_eq_true]), now_loop hb, Option.bind_some]
  try dsimp only
  rw [Dates_eq b h1 h2, if_pos hb, Option.bind_some]
  try dsimp only
  have hln := dates_len hb
  rw [if_neg (by decide), last_loop a _ (by omega), Option.bind_some]
  try dsimp only
  have hf : VBylaw ⟨b.Versions.filter (fun v => decide (counts v a.Known)), b.Streets⟩ := hb.filter _
  rw [Duty_eq b h1 h2, Option.bind_some]
  try dsimp only
  rw [Duty_eq ⟨b.Versions.filter (fun v => decide (counts v a.Known)), b.Streets⟩ (by have := hf.vlen; omega) h2, Option.bind_some]
  try dsimp only
  have hkk : ∀ k, (0 ≤ k ∧ k ≤ 100000) → kF b a.Lamp n k = askF b a.Lamp n.No k := fun k h => by unfold kF; rw [if_pos hb, if_pos hn, if_pos h]
  have e1 : DutyF ⟨b.Versions.filter (fun v => decide (counts v a.Known)), b.Streets⟩ a.Lamp n a.Known = DutyF b a.Lamp n a.Known := by
    have : kF ⟨b.Versions.filter (fun v => decide (counts v a.Known)), b.Streets⟩ a.Lamp n a.Known = kF b a.Lamp n a.Known := by
      rw [hkk _ hk]
      unfold kF
      rw [if_pos hf, if_pos hn, if_pos hk]
      unfold askF
      simp only [vF_now]
      rfl
    unfold DutyF
    rw [this]
  rw [e1, if_neg (by simp), if_neg (by simp)]
  have hD : ∀ d, d ∈ datesF b → 0 ≤ d ∧ d ≤ 100000 := fun d hd => by
    obtain ⟨v, hv, h⟩ := mem_dL.1 (mem_dates.1 hd)
    have vv := hb.vers v hv
    obtain ⟨_, _, _, _, _, _, _, q1, q2⟩ := vv
    rcases h with h | ⟨g, h⟩ <;> omega
  have hL := last_fold a.Known (datesF b) [] (-1) (by simpa using dates_lt b) (fun d hd => (hD d (by simpa using hd)).1) ⟨fun _ d hd => by simp at hd, fun h => by omega⟩
  rw [List.nil_append] at hL
  generalize (datesF b).foldl (fun z d => if d ≤ a.Known then d else z) (-1) = z at hL ⊢
  by_cases hz : z < 0
  · rw [if_pos (by simpa using hz)]
    have hv : ∀ v, v ∈ b.Versions → ¬ counts v a.Known := fun v hv hc => hL.no hz v.Known (mem_dates.2 (mem_dL.2 ⟨v, hv, .inl rfl⟩)) hc.1
    have e2 : (DutyF b a.Lamp n a.Known).2 = 14 ∨ (DutyF b a.Lamp n a.Known).2 = 15 := by
      unfold DutyF
      rw [hkk _ hk]
      unfold askF
      cases stF b a.Lamp with
      | none => exact .inr (by simp)
      | some s => simp only [vF_none hv, if_true]; exact .inl (by simp)
    rcases e2 with e2 | e2
    · rw [e2, if_pos (by decide), pl_sane, Option.bind_some]
    · rw [e2, if_neg (by decide), if_pos (by decide), pl_sane, Option.bind_some]
  · rw [if_neg (by simpa using hz), Duty_eq b h1 h2, Option.bind_some]
    try dsimp only
    obtain ⟨g1, g2, g3⟩ := hL.is (by omega)
    have hzb := hD z g1
    have hv : ∀ v, v ∈ b.Versions → (counts v a.Known ↔ counts v z) := fun v hv => by
      have m1 := g3 v.Known (mem_dates.2 (mem_dL.2 ⟨v, hv, .inl rfl⟩))
      constructor
      · rintro ⟨q1, q2⟩
        refine ⟨m1 q1, ?_⟩
        rcases q2 with q2 | q2
        · exact .inl q2
        · exact .inr (by omega)
      · rintro ⟨q1, q2⟩
        refine ⟨by omega, ?_⟩
        rcases q2 with q2 | q2
        · exact .inl q2
        · by_cases u0 : v.Until = 0
          · exact .inl u0
          · refine .inr ?_
            by_cases c : v.Until > a.Known
            · exact c
            · have := g3 v.Until (mem_dates.2 (mem_dL.2 ⟨v, hv, .inr ⟨u0, rfl⟩⟩)) (by omega)
              omega
    have e2 : DutyF b a.Lamp n z = DutyF b a.Lamp n a.Known := by
      have : kF b a.Lamp n z = kF b a.Lamp n a.Known := by
        rw [hkk _ hk, hkk _ hzb]
        unfold askF
        simp only [vF_same hv]
      unfold DutyF
      rw [this]
    rw [e2, if_pos (by simp), if_pos (by simp), pl_sane, Option.bind_some]
end Go.Proofs.Ytmkkedbfjpkgkaa
