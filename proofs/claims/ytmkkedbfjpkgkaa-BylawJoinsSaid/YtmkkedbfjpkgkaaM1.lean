/- What may be read at the types of the statement's parameters; plain facts. -/
import Derived.Test.YtmkkedbfjpkgkaaL1
set_option linter.unusedVariables false
set_option linter.unusedSimpArgs false
namespace Go.Proofs.Ytmkkedbfjpkgkaa
open Go Go.RowKit Go.Sx
def TRange.G (x : TRange) : Prop := InK .i64 x.Lo ∧ InK .i64 x.Hi
theorem op_27 : Opens Try.prog 27 TRange.c TRange.G :=
  (Opens.struct Try.underlying27 (OpensF.cons (s := 1) (Opens.int Try.underlying3) (OpensF.last (s := 1) (Opens.int Try.underlying3) rfl (by kernel_rfl) rfl) rfl (by kernel_rfl)) (by kernel_rfl)).iso (fun x => (⟨x.1, x.2⟩ : TRange)) (fun _ => rfl) (fun _ h => h)
def TVersion.G (x : TVersion) : Prop := InK .i64 x.Source ∧ InK .i64 x.Class ∧ InK .i64 x.From ∧ TRange.G x.On ∧ TRange.G x.Off ∧ InK .i64 x.Moon ∧ InK .i64 x.Fog ∧ InK .i64 x.Known ∧ InK .i64 x.Until
theorem op_82 : Opens Try.prog 82 TVersion.c TVersion.G :=
  (Opens.struct Try.underlying82 (OpensF.cons (s := 1) (Opens.int Try.underlying3) (OpensF.cons (s := 1) (Opens.int Try.underlying3) (OpensF.cons (s := 1) (Opens.int Try.underlying3) (OpensF.cons (s := 2) op_27 (OpensF.cons (s := 2) op_27 (OpensF.cons (s := 1) (Opens.int Try.underlying3) (OpensF.cons (s := 1) (Opens.int Try.underlying3) (OpensF.cons (s := 1) (Opens.int Try.underlying3) (OpensF.last (s := 1) (Opens.int Try.underlying3) rfl (by kernel_rfl) rfl) rfl (by kernel_rfl)) rfl (by kernel_rfl)) rfl (by kernel_rfl)) rfl (by kernel_rfl)) rfl (by kernel_rfl)) rfl (by kernel_rfl)) rfl (by kernel_rfl)) rfl (by kernel_rfl)) (by kernel_rfl)).iso (fun x => (⟨x.1, x.2.1, x.2.2.1, x.2.2.2.1, x.2.2.2.2.1, x.2.2.2.2.2.1, x.2.2.2.2.2.2.1, x.2.2.2.2.2.2.2.1, x.2.2.2.2.2.2.2.2⟩ : TVersion)) (fun _ => rfl) (fun _ h => h)
theorem op_22 : Opens Try.prog 22 (fun l : (List TVersion) => [.lst 11 l.length (l.flatMap TVersion.c)]) (fun l => (l.length * 88 ≤ reachBytes ∧ l.length ≤ maxLen ∧ ∀ y : TVersion, y ∈ l → TVersion.G y)) :=
  Opens.slice Try.underlying22 op_82 (by kernel_rfl) (by kernel_rfl) (fun _ => rfl) (fun _ => rfl) (by decide)
def TStreet.G (x : TStreet) : Prop := InK .i64 x.Id ∧ InK .i64 x.Class ∧ InK .i64 x.District ∧ InK .i64 x.First ∧ InK .i64 x.Many
theorem op_84 : Opens Try.prog 84 TStreet.c TStreet.G :=
  (Opens.struct Try.underlying84 (OpensF.cons (s := 1) (Opens.int Try.underlying3) (OpensF.cons (s := 1) (Opens.int Try.underlying3) (OpensF.cons (s := 1) (Opens.int Try.underlying3) (OpensF.cons (s := 1) (Opens.int Try.underlying3) (OpensF.last (s := 1) (Opens.int Try.underlying3) rfl (by kernel_rfl) rfl) rfl (by kernel_rfl)) rfl (by kernel_rfl)) rfl (by kernel_rfl)) rfl (by kernel_rfl)) (by kernel_rfl)).iso (fun x => (⟨x.1, x.2.1, x.2.2.1, x.2.2.2.1, x.2.2.2.2⟩ : TStreet)) (fun _ => rfl) (fun _ h => h)
theorem op_23 : Opens Try.prog 23 (fun l : (List TStreet) => [.lst 5 l.length (l.flatMap TStreet.c)]) (fun l => (l.length * 40 ≤ reachBytes ∧ l.length ≤ maxLen ∧ ∀ y : TStreet, y ∈ l → TStreet.G y)) :=
  Opens.slice Try.underlying23 op_84 (by kernel_rfl) (by kernel_rfl) (fun _ => rfl) (fun _ => rfl) (by decide)
def TBylaw.G (x : TBylaw) : Prop := (x.Versions.length * 88 ≤ reachBytes ∧ x.Versions.length ≤ maxLen ∧ ∀ y : TVersion, y ∈ x.Versions → TVersion.G y) ∧ (x.Streets.length * 40 ≤ reachBytes ∧ x.Streets.length ≤ maxLen ∧ ∀ y : TStreet, y ∈ x.Streets → TStreet.G y)
theorem op_25 : Opens Try.prog 25 TBylaw.c TBylaw.G :=
  (Opens.struct Try.underlying25 (OpensF.cons (s := 1) op_22 (OpensF.last (s := 1) op_23 rfl (by kernel_rfl) rfl) rfl (by kernel_rfl)) (by kernel_rfl)).iso (fun x => (⟨x.1, x.2⟩ : TBylaw)) (fun _ => rfl) (fun _ h => h)
theorem op_52 : Opens Try.prog 52 (fun (x : (Int × Int)) => [DI x.1, DI x.2]) (fun x : (Int × Int) => (InK .i64 x.1 ∧ InK .i64 x.2)) :=
  (Opens.arr Try.underlying52 (OpensA.cons (s := 1) (Opens.int Try.underlying3) (OpensA.last (s := 1) (Opens.int Try.underlying3) rfl (by kernel_rfl) rfl) rfl (by kernel_rfl)) (by kernel_rfl)).iso (fun x => x) (fun _ => rfl) (fun _ h => h)
end Go.Proofs.Ytmkkedbfjpkgkaa
namespace Go.Proofs.Ytmkkedbfjpkgkaa
open Go Go.Sx
theorem W_id {z : Int} (h : -9223372036854775808 ≤ z ∧ z ≤ 9223372036854775807) : W z = z := wrap_id h
theorem W_s {k : Nat} (h : k < 9223372036854775807) : W ((k : Int) + 1) = ((k + 1 : Nat) : Int) := wrap_s h
def runL {α σ R : Type} (f : σ → α → Sum σ R) : List α → σ → Sum σ R
  | [], s => .inl s
  | x :: l, s => match f s x with | .inl s' => runL f l s' | .inr r => .inr r
theorem runL_foldl {α σ R : Type} (f : σ → α → σ) (l : List α) (s : σ) : runL (R := R) (fun s x => .inl (f s x)) l s = .inl (l.foldl f s) := by
  induction l generalizing s with
  | nil => rfl
  | cons x l ih => exact ih (f s x)
theorem loop_list {α σ S E R : Type} {body : S → Option (Sum S E)} (l : List α) (hl : l.length ≤ 9223372036854775807) (enc : Nat → σ → S) (f : σ → α → Sum σ R) (out : R → E) (fin : σ → E) (P : List α → σ → Prop)
    (h : ∀ pre x post s, l = pre ++ x :: post → P pre s → body (enc pre.length s) = some (match f s x with | .inl s' => .inl (enc (pre.length + 1) s') | .inr r => .inr (out r)) ∧ ∀ s', f s x = .inl s' → P (pre ++ [x]) s')
    (he : ∀ s, P l s → body (enc l.length s) = some (.inr (fin s))) (s0 : σ) (h0 : P [] s0) :
    loopF body (enc 0 s0) = some (match runL f l s0 with | .inl s => fin s | .inr r => out r) := by
  have key : ∀ (post pre : List α) (s : σ) (n : Nat), l = pre ++ post → P pre s → post.length < n → loopO body n (enc pre.length s) = some (match runL f post s with | .inl s => fin s | .inr r => out r) := by
    intro post
    induction post with
    | nil =>
      intro pre s n hp hs hn
      cases n with
      | zero => omega
      | succ n =>
        simp only [List.append_nil] at hp
        subst hp
        simp only [loopO, he s hs, runL]
    | cons x post ih =>
      intro pre s n hp hs hn
      cases n with
      | zero => omega
      | succ n =>
        obtain ⟨h1, h2⟩ := h pre x post s hp hs
        simp only [loopO, h1, runL]
        cases hf : f s x with
        | inl s' =>
          have := ih (pre ++ [x]) s' n (by simp [hp]) (h2 s' hf) (by simp at hn; omega)
          simpa using this
        | inr r => rfl
  exact key l [] s0 FUEL rfl h0 (by unfold FUEL; omega)
theorem idx_pre {α : Type} {pre post : List α} {x : α} : idx (pre ++ x :: post) (pre.length : Int) = some x := by
  unfold idx; simp
theorem lt_pre {α : Type} {pre post : List α} {x : α} : ((pre.length : Int) < ((pre ++ x :: post).length : Int)) := by simp; omega
end Go.Proofs.Ytmkkedbfjpkgkaa
namespace Go.Proofs.Ytmkkedbfjpkgkaa
open Go Go.Sx
theorem in_eq (n lo hi : Int) : m_bylaw_in n lo hi = some (decide (lo ≤ n ∧ n ≤ hi)) := by
  unfold m_bylaw_in; by_cases h : lo ≤ n <;> simp [h]
theorem Within_eq (n lo hi : Int) : m_R01_Within n lo hi = some (decide (lo ≤ n ∧ n ≤ hi)) := in_eq n lo hi
theorem isNight_eq (n : Int) : m_bylaw_isNight n = some (decide (0 ≤ n ∧ n ≤ 100000)) := by unfold m_bylaw_isNight; rw [in_eq]; rfl
theorem IsNight_eq (n : Int) : m_R01_IsNight n = some (decide (0 ≤ n ∧ n ≤ 100000)) := by unfold m_R01_IsNight; rw [Within_eq]; rfl
theorem isRange_eq (r : TRange) (hi : Int) : m_bylaw_isRange r hi = some (decide (0 ≤ r.Lo ∧ r.Lo ≤ r.Hi ∧ r.Hi ≤ hi)) := by
  unfold m_bylaw_isRange; by_cases h : 0 ≤ r.Lo <;> by_cases h1 : r.Lo ≤ r.Hi <;> simp [h, h1]
theorem IsRange_eq (r : TRange) (lo hi : Int) : m_R01_IsRange r lo hi = some (decide (lo ≤ r.Lo ∧ r.Lo ≤ r.Hi ∧ r.Hi ≤ hi)) := by
  unfold m_R01_IsRange; by_cases h : lo ≤ r.Lo <;> by_cases h1 : r.Lo ≤ r.Hi <;> simp [h, h1]
theorem ite_not {α : Type} {p : Prop} [Decidable p] {a b : α} : (if (!decide p) = true then a else b) = if p then b else a := by by_cases h : p <;> simp [h]
theorem ite_and {α : Type} {p q : Prop} [Decidable p] [Decidable q] {a b : α} : (if p then (if q then a else b) else b) = if p ∧ q then a else b := by by_cases h : p <;> by_cases k : q <;> simp [h, k]
def VNight (n : TNight) : Prop := (0 ≤ n.No ∧ n.No ≤ 100000) ∧ (0 ≤ n.Set.Lo ∧ n.Set.Lo ≤ n.Set.Hi ∧ n.Set.Hi ≤ 1439) ∧ (0 ≤ n.Rise.Lo ∧ n.Rise.Lo ≤ n.Rise.Hi ∧ n.Rise.Hi ≤ 1439) ∧ n.Set.Hi ≤ n.Rise.Lo ∧ (0 ≤ n.Light.Lo ∧ n.Light.Lo ≤ n.Light.Hi ∧ n.Light.Hi ≤ 1000) ∧ (0 ≤ n.Fog ∧ n.Fog ≤ 2)
instance (n : TNight) : Decidable (VNight n) := by unfold VNight; exact inferInstance
theorem ite_gt {α : Type} {x y : Int} {a b : α} : (if decide (x > y) = true then a else b) = if x ≤ y then b else a := by by_cases h : x ≤ y <;> simp [h] <;> omega
def VVersion (v : TVersion) : Prop := (1 ≤ v.Source ∧ v.Source ≤ 99999) ∧ (1 ≤ v.Class ∧ v.Class ≤ 9) ∧ (0 ≤ v.From ∧ v.From ≤ 100000) ∧ (0 ≤ v.On.Lo ∧ v.On.Lo ≤ v.On.Hi ∧ v.On.Hi ≤ 600) ∧ (0 ≤ v.Off.Lo ∧ v.Off.Lo ≤ v.Off.Hi ∧ v.Off.Hi ≤ 600) ∧
  (0 ≤ v.Moon ∧ v.Moon ≤ 1001) ∧ (0 ≤ v.Fog ∧ v.Fog ≤ 600) ∧ (0 ≤ v.Known ∧ v.Known ≤ 100000) ∧ (v.Until = 0 ∨ (v.Known < v.Until ∧ v.Until ≤ 100000))
instance (v : TVersion) : Decidable (VVersion v) := by unfold VVersion; exact inferInstance
theorem CheckVersion_eq (v : TVersion) : m_bylaw_CheckVersion v = some (if VVersion v then 0 else 10) := by
  unfold m_bylaw_CheckVersion
  simp only [isNight_eq, isRange_eq, in_eq, Option.bind_some, ite_not]
  by_cases hk : 0 ≤ v.Known ∧ v.Known ≤ 100000
  · rw [W_id (by omega)]
    have e : ∀ {a b : Option Int}, (if (v.Until != 0) = true then (if v.Known + 1 ≤ v.Until ∧ v.Until ≤ 100000 then a else b) else a) = if (v.Until = 0 ∨ (v.Known < v.Until ∧ v.Until ≤ 100000)) then a else b := by
      intro a b
      by_cases h : v.Until = 0
      · simp [h]
      · simp only [bne_iff_ne, ne_eq, h, not_false_eq_true, if_true, false_or, Int.add_one_le_iff]
    simp only [e, ite_and]
    by_cases hv : VVersion v
    · rw [if_pos hv]; exact if_pos hv
    · rw [if_neg hv]; exact if_neg hv
  · have : ¬ VVersion v := fun h => hk h.2.2.2.2.2.2.2.1
    simp only [hk, this, if_false, ite_self]
theorem Lasts_eq (k u : Int) : m_R01_Lasts k u = some (decide ((0 ≤ k ∧ k ≤ 100000) ∧ (u = 0 ∨ (k < u ∧ u ≤ 100000)))) := by
  unfold m_R01_Lasts
  simp only [IsNight_eq, Option.bind_some]
  by_cases hk : 0 ≤ k ∧ k ≤ 100000
  · by_cases hu : u = 0
    · simp [hk, hu]
    · by_cases hl : k < u
      · have : 0 ≤ u := by omega
        simp [hk, hu, hl, this]
      · simp [hk, hu, hl]
  · simp only [hk, false_and, decide_false, Bool.false_eq_true, if_false]
theorem rCheckVersion_eq (v : TVersion) : m_R01_CheckVersion v = some (if VVersion v then 0 else 10) := by
  unfold m_R01_CheckVersion
  simp only [IsNight_eq, IsRange_eq, Within_eq, Lasts_eq, Option.bind_some, ite_not, ite_and]
  by_cases hv : VVersion v
  · rw [if_pos hv]; exact if_pos hv
  · rw [if_neg hv]; exact if_neg hv
def VStreet (s : TStreet) : Prop := (1 ≤ s.Id ∧ s.Id ≤ 99) ∧ (1 ≤ s.Class ∧ s.Class ≤ 9) ∧ (1 ≤ s.District ∧ s.District ≤ 9) ∧ (1 ≤ s.First ∧ s.First ≤ 999) ∧ (1 ≤ s.Many ∧ s.Many ≤ 200) ∧ s.First + s.Many - 1 ≤ 999
instance (s : TStreet) : Decidable (VStreet s) := by unfold VStreet; exact inferInstance
theorem CheckStreet_eq (s : TStreet) : m_bylaw_CheckStreet s = some (if VStreet s then 0 else 11) := by
  unfold m_bylaw_CheckStreet
  simp only [in_eq, Option.bind_some, ite_not]
  by_cases h : (1 ≤ s.First ∧ s.First ≤ 999) ∧ (1 ≤ s.Many ∧ s.Many ≤ 200)
  · rw [W_id (z := s.First + s.Many) (by omega), W_id (by omega)]
    simp only [ite_gt, ite_and]
    by_cases hv : VStreet s
    · rw [if_pos hv]; exact if_pos hv
    · rw [if_neg hv]; exact if_neg hv
  · have : ¬ VStreet s := fun k => h ⟨k.2.2.2.1, k.2.2.2.2.1⟩
    simp only [this, if_false]
    by_cases h1 : 1 ≤ s.First ∧ s.First ≤ 999
    · have h2 : ¬ (1 ≤ s.Many ∧ s.Many ≤ 200) := fun k => h ⟨h1, k⟩
      simp only [h1, h2, if_false, ite_self]
    · simp only [h1, if_false, ite_self]
theorem rCheckStreet_eq (s : TStreet) : m_R01_CheckStreet s = some (if VStreet s then 0 else 11) := by
  rw [← CheckStreet_eq]; rfl
def hasB (s : TStreet) (lamp : Int) : Bool := decide (s.First ≤ lamp ∧ lamp ≤ W (W (s.First + s.Many) - 1))
theorem has_eq (s : TStreet) (lamp : Int) : m_bylaw_has s lamp = some (hasB s lamp) := by unfold m_bylaw_has; rw [in_eq]; rfl
theorem VStreet.has {s : TStreet} (h : VStreet s) (lamp : Int) : hasB s lamp = decide (s.First ≤ lamp ∧ lamp < s.First + s.Many) := by
  obtain ⟨_, _, _, h1, h2, h3⟩ := h
  unfold hasB
  rw [W_id (z := s.First + s.Many) (by omega), W_id (by omega)]
  congr 2
  exact propext ⟨fun h => by omega, fun h => by omega⟩
end Go.Proofs.Ytmkkedbfjpkgkaa
namespace Go.Proofs.Ytmkkedbfjpkgkaa
open Go Go.Sx
open Classical
noncomputable def stepIf {α σ R : Type} (ok : σ → α → Prop) (nx : σ → α → σ) (c : R) (s : σ) (x : α) : Sum σ R := if ok s x then .inl (nx s x) else .inr c
theorem stepIf_pos {α σ R : Type} {ok : σ → α → Prop} {nx : σ → α → σ} {c : R} {s : σ} {x : α} (h : ok s x) : stepIf ok nx c s x = .inl (nx s x) := if_pos h
theorem stepIf_neg {α σ R : Type} {ok : σ → α → Prop} {nx : σ → α → σ} {c : R} {s : σ} {x : α} (h : ¬ ok s x) : stepIf ok nx c s x = .inr c := if_neg h
theorem runL_if {α σ R : Type} (ok : σ → α → Prop) (nx : σ → α → σ) (c : R) (l : List α) (s : σ) (Q : List α → σ → Prop) (h0 : ∀ s, Q [] s) (h : ∀ x l s, Q (x :: l) s ↔ ok s x ∧ Q l (nx s x)) :
    runL (stepIf ok nx c) l s = if Q l s then .inl (l.foldl nx s) else .inr c := by
  induction l generalizing s with
  | nil => rw [if_pos (h0 s)]; rfl
  | cons x l ih =>
    simp only [runL]
    by_cases hk : ok s x
    · rw [stepIf_pos hk]
      simp only
      rw [ih]
      by_cases hq : Q l (nx s x)
      · rw [if_pos hq, if_pos ((h x l s).2 ⟨hk, hq⟩)]; rfl
      · rw [if_neg hq, if_neg (fun hh => hq ((h x l s).1 hh).2)]
    · rw [stepIf_neg hk, if_neg (fun hh => hk ((h x l s).1 hh).1)]
def chain {α : Type} (V : α → Prop) (num : α → Int) : List α → Option Int → Prop
  | [], _ => True
  | x :: l, p => (V x ∧ ∀ q, p = some q → q < num x) ∧ chain V num l (some (num x))
theorem chain_iff {α : Type} (V : α → Prop) (num : α → Int) (l : List α) (p : Option Int) : chain V num l p ↔ (∀ x, x ∈ l → V x) ∧ l.Pairwise (fun a b => num a < num b) ∧ ∀ q, p = some q → ∀ x, x ∈ l → q < num x := by
  induction l generalizing p with
  | nil => simp [chain]
  | cons x l ih =>
    simp only [chain, ih, List.mem_cons, List.pairwise_cons, forall_eq_or_imp, Option.some.injEq, forall_eq']
    constructor
    · rintro ⟨⟨h1, h2⟩, h3, h4, h5⟩
      exact ⟨⟨h1, h3⟩, ⟨h5, h4⟩, fun q hq => ⟨h2 q hq, fun y hy => by have := h2 q hq; have := h5 y hy; omega⟩⟩
    · rintro ⟨⟨h1, h3⟩, ⟨h5, h4⟩, h2⟩
      exact ⟨⟨h1, fun q hq => (h2 q hq).1⟩, h3, h4, h5⟩
def numOf {α : Type} (num : α → Int) : List α → Option Int := fun pre => pre.getLast?.map num
theorem chain_loop {α E : Type} {body : Int → Option (Sum Int E)} {V : α → Prop} {num : α → Int} {l : List α} (hl : l.length ≤ 9223372036854775807) (c : E) (fin : E)
    (h : ∀ pre x post, l = pre ++ x :: post → body (pre.length : Int) = some (if V x ∧ ∀ q, numOf num pre = some q → q < num x then .inl ((pre.length + 1 : Nat) : Int) else .inr c))
    (he : body (l.length : Int) = some (.inr fin)) : loopF body 0 = some (if (∀ x, x ∈ l → V x) ∧ l.Pairwise (fun a b => num a < num b) then fin else c) := by
  have hr := loop_list (body := body) (R := E) l hl (fun k (_ : Option Int) => (k : Int)) (stepIf (fun s x => V x ∧ ∀ q, s = some q → q < num x) (fun _ x => some (num x)) c) id (fun _ => fin) (fun pre s => s = numOf num pre)
    (fun pre x post s hp hs => by
      subst hs
      rw [h pre x post hp]
      by_cases hk : V x ∧ ∀ q, numOf num pre = some q → q < num x
      · have e := stepIf_pos (ok := fun s x => V x ∧ ∀ q, s = some q → q < num x) (nx := fun _ x => some (num x)) (c := c) hk
        rw [if_pos hk, e]
        exact ⟨rfl, fun s' hs' => by cases hs'; simp [numOf]⟩
      · have e := stepIf_neg (ok := fun s x => V x ∧ ∀ q, s = some q → q < num x) (nx := fun _ x => some (num x)) (c := c) hk
        rw [if_neg hk, e]
        exact ⟨rfl, fun s' hs' => by cases hs'⟩) (fun s _ => he) none rfl
  have h0 : ((0 : Nat) : Int) = 0 := rfl
  rw [h0] at hr
  rw [hr, runL_if (fun s x => V x ∧ ∀ q, s = some q → q < num x) (fun _ x => some (num x)) c l none (fun l s => chain V num l s) (fun _ => trivial) (fun _ _ _ => Iff.rfl)]
  have hc := chain_iff V num l none
  by_cases hq : chain V num l none
  · rw [if_pos hq, if_pos ⟨(hc.1 hq).1, (hc.1 hq).2.1⟩]
  · rw [if_neg hq, if_neg (fun hh => hq (hc.2 ⟨hh.1, hh.2, by simp⟩))]; rfl
theorem ahead {α : Type} {num : α → Int} {pre post : List α} {x : α} (hl : (pre ++ x :: post).length ≤ 9223372036854775807) :
    (pre = [] ∧ numOf num pre = none ∧ decide ((pre.length : Int) > 0) = false) ∨ ∃ y, decide ((pre.length : Int) > 0) = true ∧ idx (pre ++ x :: post) (W ((pre.length : Int) - 1)) = some y ∧ numOf num pre = some (num y) := by
  rcases List.eq_nil_or_concat pre with rfl | ⟨r, y, rfl⟩
  · left; exact ⟨rfl, rfl, by simp⟩
  · right
    simp at hl
    refine ⟨y, by simp, ?_, by simp [numOf]⟩
    have : W (((r.concat y).length : Int) - 1) = (r.length : Int) := by
      rw [W_id (by simp; omega)]; simp
    rw [this]
    unfold idx
    simp
theorem gd_pos {α : Type} {p : Prop} [Decidable p] {k : Option α} (h : p) : gd p k = k := by unfold gd; rw [if_pos h]
theorem Wsucc {α : Type} {pre post : List α} {x : α} (hl : (pre ++ x :: post).length ≤ 9223372036854775807) : W ((pre.length : Int) + 1) = ((pre.length + 1 : Nat) : Int) := W_s (by simp at hl; omega)
theorem areVersions_eq (l : List TVersion) (most : Int) (hl : l.length ≤ 9223372036854775807) : m_bylaw_areAll_api_Version__bylaw_CheckVersion__bylaw_sourceOf l most = some (decide (((∀ x, x ∈ l → VVersion x) ∧ l.Pairwise (fun a b => a.Source < b.Source)) ∧ (l.length : Int) ≤ most)) := by
  unfold m_bylaw_areAll_api_Version__bylaw_CheckVersion__bylaw_sourceOf
  rw [chain_loop (V := VVersion) (num := TVersion.Source) (l := l) hl (.inr false) (.inl (l.length : Int)) ?_ ?_]
  · by_cases h : (∀ x, x ∈ l → VVersion x) ∧ l.Pairwise (fun a b => a.Source < b.Source)
    · rw [if_pos h]
      simp only [Option.bind_some]
      congr 1
      exact decide_eq_decide.2 ⟨fun k => ⟨h, k⟩, fun k => k.2⟩
    · rw [if_neg h]
      simp only [Option.bind_some]
      congr 1
      exact (decide_eq_false fun k => h k.1).symm
  · rintro pre x post rfl
    unfold m_bylaw_areAll_api_Version__bylaw_CheckVersion__bylaw_sourceOf_L1
    simp only [lt_pre, decide_true, if_true, idx_pre, Option.bind_some, CheckVersion_eq, m_bylaw_sourceOf]
    by_cases hv : VVersion x
    · rcases ahead (num := TVersion.Source) hl with ⟨h1, h2, h3⟩ | ⟨y, h1, h2, h3⟩
      · simp only [hv, if_true, h2, h3, Wsucc hl, bne_self_eq_false, Bool.false_eq_true, if_false]; simp
      · simp only [hv, if_true, h1, h2, h3, Option.bind_some, Wsucc hl, true_and, Option.some.injEq, forall_eq']
        by_cases hq : y.Source < x.Source
        · have : ¬ y.Source ≥ x.Source := by omega
          simp [hq, this]
        · have : y.Source ≥ x.Source := by omega
          simp [hq, this]
    · simp [hv]
  · unfold m_bylaw_areAll_api_Version__bylaw_CheckVersion__bylaw_sourceOf_L1
    simp
theorem areStreets_eq (l : List TStreet) (most : Int) (hl : l.length ≤ 9223372036854775807) : m_bylaw_areAll_api_Street__bylaw_CheckStreet__bylaw_idOf l most = some (decide (((∀ x, x ∈ l → VStreet x) ∧ l.Pairwise (fun a b => a.Id < b.Id)) ∧ (l.length : Int) ≤ most)) := by
  unfold m_bylaw_areAll_api_Street__bylaw_CheckStreet__bylaw_idOf
  rw [chain_loop (V := VStreet) (num := TStreet.Id) (l := l) hl (.inr false) (.inl (l.length : Int)) ?_ ?_]
  · by_cases h : (∀ x, x ∈ l → VStreet x) ∧ l.Pairwise (fun a b => a.Id < b.Id)
    · rw [if_pos h]
      simp only [Option.bind_some]
      congr 1
      exact decide_eq_decide.2 ⟨fun k => ⟨h, k⟩, fun k => k.2⟩
    · rw [if_neg h]
      simp only [Option.bind_some]
      congr 1
      exact (decide_eq_false fun k => h k.1).symm
  · rintro pre x post rfl
    unfold m_bylaw_areAll_api_Street__bylaw_CheckStreet__bylaw_idOf_L1
    simp only [lt_pre, decide_true, if_true, idx_pre, Option.bind_some, CheckStreet_eq, m_bylaw_idOf]
    by_cases hv : VStreet x
    · rcases ahead (num := TStreet.Id) hl with ⟨h1, h2, h3⟩ | ⟨y, h1, h2, h3⟩
      · simp only [hv, if_true, h2, h3, Wsucc hl, bne_self_eq_false, Bool.false_eq_true, if_false]; simp
      · simp only [hv, if_true, h1, h2, h3, Option.bind_some, Wsucc hl, true_and, Option.some.injEq, forall_eq']
        by_cases hq : y.Id < x.Id
        · have : ¬ y.Id ≥ x.Id := by omega
          simp [hq, this]
        · have : y.Id ≥ x.Id := by omega
          simp [hq, this]
    · simp [hv]
  · unfold m_bylaw_areAll_api_Street__bylaw_CheckStreet__bylaw_idOf_L1
    simp
theorem all_loop {α E : Type} {body : Int → Option (Sum Int E)} {V : α → Prop} {l : List α} (hl : l.length ≤ 9223372036854775807) (c : E) (fin : E)
    (h : ∀ pre x post, l = pre ++ x :: post → (∀ y, y ∈ pre → V y) → body (pre.length : Int) = some (if V x then .inl ((pre.length + 1 : Nat) : Int) else .inr c))
    (he : body (l.length : Int) = some (.inr fin)) : loopF body 0 = some (if ∀ x, x ∈ l → V x then fin else c) := by
  have hr := loop_list (body := body) (R := E) l hl (fun k (_ : Unit) => (k : Int)) (stepIf (fun _ x => V x) (fun s _ => s) c) id (fun _ => fin) (fun pre _ => ∀ y, y ∈ pre → V y)
    (fun pre x post s hp hpre => by
      rw [h pre x post hp hpre]
      by_cases hk : V x
      · have e := stepIf_pos (ok := fun _ x => V x) (nx := fun s _ => s) (c := c) (s := s) hk
        rw [if_pos hk, e]
        refine ⟨rfl, fun s' _ y hy => ?_⟩
        rcases List.mem_append.1 hy with h | h
        · exact hpre y h
        · simp at h; subst h; exact hk
      · have e := stepIf_neg (ok := fun _ x => V x) (nx := fun s _ => s) (c := c) (s := s) hk
        rw [if_neg hk, e]
        exact ⟨rfl, fun s' hs' => by cases hs'⟩) (fun s _ => he) () (by simp)
  have h0 : ((0 : Nat) : Int) = 0 := rfl
  rw [h0] at hr
  rw [hr, runL_if (fun _ x => V x) (fun s _ => s) c l () (fun l _ => ∀ x, x ∈ l → V x) (by simp) (by simp)]
  by_cases hq : ∀ x, x ∈ l → V x
  · rw [if_pos hq, if_pos hq]
  · rw [if_neg hq, if_neg hq]; rfl
def meets (s t : TStreet) : Prop := t.First < s.First + s.Many ∧ s.First < t.First + t.Many
structure VBylaw (b : TBylaw) : Prop where
  vers : ∀ v, v ∈ b.Versions → VVersion v
  vsort : b.Versions.Pairwise (fun a c => a.Source < c.Source)
  vlen : b.Versions.length ≤ 60
  sts : ∀ s, s ∈ b.Streets → VStreet s
  ssort : b.Streets.Pairwise (fun a c => a.Id < c.Id)
  slen : b.Streets.length ≤ 20
  apart : b.Streets.Pairwise (fun s t => ¬ meets s t)
theorem pair_cases {α : Type} {R : α → α → Prop} (l : List α) : l.Pairwise R ↔ ∀ pre x post, l = pre ++ x :: post → ∀ y, y ∈ pre → R y x := by
  constructor
  · rintro h pre x post rfl y hy
    exact (List.pairwise_append.1 h).2.2 y hy x (List.mem_cons_self ..)
  · intro h
    rw [List.pairwise_iff_getElem]
    intro i j hi hj hij
    exact h (l.take j) l[j] (l.drop (j + 1)) (by rw [← List.drop_eq_getElem_cons hj, List.take_append_drop]) _ (List.mem_take_iff_getElem.2 ⟨i, by omega, rfl⟩)
theorem Check_L4_eq (x : TStreet) (l : List TStreet) (hl : l.length ≤ 9223372036854775807) (hx : VStreet x) (hv : ∀ y, y ∈ l → VStreet y) : loopF (m_bylaw_Check_L4 x l) 0 = some (if ∀ y, y ∈ l → ¬ meets y x then .inl (l.length : Int) else .inr 13) := by
  refine Eq.trans (all_loop (V := fun y => ¬ meets y x) hl (.inr 13) (.inl (l.length : Int)) ?_ ?_) (by congr)
  · rintro pre y post rfl _
    unfold m_bylaw_Check_L4
    have hy := hv y (by simp)
    simp only [lt_pre, decide_true, if_true, idx_pre, Option.bind_some, has_eq, hx.has, hy.has, Wsucc hl]
    have hxm := hx.2.2.2.2.1
    have hym := hy.2.2.2.2.1
    unfold meets
    by_cases h1 : x.First ≤ y.First ∧ y.First < x.First + x.Many
    · have : (x.First < y.First + y.Many ∧ y.First < x.First + x.Many) := by omega
      simp [h1, this]
    · by_cases h2 : y.First ≤ x.First ∧ x.First < y.First + y.Many
      · have : (x.First < y.First + y.Many ∧ y.First < x.First + x.Many) := by omega
        simp [h1, h2, this]
      · have : ¬ (x.First < y.First + y.Many ∧ y.First < x.First + x.Many) := by omega
        simp only [h1, h2, this, decide_false, Bool.false_eq_true, if_false, not_false_eq_true, if_true]
  · unfold m_bylaw_Check_L4; simp
theorem Check_eq (b : TBylaw) (h1 : b.Versions.length ≤ 9223372036854775807) (h2 : b.Streets.length ≤ 9223372036854775807) : m_bylaw_Check b = some (if VBylaw b then 0 else 13) := by
  unfold m_bylaw_Check
  rw [areVersions_eq _ _ h1, areStreets_eq _ _ h2]
  simp only [Option.bind_some, ite_not]
  by_cases ha : ((∀ x, x ∈ b.Versions → VVersion x) ∧ b.Versions.Pairwise (fun a b => a.Source < b.Source)) ∧ (b.Versions.length : Int) ≤ 60
  · by_cases hb : ((∀ x, x ∈ b.Streets → VStreet x) ∧ b.Streets.Pairwise (fun a b => a.Id < b.Id)) ∧ (b.Streets.length : Int) ≤ 20
    · rw [if_pos ha, if_pos hb]
      have hloop : loopF (m_bylaw_Check_L3 b) 0 = some (if b.Streets.Pairwise (fun s t => ¬ meets s t) then .inl (b.Streets.length : Int) else .inr 13) := by
        have hr := loop_list (body := m_bylaw_Check_L3 b) (R := Unit) b.Streets h2 (fun k (_ : Unit) => (k : Int)) (stepIf (fun _ x => ∀ pre post, b.Streets = pre ++ x :: post → ∀ y, y ∈ pre → ¬ meets y x) (fun s _ => s) ()) (fun _ => .inr 13) (fun _ => .inl (b.Streets.length : Int)) (fun _ _ => True)
          (fun pre x post s hp _ => by
            refine ⟨?_, fun _ _ => trivial⟩
            have hnd : b.Streets.Pairwise (fun a b => a ≠ b) := hb.1.2.imp fun h e => by subst e; omega
            have hu : ∀ pre' post', b.Streets = pre' ++ x :: post' → pre' = pre := by
              intro pre' post' hp'
              have hd : (pre ++ x :: post).Nodup := by rw [← hp]; exact hnd
              rw [hp] at hp'
              have hlen : pre'.length = pre.length := by
                have hx1 : (pre ++ x :: post)[pre.length]? = some x := by simp
                have hx2 : (pre ++ x :: post)[pre'.length]? = some x := by rw [hp']; simp
                have hlt1 : pre.length < (pre ++ x :: post).length := by simp
                exact ((List.getElem?_inj hlt1 hd).1 (by rw [hx1, hx2])).symm
              exact (List.append_inj hp'.symm (by omega)).1
            have hcond : (∀ pre' post', b.Streets = pre' ++ x :: post' → ∀ y, y ∈ pre' → ¬ meets y x) ↔ ∀ y, y ∈ pre → ¬ meets y x := ⟨fun h => h pre post hp, fun h pre' post' hp' => by rw [hu pre' post' hp']; exact h⟩
            have hsub : sub b.Streets 0 ((pre.length : Int)).toNat = pre := by rw [hp]; simp [sub]
            unfold m_bylaw_Check_L3
            have hidx : idx b.Streets (pre.length : Int) = some x := by rw [hp]; exact idx_pre
            have hlt : (pre.length : Int) < (b.Streets.length : Int) := by rw [hp]; exact lt_pre
            have hg : 0 ≤ (pre.length : Int) ∧ (pre.length : Int) ≤ (b.Streets.length : Int) := by omega
            simp only [hlt, decide_true, if_true, hidx, Option.bind_some, gd_pos hg, hsub]
            rw [Check_L4_eq x pre (by omega) (hb.1.1 x (by rw [hp]; simp)) (fun y hy => hb.1.1 y (by rw [hp]; simp [hy]))]
            have hw : W ((pre.length : Int) + 1) = ((pre.length + 1 : Nat) : Int) := W_s (by omega)
            by_cases hk : ∀ y, y ∈ pre → ¬ meets y x
            · have e := stepIf_pos (ok := fun _ x => ∀ pre post, b.Streets = pre ++ x :: post → ∀ y, y ∈ pre → ¬ meets y x) (nx := fun s _ => s) (c := ()) (s := s) (hcond.2 hk)
              rw [if_pos hk, e]; simp [hw]
            · have e := stepIf_neg (ok := fun _ x => ∀ pre post, b.Streets = pre ++ x :: post → ∀ y, y ∈ pre → ¬ meets y x) (nx := fun s _ => s) (c := ()) (s := s) (fun h => hk (hcond.1 h))
              rw [if_neg hk, e]; rfl) (fun s _ => by unfold m_bylaw_Check_L3; simp) () trivial
        have h0 : ((0 : Nat) : Int) = 0 := rfl
        rw [h0] at hr
        rw [hr, runL_if (fun _ x => ∀ pre post, b.Streets = pre ++ x :: post → ∀ y, y ∈ pre → ¬ meets y x) (fun s _ => s) () b.Streets () (fun l _ => ∀ x, x ∈ l → ∀ pre post, b.Streets = pre ++ x :: post → ∀ y, y ∈ pre → ¬ meets y x) (by simp) (fun x l s => by simp only [List.mem_cons, forall_eq_or_imp])]
        have hiff : (∀ x, x ∈ b.Streets → ∀ pre post, b.Streets = pre ++ x :: post → ∀ y, y ∈ pre → ¬ meets y x) ↔ b.Streets.Pairwise (fun s t => ¬ meets s t) := by
          rw [pair_cases]
          exact ⟨fun h pre x post hp y hy => h x (by rw [hp]; simp) pre post hp y hy, fun h x _ pre post hp y hy => h pre x post hp y hy⟩
        by_cases hk : b.Streets.Pairwise (fun s t => ¬ meets s t)
        · rw [if_pos hk, if_pos (hiff.2 hk)]
        · rw [if_neg hk, if_neg (fun h => hk (hiff.1 h))]
      rw [hloop]
      by_cases hk : b.Streets.Pairwise (fun s t => ¬ meets s t)
      · have : VBylaw b := ⟨ha.1.1, ha.1.2, by omega, hb.1.1, hb.1.2, by omega, hk⟩
        rw [if_pos hk, if_pos this]; rfl
      · have : ¬ VBylaw b := fun h => hk h.apart
        rw [if_neg hk, if_neg this]; rfl
    · have : ¬ VBylaw b := fun h => hb ⟨⟨h.sts, h.ssort⟩, by have := h.slen; omega⟩
      rw [if_pos ha, if_neg hb, if_neg this]
  · have : ¬ VBylaw b := fun h => ha ⟨⟨h.vers, h.vsort⟩, by have := h.vlen; omega⟩
    rw [if_neg ha, if_neg this]
end Go.Proofs.Ytmkkedbfjpkgkaa
namespace Go.Proofs.Ytmkkedbfjpkgkaa
open Go Go.Sx
open Classical
theorem pre_loop {α E : Type} {body : Int → Option (Sum Int E)} {ok : List α → α → Prop} {l : List α} (hl : l.length ≤ 9223372036854775807) (c : E) (fin : E)
    (h : ∀ pre x post, l = pre ++ x :: post → (∀ p y q, pre = p ++ y :: q → ok p y) → body (pre.length : Int) = some (if ok pre x then .inl ((pre.length + 1 : Nat) : Int) else .inr c))
    (he : body (l.length : Int) = some (.inr fin)) : loopF body 0 = some (if ∀ pre x post, l = pre ++ x :: post → ok pre x then fin else c) := by
  have hr := loop_list (body := body) (R := E) l hl (fun k (_ : List α) => (k : Int)) (stepIf ok (fun s x => s ++ [x]) c) id (fun _ => fin) (fun pre s => s = pre ∧ ∀ p y q, pre = p ++ y :: q → ok p y)
    (fun pre x post s hp hpre => by
      obtain ⟨rfl, hpre⟩ := hpre
      rw [h s x post hp hpre]
      by_cases hk : ok s x
      · rw [if_pos hk, stepIf_pos hk]
        refine ⟨rfl, fun s' hs' => ?_⟩
        cases hs'
        refine ⟨rfl, fun p y q hpq => ?_⟩
        rcases List.eq_nil_or_concat q with rfl | ⟨r, z, rfl⟩
        · have := List.append_inj' hpq rfl
          obtain ⟨h1, h2⟩ := this
          cases h2; subst h1; exact hk
        · have e : s ++ [x] = (p ++ y :: r) ++ [z] := by rw [hpq]; simp
          exact hpre p y r (List.append_inj' e rfl).1
      · rw [if_neg hk, stepIf_neg hk]
        exact ⟨rfl, fun s' hs' => by cases hs'⟩) (fun s _ => he) [] ⟨rfl, fun p y q h => by simp at h⟩
  have h0 : ((0 : Nat) : Int) = 0 := rfl
  rw [h0] at hr
  rw [hr, runL_if ok (fun s x => s ++ [x]) c l [] (fun l s => ∀ pre x post, l = pre ++ x :: post → ok (s ++ pre) x) (fun s pre x post h => by simp at h) (fun x l s => ?_)]
  · by_cases hq : ∀ pre x post, l = pre ++ x :: post → ok pre x
    · rw [if_pos hq, if_pos (by simpa using hq)]
    · rw [if_neg hq, if_neg (by simpa using hq)]; rfl
  · constructor
    · intro h
      refine ⟨by simpa using h [] x l rfl, fun pre y post hp => ?_⟩
      have := h (x :: pre) y post (by simp [hp])
      simpa using this
    · rintro ⟨h1, h2⟩ pre y post hp
      cases pre with
      | nil => simp at hp; obtain ⟨rfl, rfl⟩ := hp; simpa using h1
      | cons z pre =>
        simp at hp
        obtain ⟨rfl, hp⟩ := hp
        have := h2 pre y post hp
        simpa using this
theorem rCheck_L6_eq (b : TBylaw) {pre post : List TStreet} {x : TStreet} (hp : b.Streets = pre ++ x :: post) (hl : b.Streets.length ≤ 9223372036854775807) (hx : VStreet x) (hv : ∀ y, y ∈ pre → VStreet y) : loopF (m_R01_Check_L6 b (pre.length : Int) x) 0 = some (if ∀ y, y ∈ pre → ¬ meets y x then .inl (pre.length : Int) else .inr 13) := by
  have hle : pre.length ≤ 9223372036854775807 := by rw [hp] at hl; simp at hl; omega
  refine Eq.trans (all_loop (V := fun y => ¬ meets y x) hle (.inr 13) (.inl (pre.length : Int)) ?_ ?_) (by congr)
  · rintro p y q rfl _
    unfold m_R01_Check_L6 m_R01_meet
    have hy := hv y (by simp)
    have hidx : idx b.Streets (p.length : Int) = some y := by rw [hp, List.append_assoc]; exact idx_pre
    have hxm := hx.2.2.2.1
    have hym := hy.2.2.2.1
    have hx2 := hx.2.2.2.2.1
    have hy2 := hy.2.2.2.2.1
    simp only [lt_pre, decide_true, if_true, hidx, Option.bind_some, Wsucc hle]
    rw [W_id (z := x.First + x.Many) (by omega), W_id (z := y.First + y.Many) (by omega)]
    unfold meets
    by_cases h1 : y.First < x.First + x.Many
    · by_cases h2 : x.First < y.First + y.Many
      · simp [h1, h2]
      · simp [h1, h2]
    · simp [h1]
  · unfold m_R01_Check_L6; simp
theorem rCheck_eq (b : TBylaw) (h1 : b.Versions.length ≤ 9223372036854775807) (h2 : b.Streets.length ≤ 9223372036854775807) : m_R01_Check b = some (if VBylaw b then 0 else 13) := by
  unfold m_R01_Check
  by_cases g1 : (b.Versions.length : Int) > 60
  · have : ¬ VBylaw b := fun h => by have := h.vlen; omega
    simp [g1, this]
  by_cases g2 : (b.Streets.length : Int) > 20
  · have : ¬ VBylaw b := fun h => by have := h.slen; omega
    simp [g1, g2, this]
  simp only [g1, g2, decide_false, Bool.false_eq_true, if_false]
  have l1 : loopF (m_R01_Check_L1 b) 0 = some (if (∀ x, x ∈ b.Versions → VVersion x) ∧ b.Versions.Pairwise (fun a b => a.Source < b.Source) then .inl (b.Versions.length : Int) else .inr 13) := by
    refine Eq.trans (chain_loop (V := VVersion) (num := TVersion.Source) h1 (.inr 13) (.inl (b.Versions.length : Int)) ?_ ?_) (by congr)
    · intro pre x post hp
      have hl : (pre ++ x :: post).length ≤ 9223372036854775807 := by rw [← hp]; exact h1
      unfold m_R01_Check_L1
      rw [hp]
      simp only [lt_pre, decide_true, if_true, idx_pre, Option.bind_some, rCheckVersion_eq]
      by_cases hv : VVersion x
      · rcases ahead (num := TVersion.Source) hl with ⟨h1, h2, h3⟩ | ⟨y, h1, h2, h3⟩
        · simp only [hv, if_true, h2, h3, Wsucc hl, bne_self_eq_false, Bool.false_eq_true, if_false]; simp
        · simp only [hv, if_true, h1, h2, h3, Option.bind_some, Wsucc hl, true_and, Option.some.injEq, forall_eq']
          by_cases hq : y.Source < x.Source
          · have : ¬ y.Source ≥ x.Source := by omega
            simp [hq, this]
          · have : y.Source ≥ x.Source := by omega
            simp [hq, this]
      · simp [hv]
    · unfold m_R01_Check_L1; simp
  rw [l1]
  by_cases ha : (∀ x, x ∈ b.Versions → VVersion x) ∧ b.Versions.Pairwise (fun a b => a.Source < b.Source)
  · rw [if_pos ha]
    simp only [Option.bind_some]
    have l5 := pre_loop (body := m_R01_Check_L5 b) (ok := fun pre x => (VStreet x ∧ ∀ q, numOf TStreet.Id pre = some q → q < x.Id) ∧ ∀ y, y ∈ pre → ¬ meets y x) (l := b.Streets) h2 (.inr 13) (.inl (b.Streets.length : Int)) (by
      intro pre x post hp hpre
      have hl : (pre ++ x :: post).length ≤ 9223372036854775807 := by rw [← hp]; exact h2
      have hvp : ∀ y, y ∈ pre → VStreet y := fun y hy => by
        obtain ⟨p, q, rfl⟩ := List.append_of_mem hy
        exact (hpre p y q rfl).1.1
      have hidx : idx b.Streets (pre.length : Int) = some x := by rw [hp]; exact idx_pre
      have hlt : (pre.length : Int) < (b.Streets.length : Int) := by rw [hp]; exact lt_pre
      unfold m_R01_Check_L5
      simp only [hlt, decide_true, if_true, hidx, Option.bind_some, rCheckStreet_eq]
      by_cases hv : VStreet x
      · have l6 := rCheck_L6_eq b hp h2 hv hvp
        rcases ahead (num := TStreet.Id) hl with ⟨h1, h2, h3⟩ | ⟨y, h1, h2, h3⟩
        · simp only [hv, if_true, h2, h3, Wsucc hl, bne_self_eq_false, Bool.false_eq_true, if_false, l6, Option.bind_some]
          by_cases hm : ∀ y, y ∈ pre → ¬ meets y x
          · rw [if_pos hm, if_pos ⟨⟨trivial, by simp⟩, hm⟩]
          · rw [if_neg hm, if_neg (fun h => hm h.2)]
        · have h2' : idx b.Streets (W ((pre.length : Int) - 1)) = some y := by rw [hp]; exact h2
          simp only [hv, if_true, h1, h2', h3, Option.bind_some, Wsucc hl, true_and, Option.some.injEq, forall_eq', bne_self_eq_false, Bool.false_eq_true, if_false, l6]
          by_cases hq : y.Id < x.Id
          · have : ¬ y.Id ≥ x.Id := by omega
            simp only [hq, this, decide_false, Bool.false_eq_true, if_false, true_and]
            by_cases hm : ∀ y, y ∈ pre → ¬ meets y x
            · rw [if_pos hm, if_pos hm]
            · rw [if_neg hm, if_neg hm]
          · have : y.Id ≥ x.Id := by omega
            simp [hq, this]
      · simp [hv]) (by unfold m_R01_Check_L5; simp)
    rw [l5]
    have hiff : (∀ pre x post, b.Streets = pre ++ x :: post → (VStreet x ∧ ∀ q, numOf TStreet.Id pre = some q → q < x.Id) ∧ ∀ y, y ∈ pre → ¬ meets y x) ↔ VBylaw b := by
      constructor
      · intro h
        have hv : ∀ s, s ∈ b.Streets → VStreet s := fun s hs => by
          obtain ⟨p, q, hpq⟩ := List.append_of_mem hs
          exact (h p s q hpq).1.1
        have hch : ∀ (l p : List TStreet), b.Streets = p ++ l → chain VStreet TStreet.Id l (numOf TStreet.Id p) := by
          intro l
          induction l with
          | nil => intro p _; trivial
          | cons x l ih =>
            intro p hp
            refine ⟨(h p x l hp).1, ?_⟩
            have := ih (p ++ [x]) (by simp [hp])
            simpa [numOf] using this
        have hc := (chain_iff VStreet TStreet.Id b.Streets none).1 (hch b.Streets [] rfl)
        exact ⟨ha.1, ha.2, by omega, hv, hc.2.1, by omega, (pair_cases _).2 fun pre x post hp => (h pre x post hp).2⟩
      · intro h pre x post hp
        refine ⟨⟨h.sts x (by rw [hp]; simp), fun q hq => ?_⟩, fun y hy => (pair_cases _).1 h.apart pre x post hp y hy⟩
        simp only [numOf] at hq
        cases hg : pre.getLast? with
        | none => rw [hg] at hq; cases hq
        | some y =>
          rw [hg] at hq
          cases hq
          exact (pair_cases _).1 h.ssort pre x post hp y (List.mem_of_getLast? hg)
    by_cases hb : VBylaw b
    · rw [if_pos hb, if_pos (hiff.2 hb)]; rfl
    · rw [if_neg hb, if_neg (fun h => hb (hiff.1 h))]; rfl
  · have : ¬ VBylaw b := fun h => ha ⟨h.vers, h.vsort⟩
    rw [if_neg ha, if_neg this]; rfl
end Go.Proofs.Ytmkkedbfjpkgkaa
namespace Go.Proofs.Ytmkkedbfjpkgkaa
open Go Go.Sx
open Classical
def mx (x : Int) : Int := if 0 > x then 0 else x
end Go.Proofs.Ytmkkedbfjpkgkaa
namespace Go.Proofs.Ytmkkedbfjpkgkaa
open Go Go.Sx
open Classical
theorem Compare_eq (x y : Int) : m_cmp_Compare_int x y = some (if x < y then -1 else if x > y then 1 else 0) := by
  unfold m_cmp_Compare_int m_cmp_isNaN_int
  simp only [Option.bind_some, bne_self_eq_false, Bool.false_eq_true, if_false]
  by_cases h : x < y
  · simp [h]
  · by_cases h2 : x > y <;> simp [h, h2]
theorem search1_eq (x : TVersion) (n : Int) : m_bylaw_search_api_Version_1__bylaw_sourceOf x n = some (if x.Source < n then -1 else if x.Source > n then 1 else 0) := by
  unfold m_bylaw_search_api_Version_1__bylaw_sourceOf m_bylaw_sourceOf
  simp only [Option.bind_some, Compare_eq]
theorem u64_id {z : Int} (h : 0 ≤ z ∧ z ≤ 18446744073709551615) : IntKind.u64.wrap z = z := by
  simp only [IntKind.wrap, IntKind.signed, IntKind.bits]
  simp
  omega
theorem half (i j : Nat) (h : i + j ≤ 9223372036854775807) : W ((IntKind.u64.wrap (W ((i : Int) + (j : Int)))).fdiv (2 ^ (min (1 : Int).toNat IntKind.u64.bits))) = (((i + j) / 2 : Nat) : Int) := by
  have e : (2 : Int) ^ (min (1 : Int).toNat IntKind.u64.bits) = 2 := by decide
  rw [e, W_id (z := (i : Int) + j) (by omega), u64_id (by omega), Int.fdiv_eq_ediv_of_nonneg _ (by omega)]
  have e2 : ((i : Int) + j) / 2 = (((i + j) / 2 : Nat) : Int) := by simp
  rw [e2, W_id (by omega)]
theorem bs_eq (l : List TVersion) (hl : l.length ≤ 4611686018427387903) (hs : l.Pairwise (fun a c => a.Source < c.Source)) (t : Int) : ∃ i : Nat, m_bylaw_search_api_Version__bylaw_sourceOf l t = some ((i : Int), decide (∃ v, l[i]? = some v ∧ v.Source = t)) ∧ i ≤ l.length ∧ (∀ v, v ∈ l.take i → v.Source < t) ∧ (∀ v, v ∈ l.drop i → t ≤ v.Source) := by
  unfold m_bylaw_search_api_Version__bylaw_sourceOf m_slices_BinarySearchFunc_api_Version_api_Version_int__bylaw_search_api_Version_1_of_bylaw_sourceOf
  have hmono : ∀ (i j : Nat) (hi : i < l.length) (hj : j < l.length), i ≤ j → l[i].Source ≤ l[j].Source := by
    intro i j hi hj hij
    rcases Nat.lt_or_eq_of_le hij with h | h
    · have := List.pairwise_iff_getElem.1 hs i j hi hj h; omega
    · subst h; omega
  obtain ⟨e, h1, i, h2, h3, h4, h5⟩ := loop_rule (body := m_slices_BinarySearchFunc_api_Version_api_Version_int__bylaw_search_api_Version_1_of_bylaw_sourceOf_L1 l t) (fun st : Int × Int => ∃ i j : Nat, st = ((i : Int), (j : Int)) ∧ i ≤ j ∧ j ≤ l.length ∧ (∀ k (hk : k < l.length), k < i → l[k].Source < t) ∧ (∀ k (hk : k < l.length), j ≤ k → t ≤ l[k].Source))
    (fun st => (st.2 - st.1).toNat) (fun st => ∃ i : Nat, st = ((i : Int), (i : Int)) ∧ i ≤ l.length ∧ (∀ k (hk : k < l.length), k < i → l[k].Source < t) ∧ (∀ k (hk : k < l.length), i ≤ k → t ≤ l[k].Source)) (by
    rintro ⟨_, _⟩ ⟨i, j, he, hij, hj, ha, hb⟩
    cases he
    unfold m_slices_BinarySearchFunc_api_Version_api_Version_int__bylaw_search_api_Version_1_of_bylaw_sourceOf_L1
    by_cases hlt : i < j
    · right
      have c : (i : Int) < (j : Int) := by omega
      have hm : (i + j) / 2 < l.length := by omega
      simp only [c, decide_true, if_true, half i j (by omega), idx_n hm, Option.bind_some, search1_eq]
      by_cases hc : l[(i + j) / 2].Source < t
      · refine ⟨((((i + j) / 2 + 1 : Nat) : Int), (j : Int)), ?_, ⟨(i + j) / 2 + 1, j, rfl, by omega, hj, fun k hk hki => ?_, hb⟩, by simp only; omega⟩
        · simp only [hc, if_true, show decide ((-1 : Int) < 0) = true from rfl]
          rw [W_id (z := (((i + j) / 2 : Nat) : Int) + 1) (by omega)]; rfl
        · have := hmono k ((i + j) / 2) hk hm (by omega); omega
      · refine ⟨((i : Int), (((i + j) / 2 : Nat) : Int)), ?_, ⟨i, (i + j) / 2, rfl, by omega, by omega, ha, fun k hk hki => ?_⟩, by simp only; omega⟩
        · have : decide ((if l[(i + j) / 2].Source > t then (1 : Int) else 0) < 0) = false := by split <;> rfl
          simp only [hc, if_false, this, Bool.false_eq_true]
        · have := hmono ((i + j) / 2) k hm hk hki; omega
    · left
      have c : ¬ (i : Int) < (j : Int) := by omega
      obtain rfl : i = j := by omega
      exact ⟨_, by simp only [c, decide_false, Bool.false_eq_true, if_false], i, rfl, hj, ha, hb⟩) (0, (l.length : Int)) ⟨0, l.length, rfl, by omega, by omega, by omega, by omega⟩ (fuel_lt (by simp only; omega))
  subst h2
  rw [h1]
  have g1 : ∀ v, v ∈ l.take i → v.Source < t := fun v hv => by
    obtain ⟨k, hk, rfl⟩ := List.mem_take_iff_getElem.1 hv
    exact h4 k (by omega) (by omega)
  have g2 : ∀ v, v ∈ l.drop i → t ≤ v.Source := fun v hv => by
    obtain ⟨k, hk, rfl⟩ := List.mem_drop_iff_getElem.1 hv
    exact h5 _ _ (by omega)
  refine ⟨i, ?_, h3, g1, g2⟩
  by_cases hi : i < l.length
  · have c : (i : Int) < (l.length : Int) := by omega
    simp only [Option.bind_some, c, decide_true, if_true, idx_n hi, search1_eq]
    have hge := h5 i hi (Nat.le_refl _)
    congr 2
    rw [Bool.eq_iff_iff]
    simp only [beq_iff_eq, decide_eq_true_eq, List.getElem?_eq_getElem hi, Option.some.injEq, exists_eq_left']
    split
    · omega
    · split <;> omega
  · have c : ¬ (i : Int) < (l.length : Int) := by omega
    simp only [Option.bind_some, c, decide_false, Bool.false_eq_true, if_false]
    congr 2
    rw [eq_comm, decide_eq_false_iff_not]
    rintro ⟨v, hv, _⟩
    exact hi (List.getElem?_eq_some_iff.1 hv).1
theorem VBylaw.filter {b : TBylaw} (hb : VBylaw b) (p : TVersion → Bool) : VBylaw ⟨b.Versions.filter p, b.Streets⟩ :=
  ⟨fun v hv => hb.vers v (List.mem_filter.1 hv).1, hb.vsort.filter p, Nat.le_trans (List.length_filter_le _ _) hb.vlen, hb.sts, hb.ssort, hb.slen, hb.apart⟩
theorem Clone_eq {b : TBylaw} (hb : VBylaw b) : m_IN_bylaw_copied b = some (b.Versions, b.Streets) := by
  unfold m_IN_bylaw_copied m_slices_Clone_api_Version_api_Version m_slices_Clone_api_Street_api_Street
  have h1 := hb.vlen
  have h2 := hb.slen
  have g1 : b.Versions.length * 88 ≤ 140737488355328 ∧ b.Versions.length ≤ 9223372036854775807 := by omega
  have g2 : b.Streets.length * 40 ≤ 140737488355328 ∧ b.Streets.length ≤ 9223372036854775807 := by omega
  simp only [gd_pos g1, gd_pos g2, Option.bind_some]
end Go.Proofs.Ytmkkedbfjpkgkaa
namespace Go.Proofs.Ytmkkedbfjpkgkaa
open Go Go.Sx
open Classical
def truthOK (x : TTruth) : Prop := 0 ≤ x.Set ∧ x.Set ≤ x.Rise ∧ x.Rise ≤ 1439 ∧ (0 ≤ x.Light ∧ x.Light ≤ 1000)
def fogOK (n : TNight) (f : Bool) : Bool := match f with | true => n.Fog != 0 | false => n.Fog != 1
end Go.Proofs.Ytmkkedbfjpkgkaa
namespace Go.Proofs.Ytmkkedbfjpkgkaa
open Go Go.Sx
open Classical
theorem tmod_bd (n : Int) {m : Int} (hm : 0 < m) : -m < n.tmod m ∧ n.tmod m < m := by
  have h1 := Int.tmod_lt_of_pos n hm
  have h2 := Int.tmod_lt_of_pos (-n) hm
  rw [Int.neg_tmod] at h2
  omega
theorem Mod_ex (n : Int) {m : Int} (hm : 0 < m) (h2 : m ≤ 1000000) : ∃ r, m_R01_Mod n m = some r ∧ 0 ≤ r ∧ r < m := by
  unfold m_R01_Mod
  have h0 : m ≠ 0 := by omega
  have hb := tmod_bd n hm
  rw [gd_pos h0, gd_pos h0, W_id (by omega)]
  refine ⟨_, rfl, Int.tmod_nonneg m (by omega), Int.tmod_lt_of_pos _ hm⟩
structure Of (n : TNight) (x : TTruth) : Prop where
  s : n.Set.Lo ≤ x.Set ∧ x.Set ≤ n.Set.Hi
  r : n.Rise.Lo ≤ x.Rise ∧ x.Rise ≤ n.Rise.Hi
  l : n.Light.Lo ≤ x.Light ∧ x.Light ≤ n.Light.Hi
  f : fogOK n x.Fog = true
theorem Of.ok {n : TNight} (hn : VNight n) {x : TTruth} (h : Of n x) : truthOK x := by
  obtain ⟨_, h2, h3, h4, h5, _⟩ := hn
  obtain ⟨a, b, c, _⟩ := h
  unfold truthOK
  omega
end Go.Proofs.Ytmkkedbfjpkgkaa
namespace Go.Proofs.Ytmkkedbfjpkgkaa
open Go Go.Sx
open Classical
theorem ver_eq (a c : TVersion) : ((a.Source == c.Source) && ((a.Class == c.Class) && ((a.From == c.From) && ((a.On.Lo == c.On.Lo) && ((a.On.Hi == c.On.Hi) && ((a.Off.Lo == c.Off.Lo) && ((a.Off.Hi == c.Off.Hi) && ((a.Moon == c.Moon) && ((a.Fog == c.Fog) && ((a.Known == c.Known) && (a.Until == c.Until))))))))))) = decide (a = c) := by
  rw [Bool.eq_iff_iff]
  obtain ⟨s, k, f, ⟨o1, o2⟩, ⟨p1, p2⟩, m, g, kn, u⟩ := a
  obtain ⟨s', k', f', ⟨o1', o2'⟩, ⟨p1', p2'⟩, m', g', kn', u'⟩ := c
  simp only [Bool.and_eq_true, beq_iff_eq, decide_eq_true_eq, TVersion.mk.injEq, TRange.mk.injEq]
  constructor
  · rintro ⟨rfl, rfl, rfl, rfl, rfl, rfl, rfl, rfl, rfl, rfl, rfl⟩; simp
  · rintro ⟨rfl, rfl, rfl, ⟨rfl, rfl⟩, ⟨rfl, rfl⟩, rfl, rfl, rfl, rfl⟩; simp
def loL (t : Int) (l : List TVersion) : List TVersion := l.filter fun v => decide (v.Source < t)
def hiL (t : Int) (l : List TVersion) : List TVersion := l.filter fun v => decide (t < v.Source)
noncomputable def joinS (out : List TVersion) (e : TVersion) : Sum (List TVersion) Int :=
  if VVersion e then if ∃ x, x ∈ out ∧ x.Source = e.Source then if e ∈ out then .inl out else .inr 17 else .inl (loL e.Source out ++ e :: hiL e.Source out) else .inr 10
theorem joinS_bad {out : List TVersion} {e : TVersion} (h : ¬ VVersion e) : joinS out e = .inr 10 := if_neg h
theorem joinS_same {out : List TVersion} {e : TVersion} (h : VVersion e) (h2 : e ∈ out) : joinS out e = .inl out := by
  unfold joinS
  rw [if_pos h, if_pos ⟨e, h2, rfl⟩, if_pos h2]
theorem joinS_17 {out : List TVersion} {e : TVersion} (h : VVersion e) (h1 : ∃ x, x ∈ out ∧ x.Source = e.Source) (h2 : e ∉ out) : joinS out e = .inr 17 := by
  unfold joinS
  rw [if_pos h, if_pos h1, if_neg h2]
theorem joinS_new {out : List TVersion} {e : TVersion} (h : VVersion e) (h1 : ¬ ∃ x, x ∈ out ∧ x.Source = e.Source) : joinS out e = .inl (loL e.Source out ++ e :: hiL e.Source out) := by
  unfold joinS
  rw [if_pos h, if_neg h1]
theorem cut_at {out : List TVersion} {t : Int} {i : Nat} (ha : ∀ v, v ∈ out.take i → v.Source < t) (hb : ∀ v, v ∈ out.drop i → t ≤ v.Source) : out.take i = loL t out ∧ ((¬ ∃ x, x ∈ out ∧ x.Source = t) → out.drop i = hiL t out) := by
  have e : out = out.take i ++ out.drop i := (List.take_append_drop i out).symm
  constructor
  · rw [loL]
    conv => rhs; rw [e]
    rw [List.filter_append, List.filter_eq_self.2 (fun v hv => by simpa using ha v hv), List.filter_eq_nil_iff.2 (fun v hv => by have := hb v hv; simp; omega), List.append_nil]
  · intro hn
    rw [hiL]
    conv => rhs; rw [e]
    rw [List.filter_append, List.filter_eq_nil_iff.2 (fun v hv => by have := ha v hv; simp; omega), List.filter_eq_self.2 (fun v hv => by
      have h1 := hb v hv
      have h2 : v.Source ≠ t := fun h => hn ⟨v, List.mem_of_mem_drop hv, h⟩
      simp
      omega), List.nil_append]
theorem cut_has {out : List TVersion} {t : Int} {i : Nat} (hs : out.Pairwise (fun a c => a.Source < c.Source)) (ha : ∀ v, v ∈ out.take i → v.Source < t) (hb : ∀ v, v ∈ out.drop i → t ≤ v.Source) : (∃ v, out[i]? = some v ∧ v.Source = t) ↔ ∃ x, x ∈ out ∧ x.Source = t := by
  constructor
  · rintro ⟨v, h1, h2⟩
    exact ⟨v, List.mem_of_getElem? h1, h2⟩
  · rintro ⟨x, h1, h2⟩
    obtain ⟨k, hk, rfl⟩ := List.getElem_of_mem h1
    have h3 : ¬ k < i := fun h => by
      have := ha out[k] (List.mem_take_iff_getElem.2 ⟨k, by omega, rfl⟩)
      omega
    have h4 : i < out.length := by omega
    refine ⟨out[i], List.getElem?_eq_getElem h4, ?_⟩
    rcases Nat.lt_or_ge i k with h | h
    · have h5 := List.pairwise_iff_getElem.1 hs i k h4 hk h
      have h6 := hb out[i] (List.mem_drop_iff_getElem.2 ⟨0, by omega, by simp⟩)
      omega
    · obtain rfl : i = k := by omega
      exact h2
theorem mem_src {out : List TVersion} (hs : out.Pairwise (fun a c => a.Source < c.Source)) {x e : TVersion} (hx : x ∈ out) (h : x.Source = e.Source) : e ∈ out ↔ x = e := by
  constructor
  · intro he
    obtain ⟨i, hi, rfl⟩ := List.getElem_of_mem hx
    obtain ⟨j, hj, rfl⟩ := List.getElem_of_mem he
    rcases Nat.lt_trichotomy i j with h1 | h1 | h1
    · have := List.pairwise_iff_getElem.1 hs i j hi hj h1; omega
    · subst h1; rfl
    · have := List.pairwise_iff_getElem.1 hs j i hj hi h1; omega
  · rintro rfl; exact hx
theorem loL_mem {t : Int} {l : List TVersion} {v : TVersion} : v ∈ loL t l ↔ v ∈ l ∧ v.Source < t := by simp [loL]
theorem hiL_mem {t : Int} {l : List TVersion} {v : TVersion} : v ∈ hiL t l ↔ v ∈ l ∧ t < v.Source := by simp [hiL]
theorem lo_hi_len {t : Int} : ∀ (l : List TVersion), (loL t l).length + (hiL t l).length ≤ l.length
  | [] => by simp [loL, hiL]
  | v :: l => by
    have := lo_hi_len (t := t) l
    unfold loL hiL at *
    by_cases h1 : v.Source < t
    · have h2 : ¬ t < v.Source := by omega
      simp [h1, h2]; omega
    · by_cases h2 : t < v.Source
      · simp [h1, h2]; omega
      · simp [h1, h2]; omega
theorem joinS_sorted {out out' : List TVersion} {e : TVersion} (hs : out.Pairwise (fun a c => a.Source < c.Source)) (h : joinS out e = .inl out') : out'.Pairwise (fun a c => a.Source < c.Source) ∧ out'.length ≤ out.length + 1 ∧ VVersion e := by
  by_cases hv : VVersion e
  · by_cases h1 : ∃ x, x ∈ out ∧ x.Source = e.Source
    · by_cases h2 : e ∈ out
      · rw [joinS_same hv h2] at h; cases h; exact ⟨hs, by omega, hv⟩
      · rw [joinS_17 hv h1 h2] at h; cases h
    · rw [joinS_new hv h1] at h; cases h
      refine ⟨List.pairwise_append.2 ⟨hs.filter _, List.pairwise_cons.2 ⟨fun v hv => (hiL_mem.1 hv).2, hs.filter _⟩, ?_⟩, ?_, hv⟩
      · intro a ha c hc
        have h3 := (loL_mem.1 ha).2
        rcases List.mem_cons.1 hc with rfl | hc
        · exact h3
        · have := (hiL_mem.1 hc).2; omega
      · have := lo_hi_len (t := e.Source) out
        simp only [List.length_append, List.length_cons]
        omega
  · rw [joinS_bad hv] at h; cases h
theorem joinS_valid {out out' : List TVersion} {e : TVersion} (hv : ∀ v, v ∈ out → VVersion v) (h : joinS out e = .inl out') : ∀ v, v ∈ out' → VVersion v := by
  by_cases he : VVersion e
  · by_cases h1 : ∃ x, x ∈ out ∧ x.Source = e.Source
    · by_cases h2 : e ∈ out
      · rw [joinS_same he h2] at h; cases h; exact hv
      · rw [joinS_17 he h1 h2] at h; cases h
    · rw [joinS_new he h1] at h; cases h
      intro v hm
      rcases List.mem_append.1 hm with hm | hm
      · exact hv v (loL_mem.1 hm).1
      · rcases List.mem_cons.1 hm with rfl | hm
        · exact he
        · exact hv v (hiL_mem.1 hm).1
  · rw [joinS_bad he] at h; cases h
theorem len_src : ∀ (k : Nat) (l : List TVersion) (lo : Int), l.Pairwise (fun a c => a.Source < c.Source) → (∀ v, v ∈ l → lo < v.Source ∧ v.Source ≤ lo + k) → l.length ≤ k
  | k, [], _, _, _ => Nat.zero_le _
  | 0, x :: l, lo, _, h => by have := h x (List.mem_cons_self ..); omega
  | k + 1, x :: l, lo, hs, h => by
    obtain ⟨h1, h2⟩ := List.pairwise_cons.1 hs
    have hx := h x (List.mem_cons_self ..)
    have := len_src k l (lo + 1) h2 (fun v hv => by
      have a1 := h1 v hv
      have a2 := h v (List.mem_cons_of_mem _ hv)
      omega)
    simp only [List.length_cons]
    omega
theorem short {l : List TVersion} (hs : l.Pairwise (fun a c => a.Source < c.Source)) (hv : ∀ v, v ∈ l → VVersion v) : l.length ≤ 99999 := by
  refine len_src 99999 l 0 hs fun v h => ?_
  have := hv v h
  have h2 := this.1
  exact ⟨by omega, by omega⟩
theorem ins_one {out : List TVersion} {i : Nat} {x : TVersion} (hi : i ≤ out.length) (hl : out.length ≤ 1000000000060) : m_slices_Insert_api_Version_api_Version out (i : Int) [x] = some (out.take i ++ x :: out.drop i) := by
  unfold m_slices_Insert_api_Version_api_Version
  rw [gd_pos ⟨by omega, by simpa using hi⟩, if_neg (by simp)]
  by_cases h : i = out.length
  · subst h
    rw [if_pos (by simp), gd_pos ⟨by simp; omega, by simp; omega⟩]
    simp
  · rw [if_neg (by simp; omega), gd_pos ⟨by omega, by simp; omega, by simp, by simp; omega, by simp; omega⟩]
    simp
theorem idx_get {α : Type} {l : List α} {i : Nat} {y : α} (h : l[i]? = some y) : idx l (i : Int) = some y := by
  unfold idx
  simp [h]
theorem join_step {l pre post out : List TVersion} {x : TVersion} (hl : l = pre ++ x :: post) (hll : l.length ≤ 9223372036854775807) (hs : out.Pairwise (fun a c => a.Source < c.Source)) (ho : ∀ v, v ∈ out → VVersion v) :
    m_bylaw_Join_L1 l ((pre.length : Int), out) = some (match joinS out x with | .inl o => .inl (((pre.length + 1 : Nat) : Int), o) | .inr c => .inr (.inr (⟨[], []⟩, c))) := by
  subst hl
  have hsh := short hs ho
  have hlen : pre.length + 1 ≤ (pre ++ x :: post).length := by simp
  have hd : decide ((pre.length : Int) < ((pre ++ x :: post).length : Int)) = true := by simp; omega
  unfold m_bylaw_Join_L1
  dsimp only
  rw [if_pos hd, idx_pre, Option.bind_some, CheckVersion_eq, Option.bind_some]
  by_cases hv : VVersion x
  · rw [if_pos hv, if_neg (by decide)]
    obtain ⟨i, h1, h2, h3, h4⟩ := bs_eq out (by omega) hs x.Source
    rw [h1, Option.bind_some]
    dsimp only
    obtain ⟨c1, c2⟩ := cut_at h3 h4
    by_cases hf : ∃ y, y ∈ out ∧ y.Source = x.Source
    · obtain ⟨y, hy1, hy2⟩ := (cut_has hs h3 h4).2 hf
      have hm := mem_src hs (List.mem_of_getElem? hy1) hy2
      rw [decide_eq_true ⟨y, hy1, hy2⟩, if_pos rfl, idx_get hy1, Option.bind_some, Option.bind_some, ver_eq]
      by_cases hxy : y = x
      · rw [if_neg (by simp [hxy]), if_neg (by simp), joinS_same hv (hm.2 hxy), W_s (by omega)]
      · rw [if_pos (by simp [hxy]), joinS_17 hv hf (fun h => hxy (hm.1 h))]
    · rw [decide_eq_false (fun h => hf ((cut_has hs h3 h4).1 h)), if_neg (by simp), if_pos (by simp), ins_one h2 (by omega), Option.bind_some, W_s (by omega), joinS_new hv hf, c1, c2 hf]
  · rw [if_neg hv, if_pos (by decide), joinS_bad hv]
noncomputable def joinF (b : TBylaw) (l : List TVersion) : TBylaw × Int :=
  if VBylaw b then (match runL joinS l b.Versions with
    | .inl out => if out.length ≤ 60 then (⟨out, b.Streets⟩, 0) else (⟨[], []⟩, 2)
    | .inr c => (⟨[], []⟩, c)) else (⟨[], []⟩, 13)
theorem joinF_neg {b : TBylaw} {l : List TVersion} (h : ¬ VBylaw b) : joinF b l = (⟨[], []⟩, 13) := if_neg h
theorem Join_eq (b : TBylaw) (h1 : b.Versions.length ≤ 9223372036854775807) (h2 : b.Streets.length ≤ 9223372036854775807) (l : List TVersion) (hl : l.length ≤ 9223372036854775807) : m_bylaw_Join b l = some (joinF b l) := by
  unfold m_bylaw_Join
  rw [Check_eq b h1 h2, Option.bind_some]
  by_cases hb : VBylaw b
  · rw [if_pos hb, if_neg (by decide), Clone_eq hb, Option.bind_some]
    dsimp only
    have hloop := loop_list (body := m_bylaw_Join_L1 l) (S := Int × List TVersion) l (by omega) (fun n out => ((n : Int), out)) joinS (fun c => .inr (⟨[], []⟩, c)) (fun out => .inl ((l.length : Int), out))
      (fun _ out => out.Pairwise (fun a c => a.Source < c.Source) ∧ ∀ v, v ∈ out → VVersion v)
      (fun pre x post s he hP => ⟨join_step he hl hP.1 hP.2 |>.trans (by cases joinS s x <;> rfl), fun s' hs' => by
        exact ⟨(joinS_sorted hP.1 hs').1, joinS_valid hP.2 hs'⟩⟩)
      (fun s hP => by
        unfold m_bylaw_Join_L1
        dsimp only
        rw [if_neg (by simp)])
      b.Versions ⟨hb.vsort, hb.vers⟩
    have hloop' : loopF (m_bylaw_Join_L1 l) (0, b.Versions) = _ := hloop
    rw [hloop', Option.bind_some]
    unfold joinF
    rw [if_pos hb]
    cases runL joinS l b.Versions with
    | inl out =>
      dsimp only
      by_cases h6 : out.length ≤ 60
      · rw [if_pos h6, if_neg (by simp; omega)]
      · rw [if_neg h6, if_pos (by simp; omega)]
    | inr c => rfl
  · rw [if_neg hb, if_pos (by decide), joinF_neg hb]
theorem Add_eq (b : TBylaw) (h1 : b.Versions.length ≤ 9223372036854775807) (h2 : b.Streets.length ≤ 9223372036854775807) (v : TVersion) : m_bylaw_Add b v = some (joinF b [v]) := by
  unfold m_bylaw_Add
  rw [Join_eq b h1 h2 [v] (by simp), Option.bind_some]
end Go.Proofs.Ytmkkedbfjpkgkaa
namespace Go.Proofs.Ytmkkedbfjpkgkaa
open Go Go.Sx
open Classical
theorem Same_bylaw (b : TBylaw) (h1 : b.Versions.length ≤ 9223372036854775807) (h2 : b.Streets.length ≤ 9223372036854775807) : m_R01_SameBylaw b b = some true := by
  unfold m_R01_SameBylaw
  rw [if_neg (by simp), if_neg (by simp)]
  have hA := loop_list (body := m_R01_SameBylaw_L1 b b) (S := Int) b.Versions h1 (fun n (_ : Unit) => (n : Int)) (fun s _ => (.inl s : Sum Unit Bool)) (fun r => .inr r) (fun _ => .inl (b.Versions.length : Int)) (fun _ _ => True)
    (fun pre x post s he _ => ⟨by
      have hx : idx b.Versions (pre.length : Int) = some x := by rw [he]; exact idx_pre
      have hlen : b.Versions.length = pre.length + 1 + post.length := by rw [he]; simp; omega
      unfold m_R01_SameBylaw_L1
      rw [if_pos (by simp; omega), hx, Option.bind_some, Option.bind_some, if_neg (by simp), W_s (by omega)], fun _ _ => trivial⟩)
    (fun s _ => by
      unfold m_R01_SameBylaw_L1
      rw [if_neg (by simp)]) () trivial
  have hA' : loopF (m_R01_SameBylaw_L1 b b) 0 = _ := hA
  rw [runL_foldl (fun s _ => s)] at hA'
  rw [hA', Option.bind_some]
  have hB := loop_list (body := m_R01_SameBylaw_L2 b b) (S := Int) b.Streets h2 (fun n (_ : Unit) => (n : Int)) (fun s _ => (.inl s : Sum Unit Bool)) (fun r => .inr r) (fun _ => .inl (b.Streets.length : Int)) (fun _ _ => True)
    (fun pre x post s he _ => ⟨by
      have hx : idx b.Streets (pre.length : Int) = some x := by rw [he]; exact idx_pre
      have hlen : b.Streets.length = pre.length + 1 + post.length := by rw [he]; simp; omega
      unfold m_R01_SameBylaw_L2
      rw [if_pos (by simp; omega), hx, Option.bind_some, Option.bind_some, if_neg (by simp), W_s (by omega)], fun _ _ => trivial⟩)
    (fun s _ => by
      unfold m_R01_SameBylaw_L2
      rw [if_neg (by simp)]) () trivial
  have hB' : loopF (m_R01_SameBylaw_L2 b b) 0 = _ := hB
  rw [runL_foldl (fun s _ => s)] at hB'
  show (Option.bind (loopF (m_R01_SameBylaw_L2 b b) 0) _) = _
  rw [hB', Option.bind_some]
def geL (t : Int) (l : List TVersion) : List TVersion := l.filter fun v => decide (t ≤ v.Source)
theorem split_at {t : Int} : ∀ {l : List TVersion}, l.Pairwise (fun a c => a.Source < c.Source) → l = loL t l ++ geL t l
  | [], _ => by simp [loL, geL]
  | x :: l, h => by
    obtain ⟨h1, h2⟩ := List.pairwise_cons.1 h
    have ih := split_at (t := t) h2
    unfold loL geL at *
    by_cases hx : x.Source < t
    · rw [List.filter_cons_of_pos (by simpa using hx), List.filter_cons_of_neg (by simp; omega), List.cons_append, ← ih]
    · have hn : ∀ v, v ∈ l → ¬ (decide (v.Source < t) = true) := fun v hv => by have := h1 v hv; simp; omega
      have hp : ∀ v, v ∈ l → decide (t ≤ v.Source) = true := fun v hv => by have := h1 v hv; simp; omega
      rw [List.filter_cons_of_neg (by simpa using hx), List.filter_cons_of_pos (by simp; omega), List.filter_eq_nil_iff.2 hn, List.filter_eq_self.2 hp]
      rfl
def atF (t : Int) (k : Nat) (x : TVersion) : Sum Nat Nat := if x.Source < t then .inl (k + 1) else .inr k
theorem runL_at {t : Int} : ∀ (l : List TVersion) (k : Nat), l.Pairwise (fun a c => a.Source < c.Source) → (match runL (atF t) l k with | .inl s => s | .inr r => r) = k + (loL t l).length
  | [], k, _ => by simp [runL, loL]
  | x :: l, k, h => by
    obtain ⟨h1, h2⟩ := List.pairwise_cons.1 h
    by_cases hx : x.Source < t
    · have e : atF t k x = .inl (k + 1) := if_pos hx
      rw [runL, e]
      dsimp only
      rw [runL_at l (k + 1) h2]
      unfold loL
      rw [List.filter_cons_of_pos (by simpa using hx), List.length_cons]
      omega
    · have e : atF t k x = .inr k := if_neg hx
      rw [runL, e]
      have hn : ∀ v, v ∈ l → ¬ (decide (v.Source < t) = true) := fun v hv => by have := h1 v hv; simp; omega
      unfold loL
      rw [List.filter_cons_of_neg (by simpa using hx), List.filter_eq_nil_iff.2 hn]
      rfl
theorem find_at (out : List TVersion) (hl : out.length ≤ 1000000000060) (hs : out.Pairwise (fun a c => a.Source < c.Source)) (e : TVersion) : loopF (m_R01_Join_L4 out e) 0 = some (((loL e.Source out).length : Nat) : Int) := by
  have hA := loop_list (body := m_R01_Join_L4 out e) (S := Int) out (by omega) (fun n (_ : Nat) => (n : Int)) (atF e.Source) (fun r => ((r : Nat) : Int)) (fun s => ((s : Nat) : Int)) (fun pre s => s = pre.length)
    (fun pre x post s he hP => ⟨by
      subst hP
      have hx : idx out (pre.length : Int) = some x := by rw [he]; exact idx_pre
      have hlen : out.length = pre.length + 1 + post.length := by rw [he]; simp; omega
      unfold m_R01_Join_L4
      rw [if_pos (by simp; omega), hx, Option.bind_some]
      by_cases hlt : x.Source < e.Source
      · have q : atF e.Source pre.length x = .inl (pre.length + 1) := if_pos hlt
        rw [if_pos (by simpa using hlt), q, W_s (by omega)]
      · have q : atF e.Source pre.length x = .inr pre.length := if_neg hlt
        rw [if_neg (by simpa using hlt), q], fun s' hs' => by
      subst hP
      by_cases hlt : x.Source < e.Source
      · have q : atF e.Source pre.length x = .inl (pre.length + 1) := if_pos hlt
        rw [q] at hs'; cases hs'; simp
      · have q : atF e.Source pre.length x = .inr pre.length := if_neg hlt
        rw [q] at hs'; cases hs'⟩)
    (fun s hP => by
      subst hP
      unfold m_R01_Join_L4
      rw [if_neg (by simp)]) 0 rfl
  have hA' : loopF (m_R01_Join_L4 out e) 0 = _ := hA
  rw [hA']
  have := runL_at (t := e.Source) out 0 hs
  revert this
  cases runL (atF e.Source) out 0 with
  | inl s => intro h; dsimp only at h ⊢; rw [h]; simp
  | inr s => intro h; dsimp only at h ⊢; rw [h]; simp
theorem rjoin_step {l pre post out : List TVersion} {x : TVersion} (hl : l = pre ++ x :: post) (hll : l.length ≤ 9223372036854775807) (hs : out.Pairwise (fun a c => a.Source < c.Source)) (ho : ∀ v, v ∈ out → VVersion v) :
    m_R01_Join_L3 l ((pre.length : Int), out) = some (match joinS out x with | .inl o => .inl (((pre.length + 1 : Nat) : Int), o) | .inr c => .inr (.inr (⟨[], []⟩, c))) := by
  subst hl
  have hsh := short hs ho
  have hlen : pre.length + 1 ≤ (pre ++ x :: post).length := by simp
  have hd : decide ((pre.length : Int) < ((pre ++ x :: post).length : Int)) = true := by simp; omega
  unfold m_R01_Join_L3
  dsimp only
  rw [if_pos hd, idx_pre, Option.bind_some, rCheckVersion_eq, Option.bind_some]
  by_cases hv : VVersion x
  · rw [if_pos hv, if_neg (by decide), find_at out (by omega) hs x, Option.bind_some]
    obtain ⟨i, hi⟩ : ∃ i, i = (loL x.Source out).length := ⟨_, rfl⟩
    have hsp := split_at (t := x.Source) hs
    have h2 : i ≤ out.length := by
      have := congrArg List.length hsp
      simp at this
      omega
    have ht : out.take i = loL x.Source out := by
      conv => lhs; rw [hsp]
      exact List.take_left' hi.symm
    have hdr : out.drop i = geL x.Source out := by
      conv => lhs; rw [hsp]
      exact List.drop_left' hi.symm
    have h3 : ∀ v, v ∈ out.take i → v.Source < x.Source := fun v hv => by rw [ht] at hv; exact (loL_mem.1 hv).2
    have h4 : ∀ v, v ∈ out.drop i → x.Source ≤ v.Source := fun v hv => by rw [hdr] at hv; simp [geL] at hv; exact hv.2
    rw [← hi]
    obtain ⟨c1, c2⟩ := cut_at h3 h4
    have s1 : sub out 0 ((i : Int)).toNat = out.take i := by simp [sub]
    have s2 : sub out ((i : Int)).toNat out.length = out.drop i := by
      simp only [sub, Int.toNat_natCast]
      exact List.take_of_length_le (by simp)
    have hk : (out.drop i).length ≤ out.length := by simp
    have hk2 : (out.take i).length ≤ out.length := by simp; omega
    have hk3 : (out.take i).length + (out.drop i).length = out.length := by simp; omega
    have g1 : 0 ≤ (i : Int) ∧ (i : Int) ≤ (out.length : Int) := by omega
    have g2 : (([] : List TVersion).length + (out.take i).length) * 88 ≤ 140737488355328 ∧ ([] : List TVersion).length + (out.take i).length ≤ 9223372036854775807 := by simp only [List.length_nil]; omega
    have g3 : ((([] : List TVersion) ++ out.take i).length + ([x] : List TVersion).length) * 88 ≤ 140737488355328 ∧ (([] : List TVersion) ++ out.take i).length + ([x] : List TVersion).length ≤ 9223372036854775807 := by simp only [List.nil_append, List.length_cons, List.length_nil]; omega
    have g4 : (((([] : List TVersion) ++ out.take i) ++ ([x] : List TVersion)).length + (out.drop i).length) * 88 ≤ 140737488355328 ∧ ((([] : List TVersion) ++ out.take i) ++ ([x] : List TVersion)).length + (out.drop i).length ≤ 9223372036854775807 := by simp only [List.nil_append, List.length_append, List.length_cons, List.length_nil]; omega
    by_cases hf : ∃ y, y ∈ out ∧ y.Source = x.Source
    · obtain ⟨y, hy1, hy2⟩ := (cut_has hs h3 h4).2 hf
      have hm := mem_src hs (List.mem_of_getElem? hy1) hy2
      have hlt := (List.getElem?_eq_some_iff.1 hy1).1
      rw [if_pos (by simp; omega), idx_get hy1, Option.bind_some, if_pos (by simp [hy2]), Option.bind_some, ver_eq]
      by_cases hxy : y = x
      · rw [if_neg (by simp [hxy]), joinS_same hv (hm.2 hxy), W_s (by omega)]
      · rw [if_pos (by simp [hxy]), joinS_17 hv hf (fun h => hxy (hm.1 h))]
    · rw [s1, s2, gd_pos g1, Option.bind_some, gd_pos g1, Option.bind_some, gd_pos g2, gd_pos g3, gd_pos g4, W_s (by omega), joinS_new hv hf]
      have e1 : ((([] : List TVersion) ++ out.take i) ++ ([x] : List TVersion)) ++ out.drop i = loL x.Source out ++ x :: hiL x.Source out := by
        rw [c1, c2 hf]; simp
      rw [e1]
      by_cases hlt : i < out.length
      · rw [if_pos (by simp; omega), idx_get (List.getElem?_eq_getElem hlt), Option.bind_some, if_neg (by
          have : ¬ out[i].Source = x.Source := fun h => hf ⟨_, List.getElem_mem hlt, h⟩
          simpa using this)]
      · rw [if_neg (by simp; omega)]
  · rw [if_neg hv, if_pos (by decide), joinS_bad hv]
theorem rJoin_eq (b : TBylaw) (h1 : b.Versions.length ≤ 9223372036854775807) (h2 : b.Streets.length ≤ 9223372036854775807) (l : List TVersion) (hl : l.length ≤ 9223372036854775807) : m_R01_Join b l = some (joinF b l) := by
  unfold m_R01_Join
  rw [rCheck_eq b h1 h2, Option.bind_some]
  by_cases hb : VBylaw b
  · have hvl := hb.vlen
    rw [if_pos hb, if_neg (by decide), gd_pos (by simp only [List.length_nil]; omega)]
    have hloop := loop_list (body := m_R01_Join_L3 l) (S := Int × List TVersion) l (by omega) (fun n out => ((n : Int), out)) joinS (fun c => .inr (⟨[], []⟩, c)) (fun out => .inl ((l.length : Int), out))
      (fun _ out => out.Pairwise (fun a c => a.Source < c.Source) ∧ ∀ v, v ∈ out → VVersion v)
      (fun pre x post s he hP => ⟨rjoin_step he hl hP.1 hP.2 |>.trans (by cases joinS s x <;> rfl), fun s' hs' => by
        exact ⟨(joinS_sorted hP.1 hs').1, joinS_valid hP.2 hs'⟩⟩)
      (fun s hP => by
        unfold m_R01_Join_L3
        dsimp only
        rw [if_neg (by simp)])
      b.Versions ⟨hb.vsort, hb.vers⟩
    have hloop' : loopF (m_R01_Join_L3 l) (0, ([] : List TVersion) ++ b.Versions) = _ := hloop
    rw [hloop', Option.bind_some]
    unfold joinF
    rw [if_pos hb]
    cases runL joinS l b.Versions with
    | inl out =>
      dsimp only
      by_cases h6 : out.length ≤ 60
      · rw [if_pos h6, if_neg (by simp; omega)]
      · rw [if_neg h6, if_pos (by simp; omega)]
    | inr c => rfl
  · rw [if_neg hb, if_pos (by decide), joinF_neg hb]
theorem joinF_len (b : TBylaw) (l : List TVersion) : (joinF b l).1.Versions.length ≤ 60 ∧ (joinF b l).1.Streets.length ≤ 20 := by
  unfold joinF
  by_cases hb : VBylaw b
  · rw [if_pos hb]
    cases runL joinS l b.Versions with
    | inl out =>
      dsimp only
      by_cases h6 : out.length ≤ 60
      · rw [if_pos h6]; exact ⟨h6, hb.slen⟩
      · rw [if_neg h6]; simp
    | inr c => simp
  · rw [if_neg hb]; simp
end Go.Proofs.Ytmkkedbfjpkgkaa
namespace Go.Proofs.Ytmkkedbfjpkgkaa
open Go Go.Sx
open Classical
theorem sorted_eq : ∀ {l r : List TVersion}, l.Pairwise (fun a c => a.Source < c.Source) → r.Pairwise (fun a c => a.Source < c.Source) → (∀ v, v ∈ l ↔ v ∈ r) → l = r
  | [], [], _, _, _ => rfl
  | [], y :: r, _, _, h => absurd ((h y).2 (List.mem_cons_self ..)) (by simp)
  | x :: l, [], _, _, h => absurd ((h x).1 (List.mem_cons_self ..)) (by simp)
  | x :: l, y :: r, hl, hr, h => by
    obtain ⟨l1, l2⟩ := List.pairwise_cons.1 hl
    obtain ⟨r1, r2⟩ := List.pairwise_cons.1 hr
    have hxy : x = y := by
      rcases List.mem_cons.1 ((h x).1 (List.mem_cons_self ..)) with h1 | h1
      · exact h1
      · rcases List.mem_cons.1 ((h y).2 (List.mem_cons_self ..)) with h2 | h2
        · exact h2.symm
        · have a1 := r1 x h1
          have a2 := l1 y h2
          omega
    subst hxy
    congr 1
    refine sorted_eq l2 r2 fun v => ⟨fun hv => ?_, fun hv => ?_⟩
    · rcases List.mem_cons.1 ((h v).1 (List.mem_cons_of_mem _ hv)) with h1 | h1
      · subst h1; have := l1 v hv; omega
      · exact h1
    · rcases List.mem_cons.1 ((h v).2 (List.mem_cons_of_mem _ hv)) with h1 | h1
      · subst h1; have := r1 v hv; omega
      · exact h1
theorem joinS_of {V out : List TVersion} {e : TVersion} (hV : V.Pairwise (fun a c => a.Source < c.Source)) (hv : ∀ v, v ∈ V → VVersion v) (ho : ∀ v, v ∈ out → v ∈ V) (he : e ∈ V) : ∃ out', joinS out e = .inl out' ∧ ∀ v, v ∈ out' ↔ v ∈ out ∨ v = e := by
  by_cases h2 : e ∈ out
  · exact ⟨out, joinS_same (hv e he) h2, fun v => ⟨.inl, fun h => by rcases h with h | rfl; exact h; exact h2⟩⟩
  · have h1 : ¬ ∃ x, x ∈ out ∧ x.Source = e.Source := by
      rintro ⟨x, hx, hs⟩
      have := (mem_src hV (ho x hx) hs).1 he
      exact h2 (this ▸ hx)
    refine ⟨_, joinS_new (hv e he) h1, fun v => ?_⟩
    rw [List.mem_append, List.mem_cons, loL_mem, hiL_mem]
    constructor
    · rintro (h | h | h)
      · exact .inl h.1
      · exact .inr h
      · exact .inl h.1
    · rintro (h | h)
      · have : v.Source ≠ e.Source := fun hs => h1 ⟨v, h, hs⟩
        by_cases hlt : v.Source < e.Source
        · exact .inl ⟨h, hlt⟩
        · exact .inr (.inr ⟨h, by omega⟩)
      · exact .inr (.inl h)
theorem run_of {V : List TVersion} (hV : V.Pairwise (fun a c => a.Source < c.Source)) (hv : ∀ v, v ∈ V → VVersion v) : ∀ (l out : List TVersion), (∀ v, v ∈ l → v ∈ V) → (∀ v, v ∈ out → v ∈ V) → out.Pairwise (fun a c => a.Source < c.Source) →
    ∃ out', runL joinS l out = .inl out' ∧ out'.Pairwise (fun a c => a.Source < c.Source) ∧ ∀ v, v ∈ out' ↔ v ∈ out ∨ v ∈ l
  | [], out, _, _, hs => ⟨out, rfl, hs, fun v => by simp⟩
  | e :: l, out, hl, ho, hs => by
    obtain ⟨o1, h1, h2⟩ := joinS_of hV hv ho (hl e (List.mem_cons_self ..))
    obtain ⟨o2, h3, h4, h5⟩ := run_of hV hv l o1 (fun v h => hl v (List.mem_cons_of_mem _ h)) (fun v h => by
      rcases (h2 v).1 h with h | rfl
      · exact ho v h
      · exact hl v (List.mem_cons_self ..)) (joinS_sorted hs h1).1
    refine ⟨o2, by rw [runL, h1]; exact h3, h4, fun v => ?_⟩
    rw [h5, h2, List.mem_cons]
    constructor
    · rintro ((h | h) | h)
      · exact .inl h
      · exact .inr (.inl h)
      · exact .inr (.inr h)
    · rintro (h | h | h)
      · exact .inl (.inl h)
      · exact .inl (.inr h)
      · exact .inr h
noncomputable def sel (b : TBylaw) (S : List TVersion) : TBylaw := ⟨b.Versions.filter fun v => decide (v ∈ S), b.Streets⟩
theorem sel_mem {b : TBylaw} {S : List TVersion} {v : TVersion} : v ∈ (sel b S).Versions ↔ v ∈ b.Versions ∧ v ∈ S := by simp [sel]
theorem sel_V {b : TBylaw} (hb : VBylaw b) (S : List TVersion) : VBylaw (sel b S) := hb.filter _
theorem sel_nil (b : TBylaw) : sel b [] = ⟨[], b.Streets⟩ := by simp [sel]
theorem sel_all {b : TBylaw} {S : List TVersion} (h : ∀ v, v ∈ b.Versions → v ∈ S) : sel b S = b := by
  unfold sel
  rw [List.filter_eq_self.2 (fun v hv => decide_eq_true (h v hv))]
theorem sel_len {b : TBylaw} (hb : VBylaw b) (S : List TVersion) : (sel b S).Versions.length ≤ 60 ∧ (sel b S).Streets.length ≤ 20 := ⟨(sel_V hb S).vlen, (sel_V hb S).slen⟩
theorem join_sel {b : TBylaw} (hb : VBylaw b) {S l : List TVersion} (hl : ∀ v, v ∈ l → v ∈ b.Versions) : joinF (sel b S) l = (sel b (S ++ l), 0) := by
  obtain ⟨out, h1, h2, h3⟩ := run_of hb.vsort hb.vers l (sel b S).Versions hl (fun v h => (sel_mem.1 h).1) (sel_V hb S).vsort
  have e : out = (sel b (S ++ l)).Versions := by
    refine sorted_eq h2 (sel_V hb _).vsort fun v => ?_
    rw [h3, sel_mem, sel_mem, List.mem_append]
    constructor
    · rintro (h | h)
      · exact ⟨h.1, .inl h.2⟩
      · exact ⟨hl v h, .inr h⟩
    · rintro ⟨h, h' | h'⟩
      · exact .inl ⟨h, h'⟩
      · exact .inr h'
  unfold joinF
  rw [if_pos (sel_V hb S), h1]
  subst e
  dsimp only
  rw [if_pos (sel_V hb _).vlen]
  rfl
end Go.Proofs.Ytmkkedbfjpkgkaa
namespace Go.Proofs.Ytmkkedbfjpkgkaa
open Go Go.Sx
set_option maxRecDepth 1000000
theorem pl_sane : m_L01_sane = some true := by decide +kernel
end Go.Proofs.Ytmkkedbfjpkgkaa
namespace Go.Proofs.Ytmkkedbfjpkgkaa
open Go Go.Sx
open Classical
structure CutI (pre : List TVersion) (s : Nat × List TVersion × List TVersion) : Prop where
  i : s.1 = pre.length
  lx : s.2.1.length ≤ pre.length
  ly : s.2.2.length ≤ pre.length
  x : ∀ v, v ∈ s.2.1 → v ∈ pre
  y : ∀ v, v ∈ s.2.2 → v ∈ pre
  all : ∀ v, v ∈ pre → v ∈ s.2.1 ∨ v ∈ s.2.2
theorem cut_ex {b : TBylaw} (hb : VBylaw b) (cut : Int × Int) : ∃ x v y, loopF (m_L01_BylawJoins_L1 b cut) ([], 0, []) = some (x, v, y) ∧ x.length ≤ 60 ∧ y.length ≤ 60 ∧ (∀ v, v ∈ x → v ∈ b.Versions) ∧ (∀ v, v ∈ y → v ∈ b.Versions) ∧ ∀ v, v ∈ b.Versions → v ∈ x ∨ v ∈ y := by
  obtain ⟨q, eq, _, _⟩ := Mod_ex cut.2 (m := 7) (by omega) (by omega)
  have hvl := hb.vlen
  have hA := loop_list (body := m_L01_BylawJoins_L1 b cut) (R := Unit) b.Versions (by omega) (fun k (s : Nat × List TVersion × List TVersion) => (s.2.1, (k : Int), s.2.2))
    (fun s e => .inl (if m_R01_Mod (W (cut.1 + W ((s.1 : Int) * q))) 3 = some 0 then (s.1 + 1, s.2.1 ++ [e], s.2.2) else (s.1 + 1, s.2.1, [e] ++ s.2.2))) (fun _ => ([], 0, [])) (fun s => (s.2.1, (b.Versions.length : Int), s.2.2)) CutI
    (fun pre e post s he hP => by
      obtain ⟨i, x, y⟩ := s
      have hi : i = pre.length := hP.i
      have h1 := hP.lx
      have h2 := hP.ly
      have hlen : pre.length + 1 + post.length = b.Versions.length := by rw [he]; simp; omega
      simp only at h1 h2
      obtain ⟨r, er, _, _⟩ := Mod_ex (W (cut.1 + W ((i : Int) * q))) (m := 3) (by omega) (by omega)
      have g1 : (x.length + ([e] : List TVersion).length) * 88 ≤ 140737488355328 ∧ x.length + ([e] : List TVersion).length ≤ 9223372036854775807 := by simp only [List.length_cons, List.length_nil]; omega
      have g2 : (([e] : List TVersion).length + y.length) * 88 ≤ 140737488355328 ∧ ([e] : List TVersion).length + y.length ≤ 9223372036854775807 := by simp only [List.length_cons, List.length_nil]; omega
      have hx : idx b.Versions (pre.length : Int) = some e := by rw [he]; exact idx_pre
      have hm : m_R01_Mod (W (cut.1 + W ((pre.length : Int) * q))) 3 = some r := by rw [← hi]; exact er
      constructor
      · unfold m_L01_BylawJoins_L1
        dsimp only
        rw [if_pos (by simp; omega), hx, Option.bind_some, eq, Option.bind_some, hm, Option.bind_some, gd_pos g1, gd_pos g2, W_s (by omega), er]
        by_cases h : r = 0
        · rw [if_pos (by simpa using h), if_pos (by rw [h])]
        · rw [if_neg (by simpa using h), if_neg (by simpa using h)]
      · intro s' hs'
        cases hs'
        by_cases h : m_R01_Mod (W (cut.1 + W ((i : Int) * q))) 3 = some 0
        · simp only [h, if_true]
          refine ⟨by simp [hi], by simp; omega, by simp; omega, fun v hv => ?_, fun v hv => List.mem_append.2 (.inl (hP.y v hv)), fun v hv => ?_⟩
          · rcases List.mem_append.1 hv with hv | hv
            · exact List.mem_append.2 (.inl (hP.x v hv))
            · exact List.mem_append.2 (.inr hv)
          · rcases List.mem_append.1 hv with hv | hv
            · rcases hP.all v hv with h | h
              · exact .inl (List.mem_append.2 (.inl h))
              · exact .inr h
            · exact .inl (List.mem_append.2 (.inr hv))
        · simp only [h, if_false]
          refine ⟨by simp [hi], by simp; omega, by simp; omega, fun v hv => List.mem_append.2 (.inl (hP.x v hv)), fun v hv => ?_, fun v hv => ?_⟩
          · rcases List.mem_append.1 hv with hv | hv
            · exact List.mem_append.2 (.inr hv)
            · exact List.mem_append.2 (.inl (hP.y v hv))
          · rcases List.mem_append.1 hv with hv | hv
            · rcases hP.all v hv with h | h
              · exact .inl h
              · exact .inr (List.mem_append.2 (.inr h))
            · exact .inr (List.mem_append.2 (.inl hv)))
    (fun s hP => by
      unfold m_L01_BylawJoins_L1
      dsimp only
      rw [if_neg (by simp)]) (0, [], []) ⟨rfl, Nat.le_refl _, Nat.le_refl _, fun v h => h, fun v h => h, fun v h => .inl h⟩
  have hA' : loopF (m_L01_BylawJoins_L1 b cut) ([], 0, []) = _ := hA
  have key : ∀ (l pre : List TVersion) (s : Nat × List TVersion × List TVersion), CutI pre s → CutI (pre ++ l) (l.foldl (fun s e => if m_R01_Mod (W (cut.1 + W ((s.1 : Int) * q))) 3 = some 0 then (s.1 + 1, s.2.1 ++ [e], s.2.2) else (s.1 + 1, s.2.1, [e] ++ s.2.2)) s) := by
    intro l
    induction l with
    | nil => intro pre s h; simpa using h
    | cons e l ih =>
      intro pre s hP
      rw [List.foldl_cons, show pre ++ e :: l = (pre ++ [e]) ++ l by simp]
      refine ih _ _ ?_
      have h1 := hP.lx
      have h2 := hP.ly
      split
      · refine ⟨by simp [hP.i], by simp; omega, by simp; omega, fun v hv => ?_, fun v hv => List.mem_append.2 (.inl (hP.y v hv)), fun v hv => ?_⟩
        · rcases List.mem_append.1 hv with hv | hv
          · exact List.mem_append.2 (.inl (hP.x v hv))
          · exact List.mem_append.2 (.inr hv)
        · rcases List.mem_append.1 hv with hv | hv
          · rcases hP.all v hv with h | h
            · exact .inl (List.mem_append.2 (.inl h))
            · exact .inr h
          · exact .inl (List.mem_append.2 (.inr hv))
      · refine ⟨by simp [hP.i], by simp; omega, by simp; omega, fun v hv => List.mem_append.2 (.inl (hP.x v hv)), fun v hv => ?_, fun v hv => ?_⟩
        · rcases List.mem_append.1 hv with hv | hv
          · exact List.mem_append.2 (.inr hv)
          · exact List.mem_append.2 (.inl (hP.y v hv))
        · rcases List.mem_append.1 hv with hv | hv
          · rcases hP.all v hv with h | h
            · exact .inl h
            · exact .inr (List.mem_append.2 (.inr h))
          · exact .inr (List.mem_append.2 (.inl hv))
  rw [runL_foldl] at hA'
  have hI := key b.Versions [] (0, [], []) ⟨rfl, Nat.le_refl _, Nat.le_refl _, fun v h => h, fun v h => h, fun v h => .inl h⟩
  rw [List.nil_append] at hI
  exact ⟨_, _, _, hA', Nat.le_trans hI.lx hvl, Nat.le_trans hI.ly hvl, hI.x, hI.y, hI.all⟩
theorem three_ex {b : TBylaw} (hb : VBylaw b) (x : List TVersion) (hl : x.length ≤ 60) (hx : ∀ v, v ∈ x → v ∈ b.Versions) : loopF (m_L01_BylawJoins_L2 x) (0, [], b.Streets) = some (.inl ((x.length : Int), (sel b x).Versions, b.Streets)) := by
  have hA := loop_list (body := m_L01_BylawJoins_L2 x) (R := Unit) x (by omega) (fun k (S : List TVersion) => ((k : Int), (sel b S).Versions, b.Streets)) (fun S e => .inl (S ++ [e])) (fun _ => .inr false) (fun S => .inl ((x.length : Int), (sel b S).Versions, b.Streets)) (fun pre S => S = pre)
    (fun pre e post S he hP => ⟨by
      subst hP
      have hlen : S.length + 1 + post.length = x.length := by rw [he]; simp; omega
      have hi : idx x (S.length : Int) = some e := by rw [he]; exact idx_pre
      obtain ⟨l1, l2⟩ := sel_len hb S
      have hm : e ∈ x := by rw [he]; simp
      unfold m_L01_BylawJoins_L2
      dsimp only
      rw [if_pos (by simp; omega), hi, Option.bind_some, show (⟨(sel b S).Versions, b.Streets⟩ : TBylaw) = sel b S from rfl, Add_eq _ (by omega) (by omega), join_sel hb (fun v hv => by rw [List.mem_singleton.1 hv]; exact hx e hm), Option.bind_some]
      dsimp only
      rw [if_neg (by simp), W_s (by omega)]
      rfl, fun s' hs' => by cases hs'; rw [hP]⟩)
    (fun s hP => by
      unfold m_L01_BylawJoins_L2
      dsimp only
      rw [if_neg (by simp)]) [] rfl
  have h0 : (sel b []).Versions = [] := by rw [sel_nil]
  simp only [h0] at hA
  have hA' : loopF (m_L01_BylawJoins_L2 x) (0, [], b.Streets) = _ := hA
  rw [hA', runL_foldl]
  have key : ∀ (l S : List TVersion), l.foldl (fun S e => S ++ [e]) S = S ++ l := by
    intro l
    induction l with
    | nil => simp
    | cons e l ih => intro S; simp [ih]
  rw [key]; rfl
theorem pl_BylawJoins (b : TBylaw) (l : List TVersion) (cut : Int × Int) (h0 : TBylaw.G b) (hl : (l.length * 88 ≤ reachBytes ∧ l.length ≤ maxLen ∧ ∀ y : TVersion, y ∈ l → TVersion.G y)) (_ : (InK .i64 cut.1 ∧ InK .i64 cut.2)) : m_L01_BylawJoins b l cut = some true := by
  have h1 : b.Versions.length ≤ 9223372036854775807 := h0.1.2.1
  have h2 : b.Streets.length ≤ 9223372036854775807 := h0.2.2.1
  have h3 : l.length ≤ 9223372036854775807 := hl.2.1
  obtain ⟨l1, l2⟩ := joinF_len b l
  unfold m_L01_BylawJoins
  rw [Join_eq b h1 h2 l h3, rJoin_eq b h1 h2 l h3, Option.bind_some]
  dsimp only
  rw [Option.bind_some]
  try dsimp only
  rw [Same_bylaw _ (by omega) (by omega), Option.bind_some, if_neg (by simp), if_neg (by simp), rCheck_eq b h1 h2, Option.bind_some]
  by_cases hb : VBylaw b
  rotate_left
  · rw [if_neg hb, if_pos (by decide), pl_sane, Option.bind_some]
  rw [if_pos hb, if_neg (by decide)]
  obtain ⟨x, v, y, e1, lx, ly, mx, my, mall⟩ := cut_ex hb cut
  rw [e1, Option.bind_some]
  dsimp only
  rw [show (⟨[], b.Streets⟩ : TBylaw) = sel b [] from (sel_nil b).symm]
  have s0 := sel_len hb []
  have sy := sel_len hb ([] ++ y)
  have sx := sel_len hb x
  have sb := sel_all (S := b.Versions) (b := b) (fun v h => h)
  have lb := hb.vlen
  have lst := hb.slen
  rw [Join_eq _ (by omega) (by omega) y (by omega), join_sel hb my, Option.bind_some]
  dsimp only
  rw [Join_eq _ (by omega) (by omega) x (by omega), join_sel hb mx, Option.bind_some]
  dsimp only
  rw [three_ex hb x lx mx, Option.bind_some]
  dsimp only
  rw [show (⟨(sel b x).Versions, b.Streets⟩ : TBylaw) = sel b x from rfl, Join_eq _ (by omega) (by omega) y (by omega), join_sel hb my, Option.bind_some]
  dsimp only
  have ej : joinF b y = (b, 0) := by
    have := join_sel hb (S := b.Versions) my
    rw [sb, sel_all (fun v h => List.mem_append.2 (.inl h))] at this
    exact this
  rw [Join_eq b h1 h2 y (by omega), ej, Option.bind_some]
  dsimp only
  have z0 : ((0 : Int) == 0) = true := rfl
  rw [if_pos z0, if_pos z0, if_pos z0, if_pos z0, sel_all (fun v h => by
    rcases mall v h with h | h
    · exact List.mem_append.2 (.inr h)
    · exact List.mem_append.2 (.inl (List.mem_append.2 (.inr h)))), sel_all (fun v h => by
    rcases mall v h with h | h
    · exact List.mem_append.2 (.inl h)
    · exact List.mem_append.2 (.inr h)), Same_bylaw b (by omega) (by omega), Option.bind_some, if_pos rfl, Option.bind_some, if_pos rfl, Option.bind_some, if_pos rfl, pl_sane, Option.bind_some]
end Go.Proofs.Ytmkkedbfjpkgkaa
