/- What may be read at the types of the statement's parameters; plain facts. -/
import Derived.Test.YtmkkedbfjpkgkaaGreatL1
set_option linter.unusedVariables false
set_option linter.unusedSimpArgs false
namespace Go.Proofs.YtmkkedbfjpkgkaaGreat
open Go Go.RowKit Go.Sx
def TRange.G (x : TRange) : Prop := InK .i64 x.Lo ∧ InK .i64 x.Hi
theorem op_33 : Opens Tryz.prog 33 TRange.c TRange.G :=
  (Opens.struct Tryz.underlying33 (OpensF.cons (s := 1) (Opens.int Tryz.underlying3) (OpensF.last (s := 1) (Opens.int Tryz.underlying3) rfl (by kernel_rfl) rfl) rfl (by kernel_rfl)) (by kernel_rfl)).iso (fun x => (⟨x.1, x.2⟩ : TRange)) (fun _ => rfl) (fun _ h => h)
def TVersion.G (x : TVersion) : Prop := InK .i64 x.Source ∧ InK .i64 x.Class ∧ InK .i64 x.From ∧ TRange.G x.On ∧ TRange.G x.Off ∧ InK .i64 x.Moon ∧ InK .i64 x.Fog ∧ InK .i64 x.Known ∧ InK .i64 x.Until
theorem op_35 : Opens Tryz.prog 35 TVersion.c TVersion.G :=
  (Opens.struct Tryz.underlying35 (OpensF.cons (s := 1) (Opens.int Tryz.underlying3) (OpensF.cons (s := 1) (Opens.int Tryz.underlying3) (OpensF.cons (s := 1) (Opens.int Tryz.underlying3) (OpensF.cons (s := 2) op_33 (OpensF.cons (s := 2) op_33 (OpensF.cons (s := 1) (Opens.int Tryz.underlying3) (OpensF.cons (s := 1) (Opens.int Tryz.underlying3) (OpensF.cons (s := 1) (Opens.int Tryz.underlying3) (OpensF.last (s := 1) (Opens.int Tryz.underlying3) rfl (by kernel_rfl) rfl) rfl (by kernel_rfl)) rfl (by kernel_rfl)) rfl (by kernel_rfl)) rfl (by kernel_rfl)) rfl (by kernel_rfl)) rfl (by kernel_rfl)) rfl (by kernel_rfl)) rfl (by kernel_rfl)) (by kernel_rfl)).iso (fun x => (⟨x.1, x.2.1, x.2.2.1, x.2.2.2.1, x.2.2.2.2.1, x.2.2.2.2.2.1, x.2.2.2.2.2.2.1, x.2.2.2.2.2.2.2.1, x.2.2.2.2.2.2.2.2⟩ : TVersion)) (fun _ => rfl) (fun _ h => h)
theorem op_22 : Opens Tryz.prog 22 (fun l : (List TVersion) => [.lst 11 l.length (l.flatMap TVersion.c)]) (fun l => (l.length * 88 ≤ reachBytes ∧ l.length ≤ maxLen ∧ ∀ y : TVersion, y ∈ l → TVersion.G y)) :=
  Opens.slice Tryz.underlying22 op_35 (by kernel_rfl) (by kernel_rfl) (fun _ => rfl) (fun _ => rfl) (by decide)
def TStreet.G (x : TStreet) : Prop := InK .i64 x.Id ∧ InK .i64 x.Class ∧ InK .i64 x.District ∧ InK .i64 x.First ∧ InK .i64 x.Many
theorem op_42 : Opens Tryz.prog 42 TStreet.c TStreet.G :=
  (Opens.struct Tryz.underlying42 (OpensF.cons (s := 1) (Opens.int Tryz.underlying3) (OpensF.cons (s := 1) (Opens.int Tryz.underlying3) (OpensF.cons (s := 1) (Opens.int Tryz.underlying3) (OpensF.cons (s := 1) (Opens.int Tryz.underlying3) (OpensF.last (s := 1) (Opens.int Tryz.underlying3) rfl (by kernel_rfl) rfl) rfl (by kernel_rfl)) rfl (by kernel_rfl)) rfl (by kernel_rfl)) rfl (by kernel_rfl)) (by kernel_rfl)).iso (fun x => (⟨x.1, x.2.1, x.2.2.1, x.2.2.2.1, x.2.2.2.2⟩ : TStreet)) (fun _ => rfl) (fun _ h => h)
theorem op_23 : Opens Tryz.prog 23 (fun l : (List TStreet) => [.lst 5 l.length (l.flatMap TStreet.c)]) (fun l => (l.length * 40 ≤ reachBytes ∧ l.length ≤ maxLen ∧ ∀ y : TStreet, y ∈ l → TStreet.G y)) :=
  Opens.slice Tryz.underlying23 op_42 (by kernel_rfl) (by kernel_rfl) (fun _ => rfl) (fun _ => rfl) (by decide)
def TBylaw.G (x : TBylaw) : Prop := (x.Versions.length * 88 ≤ reachBytes ∧ x.Versions.length ≤ maxLen ∧ ∀ y : TVersion, y ∈ x.Versions → TVersion.G y) ∧ (x.Streets.length * 40 ≤ reachBytes ∧ x.Streets.length ≤ maxLen ∧ ∀ y : TStreet, y ∈ x.Streets → TStreet.G y)
theorem op_25 : Opens Tryz.prog 25 TBylaw.c TBylaw.G :=
  (Opens.struct Tryz.underlying25 (OpensF.cons (s := 1) op_22 (OpensF.last (s := 1) op_23 rfl (by kernel_rfl) rfl) rfl (by kernel_rfl)) (by kernel_rfl)).iso (fun x => (⟨x.1, x.2⟩ : TBylaw)) (fun _ => rfl) (fun _ h => h)
def TAsk.G (x : TAsk) : Prop := InK .i64 x.Lamp ∧ InK .i64 x.Class ∧ InK .i64 x.District ∧ InK .i64 x.Source ∧ InK .i64 x.Known ∧ InK .i64 x.Later
theorem op_27 : Opens Tryz.prog 27 TAsk.c TAsk.G :=
  (Opens.struct Tryz.underlying27 (OpensF.cons (s := 1) (Opens.int Tryz.underlying3) (OpensF.cons (s := 1) (Opens.int Tryz.underlying3) (OpensF.cons (s := 1) (Opens.int Tryz.underlying3) (OpensF.cons (s := 1) (Opens.int Tryz.underlying3) (OpensF.cons (s := 1) (Opens.int Tryz.underlying3) (OpensF.last (s := 1) (Opens.int Tryz.underlying3) rfl (by kernel_rfl) rfl) rfl (by kernel_rfl)) rfl (by kernel_rfl)) rfl (by kernel_rfl)) rfl (by kernel_rfl)) rfl (by kernel_rfl)) (by kernel_rfl)).iso (fun x => (⟨x.1, x.2.1, x.2.2.1, x.2.2.2.1, x.2.2.2.2.1, x.2.2.2.2.2⟩ : TAsk)) (fun _ => rfl) (fun _ h => h)
end Go.Proofs.YtmkkedbfjpkgkaaGreat
namespace Go.Proofs.YtmkkedbfjpkgkaaGreat
open Go Go.Sx
open Classical
theorem W_id {z : Int} (h : -9223372036854775808 ≤ z ∧ z ≤ 9223372036854775807) : W z = z := wrap_id h
theorem W_s {k : Nat} (h : k < 9223372036854775807) : W ((k : Int) + 1) = ((k + 1 : Nat) : Int) := wrap_s h
def runL {α σ R : Type} (f : σ → α → Sum σ R) : List α → σ → Sum σ R
  | [], s => .inl s
  | x :: l, s => match f s x with | .inl s' => runL f l s' | .inr r => .inr r
theorem runL_foldl {α σ R : Type} (f : σ → α → σ) (l : List α) (s : σ) : runL (R := R) (fun s x => .inl (f s x)) l s = .inl (l.foldl f s) := by
  induction l generalizing s with
  | nil => rfl
  | cons x l ih => exact ih (f s x)
theorem loop_list {α σ S E R : Type} {body : S → Option (Sum S E)} (l : List α) (hl : l.length ≤ 9223372036854775807) (enc : Nat → σ → S) (f : σ → α → Sum σ R) (out : R → E) (fin : σ → E) (P : List α → σ → Prop)
    (h : ∀ pre x post s, l = pre ++ x :: post → P pre s → body (enc pre.length s) = some (match f s x with | .inl s' => .inl (enc (pre.length + 1) s') | .inr r => .inr (out r)) ∧ ∀ s', f s x = .inl s' → P (pre ++ [x]) s')
    (he : ∀ s, P l s → body (enc l.length s) = some (.inr (fin s))) (s0 : σ) (h0 : P [] s0) :
    loopF body (enc 0 s0) = some (match runL f l s0 with | .inl s => fin s | .inr r => out r) := by
  have key : ∀ (post pre : List α) (s : σ) (n : Nat), l = pre ++ post → P pre s → post.length < n → loopO body n (enc pre.length s) = some (match runL f post s with | .inl s => fin s | .inr r => out r) := by
    intro post
    induction post with
    | nil =>
      intro pre s n hp hs hn
      cases n with
      | zero => omega
      | succ n =>
        simp only [List.append_nil] at hp
        subst hp
        simp only [loopO, he s hs, runL]
    | cons x post ih =>
      intro pre s n hp hs hn
      cases n with
      | zero => omega
      | succ n =>
        obtain ⟨h1, h2⟩ := h pre x post s hp hs
        simp only [loopO, h1, runL]
        cases hf : f s x with
        | inl s' =>
          have := ih (pre ++ [x]) s' n (by simp [hp]) (h2 s' hf) (by simp at hn; omega)
          simpa using this
        | inr r => rfl
  exact key l [] s0 FUEL rfl h0 (by unfold FUEL; omega)
theorem idx_pre {α : Type} {pre post : List α} {x : α} : idx (pre ++ x :: post) (pre.length : Int) = some x := by
  unfold idx; simp
theorem lt_pre {α : Type} {pre post : List α} {x : α} : ((pre.length : Int) < ((pre ++ x :: post).length : Int)) := by simp; omega
theorem loopI_list {α β S E : Type} {body : S → Option (List β × Sum S E)} (l : List α) (hl : l.length ≤ 9223372036854775807) (enc : Nat → S) (em : α → List β) (fin : E)
    (h : ∀ pre x post, l = pre ++ x :: post → body (enc pre.length) = some (em x, .inl (enc (pre.length + 1))))
    (he : body (enc l.length) = some ([], .inr fin)) : loopIF body (enc 0) = some (l.flatMap em, fin) := by
  have key : ∀ (post pre : List α) (n : Nat), l = pre ++ post → post.length < n → loopIO body n (enc pre.length) = some (post.flatMap em, fin) := by
    intro post
    induction post with
    | nil =>
      intro pre n hp hn
      cases n with
      | zero => omega
      | succ n =>
        simp only [List.append_nil] at hp
        subst hp
        simp only [loopIO, he, List.flatMap_nil]
    | cons x post ih =>
      intro pre n hp hn
      cases n with
      | zero => omega
      | succ n =>
        have := ih (pre ++ [x]) n (by simp [hp]) (by simp at hn; omega)
        simp only [List.length_append, List.length_cons, List.length_nil, Nat.zero_add] at this
        simp only [loopIO, h pre x post hp, this, List.flatMap_cons]
  exact key l [] FUEL rfl (by unfold FUEL; omega)
theorem in_eq (n lo hi : Int) : m_bylaw_in n lo hi = some (decide (lo ≤ n ∧ n ≤ hi)) := by
  unfold m_bylaw_in; by_cases h : lo ≤ n <;> simp [h]
theorem Within_eq (n lo hi : Int) : m_R01_Within n lo hi = some (decide (lo ≤ n ∧ n ≤ hi)) := in_eq n lo hi
theorem isNight_eq (n : Int) : m_bylaw_isNight n = some (decide (0 ≤ n ∧ n ≤ 100000)) := by unfold m_bylaw_isNight; rw [in_eq]; rfl
theorem IsNight_eq (n : Int) : m_R01_IsNight n = some (decide (0 ≤ n ∧ n ≤ 100000)) := by unfold m_R01_IsNight; rw [Within_eq]; rfl
theorem isRange_eq (r : TRange) (hi : Int) : m_bylaw_isRange r hi = some (decide (0 ≤ r.Lo ∧ r.Lo ≤ r.Hi ∧ r.Hi ≤ hi)) := by
  unfold m_bylaw_isRange; by_cases h : 0 ≤ r.Lo <;> by_cases h1 : r.Lo ≤ r.Hi <;> simp [h, h1]
theorem IsRange_eq (r : TRange) (lo hi : Int) : m_R01_IsRange r lo hi = some (decide (lo ≤ r.Lo ∧ r.Lo ≤ r.Hi ∧ r.Hi ≤ hi)) := by
  unfold m_R01_IsRange; by_cases h : lo ≤ r.Lo <;> by_cases h1 : r.Lo ≤ r.Hi <;> simp [h, h1]
theorem ite_not {α : Type} {p : Prop} [Decidable p] {a b : α} : (if (!decide p) = true then a else b) = if p then b else a := by by_cases h : p <;> simp [h]
theorem ite_and {α : Type} {p q : Prop} [Decidable p] [Decidable q] {a b : α} : (if p then (if q then a else b) else b) = if p ∧ q then a else b := by by_cases h : p <;> by_cases k : q <;> simp [h, k]
def VNight (n : TNight) : Prop := (0 ≤ n.No ∧ n.No ≤ 100000) ∧ (0 ≤ n.Set.Lo ∧ n.Set.Lo ≤ n.Set.Hi ∧ n.Set.Hi ≤ 1439) ∧ (0 ≤ n.Rise.Lo ∧ n.Rise.Lo ≤ n.Rise.Hi ∧ n.Rise.Hi ≤ 1439) ∧ n.Set.Hi ≤ n.Rise.Lo ∧ (0 ≤ n.Light.Lo ∧ n.Light.Lo ≤ n.Light.Hi ∧ n.Light.Hi ≤ 1000) ∧ (0 ≤ n.Fog ∧ n.Fog ≤ 2)
instance (n : TNight) : Decidable (VNight n) := by unfold VNight; exact inferInstance
theorem ite_gt {α : Type} {x y : Int} {a b : α} : (if decide (x > y) = true then a else b) = if x ≤ y then b else a := by by_cases h : x ≤ y <;> simp [h] <;> omega
def VVersion (v : TVersion) : Prop := (1 ≤ v.Source ∧ v.Source ≤ 99999) ∧ (1 ≤ v.Class ∧ v.Class ≤ 9) ∧ (0 ≤ v.From ∧ v.From ≤ 100000) ∧ (0 ≤ v.On.Lo ∧ v.On.Lo ≤ v.On.Hi ∧ v.On.Hi ≤ 600) ∧ (0 ≤ v.Off.Lo ∧ v.Off.Lo ≤ v.Off.Hi ∧ v.Off.Hi ≤ 600) ∧
  (0 ≤ v.Moon ∧ v.Moon ≤ 1001) ∧ (0 ≤ v.Fog ∧ v.Fog ≤ 600) ∧ (0 ≤ v.Known ∧ v.Known ≤ 100000) ∧ (v.Until = 0 ∨ (v.Known < v.Until ∧ v.Until ≤ 100000))
instance (v : TVersion) : Decidable (VVersion v) := by unfold VVersion; exact inferInstance
theorem CheckVersion_eq (v : TVersion) : m_bylaw_CheckVersion v = some (if VVersion v then 0 else 10) := by
  unfold m_bylaw_CheckVersion
  simp only [isNight_eq, isRange_eq, in_eq, Option.bind_some, ite_not]
  by_cases hk : 0 ≤ v.Known ∧ v.Known ≤ 100000
  · rw [W_id (by omega)]
    have e : ∀ {a b : Option Int}, (if (v.Until != 0) = true then (if v.Known + 1 ≤ v.Until ∧ v.Until ≤ 100000 then a else b) else a) = if (v.Until = 0 ∨ (v.Known < v.Until ∧ v.Until ≤ 100000)) then a else b := by
      intro a b
      by_cases h : v.Until = 0
      · simp [h]
      · simp only [bne_iff_ne, ne_eq, h, not_false_eq_true, if_true, false_or, Int.add_one_le_iff]
    simp only [e, ite_and]
    by_cases hv : VVersion v
    · rw [if_pos hv]; exact if_pos hv
    · rw [if_neg hv]; exact if_neg hv
  · have : ¬ VVersion v := fun h => hk h.2.2.2.2.2.2.2.1
    simp only [hk, this, if_false, ite_self]
theorem Lasts_eq (k u : Int) : m_R01_Lasts k u = some (decide ((0 ≤ k ∧ k ≤ 100000) ∧ (u = 0 ∨ (k < u ∧ u ≤ 100000)))) := by
  unfold m_R01_Lasts
  simp only [IsNight_eq, Option.bind_some]
  by_cases hk : 0 ≤ k ∧ k ≤ 100000
  · by_cases hu : u = 0
    · simp [hk, hu]
    · by_cases hl : k < u
      · have : 0 ≤ u := by omega
        simp [hk, hu, hl, this]
      · simp [hk, hu, hl]
  · simp only [hk, false_and, decide_false, Bool.false_eq_true, if_false]
theorem rCheckVersion_eq (v : TVersion) : m_R01_CheckVersion v = some (if VVersion v then 0 else 10) := by
  unfold m_R01_CheckVersion
  simp only [IsNight_eq, IsRange_eq, Within_eq, Lasts_eq, Option.bind_some, ite_not, ite_and]
  by_cases hv : VVersion v
  · rw [if_pos hv]; exact if_pos hv
  · rw [if_neg hv]; exact if_neg hv
def VStreet (s : TStreet) : Prop := (1 ≤ s.Id ∧ s.Id ≤ 99) ∧ (1 ≤ s.Class ∧ s.Class ≤ 9) ∧ (1 ≤ s.District ∧ s.District ≤ 9) ∧ (1 ≤ s.First ∧ s.First ≤ 999) ∧ (1 ≤ s.Many ∧ s.Many ≤ 200) ∧ s.First + s.Many - 1 ≤ 999
instance (s : TStreet) : Decidable (VStreet s) := by unfold VStreet; exact inferInstance
theorem CheckStreet_eq (s : TStreet) : m_bylaw_CheckStreet s = some (if VStreet s then 0 else 11) := by
  unfold m_bylaw_CheckStreet
  simp only [in_eq, Option.bind_some, ite_not]
  by_cases h : (1 ≤ s.First ∧ s.First ≤ 999) ∧ (1 ≤ s.Many ∧ s.Many ≤ 200)
  · rw [W_id (z := s.First + s.Many) (by omega), W_id (by omega)]
    simp only [ite_gt, ite_and]
    by_cases hv : VStreet s
    · rw [if_pos hv]; exact if_pos hv
    · rw [if_neg hv]; exact if_neg hv
  · have : ¬ VStreet s := fun k => h ⟨k.2.2.2.1, k.2.2.2.2.1⟩
    simp only [this, if_false]
    by_cases h1 : 1 ≤ s.First ∧ s.First ≤ 999
    · have h2 : ¬ (1 ≤ s.Many ∧ s.Many ≤ 200) := fun k => h ⟨h1, k⟩
      simp only [h1, h2, if_false, ite_self]
    · simp only [h1, if_false, ite_self]
theorem rCheckStreet_eq (s : TStreet) : m_R01_CheckStreet s = some (if VStreet s then 0 else 11) := by
  rw [← CheckStreet_eq]; rfl
def hasB (s : TStreet) (lamp : Int) : Bool := decide (s.First ≤ lamp ∧ lamp ≤ W (W (s.First + s.Many) - 1))
theorem has_eq (s : TStreet) (lamp : Int) : m_bylaw_has s lamp = some (hasB s lamp) := by unfold m_bylaw_has; rw [in_eq]; rfl
theorem VStreet.has {s : TStreet} (h : VStreet s) (lamp : Int) : hasB s lamp = decide (s.First ≤ lamp ∧ lamp < s.First + s.Many) := by
  obtain ⟨_, _, _, h1, h2, h3⟩ := h
  unfold hasB
  rw [W_id (z := s.First + s.Many) (by omega), W_id (by omega)]
  congr 2
  exact propext ⟨fun h => by omega, fun h => by omega⟩
noncomputable def stepIf {α σ R : Type} (ok : σ → α → Prop) (nx : σ → α → σ) (c : R) (s : σ) (x : α) : Sum σ R := if ok s x then .inl (nx s x) else .inr c
theorem stepIf_pos {α σ R : Type} {ok : σ → α → Prop} {nx : σ → α → σ} {c : R} {s : σ} {x : α} (h : ok s x) : stepIf ok nx c s x = .inl (nx s x) := if_pos h
theorem stepIf_neg {α σ R : Type} {ok : σ → α → Prop} {nx : σ → α → σ} {c : R} {s : σ} {x : α} (h : ¬ ok s x) : stepIf ok nx c s x = .inr c := if_neg h
theorem runL_if {α σ R : Type} (ok : σ → α → Prop) (nx : σ → α → σ) (c : R) (l : List α) (s : σ) (Q : List α → σ → Prop) (h0 : ∀ s, Q [] s) (h : ∀ x l s, Q (x :: l) s ↔ ok s x ∧ Q l (nx s x)) :
    runL (stepIf ok nx c) l s = if Q l s then .inl (l.foldl nx s) else .inr c := by
  induction l generalizing s with
  | nil => rw [if_pos (h0 s)]; rfl
  | cons x l ih =>
    simp only [runL]
    by_cases hk : ok s x
    · rw [stepIf_pos hk]
      simp only
      rw [ih]
      by_cases hq : Q l (nx s x)
      · rw [if_pos hq, if_pos ((h x l s).2 ⟨hk, hq⟩)]; rfl
      · rw [if_neg hq, if_neg (fun hh => hq ((h x l s).1 hh).2)]
    · rw [stepIf_neg hk, if_neg (fun hh => hk ((h x l s).1 hh).1)]
def chain {α : Type} (V : α → Prop) (num : α → Int) : List α → Option Int → Prop
  | [], _ => True
  | x :: l, p => (V x ∧ ∀ q, p = some q → q < num x) ∧ chain V num l (some (num x))
theorem chain_iff {α : Type} (V : α → Prop) (num : α → Int) (l : List α) (p : Option Int) : chain V num l p ↔ (∀ x, x ∈ l → V x) ∧ l.Pairwise (fun a b => num a < num b) ∧ ∀ q, p = some q → ∀ x, x ∈ l → q < num x := by
  induction l generalizing p with
  | nil => simp [chain]
  | cons x l ih =>
    simp only [chain, ih, List.mem_cons, List.pairwise_cons, forall_eq_or_imp, Option.some.injEq, forall_eq']
    constructor
    · rintro ⟨⟨h1, h2⟩, h3, h4, h5⟩
      exact ⟨⟨h1, h3⟩, ⟨h5, h4⟩, fun q hq => ⟨h2 q hq, fun y hy => by have := h2 q hq; have := h5 y hy; omega⟩⟩
    · rintro ⟨⟨h1, h3⟩, ⟨h5, h4⟩, h2⟩
      exact ⟨⟨h1, fun q hq => (h2 q hq).1⟩, h3, h4, h5⟩
def numOf {α : Type} (num : α → Int) : List α → Option Int := fun pre => pre.getLast?.map num
theorem chain_loop {α E : Type} {body : Int → Option (Sum Int E)} {V : α → Prop} {num : α → Int} {l : List α} (hl : l.length ≤ 9223372036854775807) (c : E) (fin : E)
    (h : ∀ pre x post, l = pre ++ x :: post → body (pre.length : Int) = some (if V x ∧ ∀ q, numOf num pre = some q → q < num x then .inl ((pre.length + 1 : Nat) : Int) else .inr c))
    (he : body (l.length : Int) = some (.inr fin)) : loopF body 0 = some (if (∀ x, x ∈ l → V x) ∧ l.Pairwise (fun a b => num a < num b) then fin else c) := by
  have hr := loop_list (body := body) (R := E) l hl (fun k (_ : Option Int) => (k : Int)) (stepIf (fun s x => V x ∧ ∀ q, s = some q → q < num x) (fun _ x => some (num x)) c) id (fun _ => fin) (fun pre s => s = numOf num pre)
    (fun pre x post s hp hs => by
      subst hs
      rw [h pre x post hp]
      by_cases hk : V x ∧ ∀ q, numOf num pre = some q → q < num x
      · have e := stepIf_pos (ok := fun s x => V x ∧ ∀ q, s = some q → q < num x) (nx := fun _ x => some (num x)) (c := c) hk
        rw [if_pos hk, e]
        exact ⟨rfl, fun s' hs' => by cases hs'; simp [numOf]⟩
      · have e := stepIf_neg (ok := fun s x => V x ∧ ∀ q, s = some q → q < num x) (nx := fun _ x => some (num x)) (c := c) hk
        rw [if_neg hk, e]
        exact ⟨rfl, fun s' hs' => by cases hs'⟩) (fun s _ => he) none rfl
  have h0 : ((0 : Nat) : Int) = 0 := rfl
  rw [h0] at hr
  rw [hr, runL_if (fun s x => V x ∧ ∀ q, s = some q → q < num x) (fun _ x => some (num x)) c l none (fun l s => chain V num l s) (fun _ => trivial) (fun _ _ _ => Iff.rfl)]
  have hc := chain_iff V num l none
  by_cases hq : chain V num l none
  · rw [if_pos hq, if_pos ⟨(hc.1 hq).1, (hc.1 hq).2.1⟩]
  · rw [if_neg hq, if_neg (fun hh => hq (hc.2 ⟨hh.1, hh.2, by simp⟩))]; rfl
theorem ahead {α : Type} {num : α → Int} {pre post : List α} {x : α} (hl : (pre ++ x :: post).length ≤ 9223372036854775807) :
    (pre = [] ∧ numOf num pre = none ∧ decide ((pre.length : Int) > 0) = false) ∨ ∃ y, decide ((pre.length : Int) > 0) = true ∧ idx (pre ++ x :: post) (W ((pre.length : Int) - 1)) = some y ∧ numOf num pre = some (num y) := by
  rcases List.eq_nil_or_concat pre with rfl | ⟨r, y, rfl⟩
  · left; exact ⟨rfl, rfl, by simp⟩
  · right
    simp at hl
    refine ⟨y, by simp, ?_, by simp [numOf]⟩
    have : W (((r.concat y).length : Int) - 1) = (r.length : Int) := by
      rw [W_id (by simp; omega)]; simp
    rw [this]
    unfold idx
    simp
theorem gd_pos {α : Type} {p : Prop} [Decidable p] {k : Option α} (h : p) : gd p k = k := by unfold gd; rw [if_pos h]
theorem Wsucc {α : Type} {pre post : List α} {x : α} (hl : (pre ++ x :: post).length ≤ 9223372036854775807) : W ((pre.length : Int) + 1) = ((pre.length + 1 : Nat) : Int) := W_s (by simp at hl; omega)
theorem areVersions_eq (l : List TVersion) (most : Int) (hl : l.length ≤ 9223372036854775807) : m_bylaw_areAll_api_Version__bylaw_CheckVersion__bylaw_sourceOf l most = some (decide (((∀ x, x ∈ l → VVersion x) ∧ l.Pairwise (fun a b => a.Source < b.Source)) ∧ (l.length : Int) ≤ most)) := by
  unfold m_bylaw_areAll_api_Version__bylaw_CheckVersion__bylaw_sourceOf
  rw [chain_loop (V := VVersion) (num := TVersion.Source) (l := l) hl (.inr false) (.inl (l.length : Int)) ?_ ?_]
  · by_cases h : (∀ x, x ∈ l → VVersion x) ∧ l.Pairwise (fun a b => a.Source < b.Source)
    · rw [if_pos h]
      simp only [Option.bind_some]
      congr 1
      exact decide_eq_decide.2 ⟨fun k => ⟨h, k⟩, fun k => k.2⟩
    · rw [if_neg h]
      simp only [Option.bind_some]
      congr 1
      exact (decide_eq_false fun k => h k.1).symm
  · rintro pre x post rfl
    unfold m_bylaw_areAll_api_Version__bylaw_CheckVersion__bylaw_sourceOf_L1
    simp only [lt_pre, decide_true, if_true, idx_pre, Option.bind_some, CheckVersion_eq, m_bylaw_sourceOf]
    by_cases hv : VVersion x
    · rcases ahead (num := TVersion.Source) hl with ⟨h1, h2, h3⟩ | ⟨y, h1, h2, h3⟩
      · simp only [hv, if_true, h2, h3, Wsucc hl, bne_self_eq_false, Bool.false_eq_true, if_false]; simp
      · simp only [hv, if_true, h1, h2, h3, Option.bind_some, Wsucc hl, true_and, Option.some.injEq, forall_eq']
        by_cases hq : y.Source < x.Source
        · have : ¬ y.Source ≥ x.Source := by omega
          simp [hq, this]
        · have : y.Source ≥ x.Source := by omega
          simp [hq, this]
    · simp [hv]
  · unfold m_bylaw_areAll_api_Version__bylaw_CheckVersion__bylaw_sourceOf_L1
    simp
theorem areStreets_eq (l : List TStreet) (most : Int) (hl : l.length ≤ 9223372036854775807) : m_bylaw_areAll_api_Street__bylaw_CheckStreet__bylaw_idOf l most = some (decide (((∀ x, x ∈ l → VStreet x) ∧ l.Pairwise (fun a b => a.Id < b.Id)) ∧ (l.length : Int) ≤ most)) := by
  unfold m_bylaw_areAll_api_Street__bylaw_CheckStreet__bylaw_idOf
  rw [chain_loop (V := VStreet) (num := TStreet.Id) (l := l) hl (.inr false) (.inl (l.length : Int)) ?_ ?_]
  · by_cases h : (∀ x, x ∈ l → VStreet x) ∧ l.Pairwise (fun a b => a.Id < b.Id)
    · rw [if_pos h]
      simp only [Option.bind_some]
      congr 1
      exact decide_eq_decide.2 ⟨fun k => ⟨h, k⟩, fun k => k.2⟩
    · rw [if_neg h]
      simp only [Option.bind_some]
      congr 1
      exact (decide_eq_false fun k => h k.1).symm
  · rintro pre x post rfl
    unfold m_bylaw_areAll_api_Street__bylaw_CheckStreet__bylaw_idOf_L1
    simp only [lt_pre, decide_true, if_true, idx_pre, Option.bind_some, CheckStreet_eq, m_bylaw_idOf]
    by_cases hv : VStreet x
    · rcases ahead (num := TStreet.Id) hl with ⟨h1, h2, h3⟩ | ⟨y, h1, h2, h3⟩
      · simp only [hv, if_true, h2, h3, Wsucc hl, bne_self_eq_false, Bool.false_eq_true, if_false]; simp
      · simp only [hv, if_true, h1, h2, h3, Option.bind_some, Wsucc hl, true_and, Option.some.injEq, forall_eq']
        by_cases hq : y.Id < x.Id
        · have : ¬ y.Id ≥ x.Id := by omega
          simp [hq, this]
        · have : y.Id ≥ x.Id := by omega
          simp [hq, this]
    · simp [hv]
  · unfold m_bylaw_areAll_api_Street__bylaw_CheckStreet__bylaw_idOf_L1
    simp
theorem all_loop {α E : Type} {body : Int → Option (Sum Int E)} {V : α → Prop} {l : List α} (hl : l.length ≤ 9223372036854775807) (c : E) (fin : E)
    (h : ∀ pre x post, l = pre ++ x :: post → (∀ y, y ∈ pre → V y) → body (pre.length : Int) = some (if V x then .inl ((pre.length + 1 : Nat) : Int) else .inr c))
    (he : body (l.length : Int) = some (.inr fin)) : loopF body 0 = some (if ∀ x, x ∈ l → V x then fin else c) := by
  have hr := loop_list (body := body) (R := E) l hl (fun k (_ : Unit) => (k : Int)) (stepIf (fun _ x => V x) (fun s _ => s) c) id (fun _ => fin) (fun pre _ => ∀ y, y ∈ pre → V y)
    (fun pre x post s hp hpre => by
      rw [h pre x post hp hpre]
      by_cases hk : V x
      · have e := stepIf_pos (ok := fun _ x => V x) (nx := fun s _ => s) (c := c) (s := s) hk
        rw [if_pos hk, e]
        refine ⟨rfl, fun s' _ y hy => ?_⟩
        rcases List.mem_append.1 hy with h | h
        · exact hpre y h
        · simp at h; subst h; exact hk
      · have e := stepIf_neg (ok := fun _ x => V x) (nx := fun s _ => s) (c := c) (s := s) hk
        rw [if_neg hk, e]
        exact ⟨rfl, fun s' hs' => by cases hs'⟩) (fun s _ => he) () (by simp)
  have h0 : ((0 : Nat) : Int) = 0 := rfl
  rw [h0] at hr
  rw [hr, runL_if (fun _ x => V x) (fun s _ => s) c l () (fun l _ => ∀ x, x ∈ l → V x) (by simp) (by simp)]
  by_cases hq : ∀ x, x ∈ l → V x
  · rw [if_pos hq, if_pos hq]
  · rw [if_neg hq, if_neg hq]; rfl
def meets (s t : TStreet) : Prop := t.First < s.First + s.Many ∧ s.First < t.First + t.Many
structure VBylaw (b : TBylaw) : Prop where
  vers : ∀ v, v ∈ b.Versions → VVersion v
  vsort : b.Versions.Pairwise (fun a c => a.Source < c.Source)
  vlen : b.Versions.length ≤ 60
  sts : ∀ s, s ∈ b.Streets → VStreet s
  ssort : b.Streets.Pairwise (fun a c => a.Id < c.Id)
  slen : b.Streets.length ≤ 20
  apart : b.Streets.Pairwise (fun s t => ¬ meets s t)
theorem pair_cases {α : Type} {R : α → α → Prop} (l : List α) : l.Pairwise R ↔ ∀ pre x post, l = pre ++ x :: post → ∀ y, y ∈ pre → R y x := by
  constructor
  · rintro h pre x post rfl y hy
    exact (List.pairwise_append.1 h).2.2 y hy x (List.mem_cons_self ..)
  · intro h
    rw [List.pairwise_iff_getElem]
    intro i j hi hj hij
    exact h (l.take j) l[j] (l.drop (j + 1)) (by rw [← List.drop_eq_getElem_cons hj, List.take_append_drop]) _ (List.mem_take_iff_getElem.2 ⟨i, by omega, rfl⟩)
theorem Check_L4_eq (x : TStreet) (l : List TStreet) (hl : l.length ≤ 9223372036854775807) (hx : VStreet x) (hv : ∀ y, y ∈ l → VStreet y) : loopF (m_bylaw_Check_L4 x l) 0 = some (if ∀ y, y ∈ l → ¬ meets y x then .inl (l.length : Int) else .inr 13) := by
  refine Eq.trans (all_loop (V := fun y => ¬ meets y x) hl (.inr 13) (.inl (l.length : Int)) ?_ ?_) (by congr)
  · rintro pre y post rfl _
    unfold m_bylaw_Check_L4
    have hy := hv y (by simp)
    simp only [lt_pre, decide_true, if_true, idx_pre, Option.bind_some, has_eq, hx.has, hy.has, Wsucc hl]
    have hxm := hx.2.2.2.2.1
    have hym := hy.2.2.2.2.1
    unfold meets
    by_cases h1 : x.First ≤ y.First ∧ y.First < x.First + x.Many
    · have : (x.First < y.First + y.Many ∧ y.First < x.First + x.Many) := by omega
      simp [h1, this]
    · by_cases h2 : y.First ≤ x.First ∧ x.First < y.First + y.Many
      · have : (x.First < y.First + y.Many ∧ y.First < x.First + x.Many) := by omega
        simp [h1, h2, this]
      · have : ¬ (x.First < y.First + y.Many ∧ y.First < x.First + x.Many) := by omega
        simp only [h1, h2, this, decide_false, Bool.false_eq_true, if_false, not_false_eq_true, if_true]
  · unfold m_bylaw_Check_L4; simp
theorem Check_eq (b : TBylaw) (h1 : b.Versions.length ≤ 9223372036854775807) (h2 : b.Streets.length ≤ 9223372036854775807) : m_bylaw_Check b = some (if VBylaw b then 0 else 13) := by
  unfold m_bylaw_Check
  rw [areVersions_eq _ _ h1, areStreets_eq _ _ h2]
  simp only [Option.bind_some, ite_not]
  by_cases ha : ((∀ x, x ∈ b.Versions → VVersion x) ∧ b.Versions.Pairwise (fun a b => a.Source < b.Source)) ∧ (b.Versions.length : Int) ≤ 60
  · by_cases hb : ((∀ x, x ∈ b.Streets → VStreet x) ∧ b.Streets.Pairwise (fun a b => a.Id < b.Id)) ∧ (b.Streets.length : Int) ≤ 20
    · rw [if_pos ha, if_pos hb]
      have hloop : loopF (m_bylaw_Check_L3 b) 0 = some (if b.Streets.Pairwise (fun s t => ¬ meets s t) then .inl (b.Streets.length : Int) else .inr 13) := by
        have hr := loop_list (body := m_bylaw_Check_L3 b) (R := Unit) b.Streets h2 (fun k (_ : Unit) => (k : Int)) (stepIf (fun _ x => ∀ pre post, b.Streets = pre ++ x :: post → ∀ y, y ∈ pre → ¬ meets y x) (fun s _ => s) ()) (fun _ => .inr 13) (fun _ => .inl (b.Streets.length : Int)) (fun _ _ => True)
          (fun pre x post s hp _ => by
            refine ⟨?_, fun _ _ => trivial⟩
            have hnd : b.Streets.Pairwise (fun a b => a ≠ b) := hb.1.2.imp fun h e => by subst e; omega
            have hu : ∀ pre' post', b.Streets = pre' ++ x :: post' → pre' = pre := by
              intro pre' post' hp'
              have hd : (pre ++ x :: post).Nodup := by rw [← hp]; exact hnd
              rw [hp] at hp'
              have hlen : pre'.length = pre.length := by
                have hx1 : (pre ++ x :: post)[pre.length]? = some x := by simp
                have hx2 : (pre ++ x :: post)[pre'.length]? = some x := by rw [hp']; simp
                have hlt1 : pre.length < (pre ++ x :: post).length := by simp
                exact ((List.getElem?_inj hlt1 hd).1 (by rw [hx1, hx2])).symm
              exact (List.append_inj hp'.symm (by omega)).1
            have hcond : (∀ pre' post', b.Streets = pre' ++ x :: post' → ∀ y, y ∈ pre' → ¬ meets y x) ↔ ∀ y, y ∈ pre → ¬ meets y x := ⟨fun h => h pre post hp, fun h pre' post' hp' => by rw [hu pre' post' hp']; exact h⟩
            have hsub : sub b.Streets 0 ((pre.length : Int)).toNat = pre := by rw [hp]; simp [sub]
            unfold m_bylaw_Check_L3
            have hidx : idx b.Streets (pre.length : Int) = some x := by rw [hp]; exact idx_pre
            have hlt : (pre.length : Int) < (b.Streets.length : Int) := by rw [hp]; exact lt_pre
            have hg : 0 ≤ (pre.length : Int) ∧ (pre.length : Int) ≤ (b.Streets.length : Int) := by omega
            simp only [hlt, decide_true, if_true, hidx, Option.bind_some, gd_pos hg, hsub]
            rw [Check_L4_eq x pre (by omega) (hb.1.1 x (by rw [hp]; simp)) (fun y hy => hb.1.1 y (by rw [hp]; simp [hy]))]
            have hw : W ((pre.length : Int) + 1) = ((pre.length + 1 : Nat) : Int) := W_s (by omega)
            by_cases hk : ∀ y, y ∈ pre → ¬ meets y x
            · have e := stepIf_pos (ok := fun _ x => ∀ pre post, b.Streets = pre ++ x :: post → ∀ y, y ∈ pre → ¬ meets y x) (nx := fun s _ => s) (c := ()) (s := s) (hcond.2 hk)
              rw [if_pos hk, e]; simp [hw]
            · have e := stepIf_neg (ok := fun _ x => ∀ pre post, b.Streets = pre ++ x :: post → ∀ y, y ∈ pre → ¬ meets y x) (nx := fun s _ => s) (c := ()) (s := s) (fun h => hk (hcond.1 h))
              rw [if_neg hk, e]; rfl) (fun s _ => by unfold m_bylaw_Check_L3; simp) () trivial
        have h0 : ((0 : Nat) : Int) = 0 := rfl
        rw [h0] at hr
        rw [hr, runL_if (fun _ x => ∀ pre post, b.Streets = pre ++ x :: post → ∀ y, y ∈ pre → ¬ meets y x) (fun s _ => s) () b.Streets () (fun l _ => ∀ x, x ∈ l → ∀ pre post, b.Streets = pre ++ x :: post → ∀ y, y ∈ pre → ¬ meets y x) (by simp) (fun x l s => by simp only [List.mem_cons, forall_eq_or_imp])]
        have hiff : (∀ x, x ∈ b.Streets → ∀ pre post, b.Streets = pre ++ x :: post → ∀ y, y ∈ pre → ¬ meets y x) ↔ b.Streets.Pairwise (fun s t => ¬ meets s t) := by
          rw [pair_cases]
          exact ⟨fun h pre x post hp y hy => h x (by rw [hp]; simp) pre post hp y hy, fun h x _ pre post hp y hy => h pre x post hp y hy⟩
        by_cases hk : b.Streets.Pairwise (fun s t => ¬ meets s t)
        · rw [if_pos hk, if_pos (hiff.2 hk)]
        · rw [if_neg hk, if_neg (fun h => hk (hiff.1 h))]
      rw [hloop]
      by_cases hk : b.Streets.Pairwise (fun s t => ¬ meets s t)
      · have : VBylaw b := ⟨ha.1.1, ha.1.2, by omega, hb.1.1, hb.1.2, by omega, hk⟩
        rw [if_pos hk, if_pos this]; rfl
      · have : ¬ VBylaw b := fun h => hk h.apart
        rw [if_neg hk, if_neg this]; rfl
    · have : ¬ VBylaw b := fun h => hb ⟨⟨h.sts, h.ssort⟩, by have := h.slen; omega⟩
      rw [if_pos ha, if_neg hb, if_neg this]
  · have : ¬ VBylaw b := fun h => ha ⟨⟨h.vers, h.vsort⟩, by have := h.vlen; omega⟩
    rw [if_neg ha, if_neg this]
theorem pre_loop {α E : Type} {body : Int → Option (Sum Int E)} {ok : List α → α → Prop} {l : List α} (hl : l.length ≤ 9223372036854775807) (c : E) (fin : E)
    (h : ∀ pre x post, l = pre ++ x :: post → (∀ p y q, pre = p ++ y :: q → ok p y) → body (pre.length : Int) = some (if ok pre x then .inl ((pre.length + 1 : Nat) : Int) else .inr c))
    (he : body (l.length : Int) = some (.inr fin)) : loopF body 0 = some (if ∀ pre x post, l = pre ++ x :: post → ok pre x then fin else c) := by
  have hr := loop_list (body := body) (R := E) l hl (fun k (_ : List α) => (k : Int)) (stepIf ok (fun s x => s ++ [x]) c) id (fun _ => fin) (fun pre s => s = pre ∧ ∀ p y q, pre = p ++ y :: q → ok p y)
    (fun pre x post s hp hpre => by
      obtain ⟨rfl, hpre⟩ := hpre
      rw [h s x post hp hpre]
      by_cases hk : ok s x
      · rw [if_pos hk, stepIf_pos hk]
        refine ⟨rfl, fun s' hs' => ?_⟩
        cases hs'
        refine ⟨rfl, fun p y q hpq => ?_⟩
        rcases List.eq_nil_or_concat q with rfl | ⟨r, z, rfl⟩
        · have := List.append_inj' hpq rfl
          obtain ⟨h1, h2⟩ := this
          cases h2; subst h1; exact hk
        · have e : s ++ [x] = (p ++ y :: r) ++ [z] := by rw [hpq]; simp
          exact hpre p y r (List.append_inj' e rfl).1
      · rw [if_neg hk, stepIf_neg hk]
        exact ⟨rfl, fun s' hs' => by cases hs'⟩) (fun s _ => he) [] ⟨rfl, fun p y q h => by simp at h⟩
  have h0 : ((0 : Nat) : Int) = 0 := rfl
  rw [h0] at hr
  rw [hr, runL_if ok (fun s x => s ++ [x]) c l [] (fun l s => ∀ pre x post, l = pre ++ x :: post → ok (s ++ pre) x) (fun s pre x post h => by simp at h) (fun x l s => ?_)]
  · by_cases hq : ∀ pre x post, l = pre ++ x :: post → ok pre x
    · rw [if_pos hq, if_pos (by simpa using hq)]
    · rw [if_neg hq, if_neg (by simpa using hq)]; rfl
  · constructor
    · intro h
      refine ⟨by simpa using h [] x l rfl, fun pre y post hp => ?_⟩
      have := h (x :: pre) y post (by simp [hp])
      simpa using this
    · rintro ⟨h1, h2⟩ pre y post hp
      cases pre with
      | nil => simp at hp; obtain ⟨rfl, rfl⟩ := hp; simpa using h1
      | cons z pre =>
        simp at hp
        obtain ⟨rfl, hp⟩ := hp
        have := h2 pre y post hp
        simpa using this
theorem rCheck_L6_eq (b : TBylaw) {pre post : List TStreet} {x : TStreet} (hp : b.Streets = pre ++ x :: post) (hl : b.Streets.length ≤ 9223372036854775807) (hx : VStreet x) (hv : ∀ y, y ∈ pre → VStreet y) : loopF (m_R01_Check_L6 b (pre.length : Int) x) 0 = some (if ∀ y, y ∈ pre → ¬ meets y x then .inl (pre.length : Int) else .inr 13) := by
  have hle : pre.length ≤ 9223372036854775807 := by rw [hp] at hl; simp at hl; omega
  refine Eq.trans (all_loop (V := fun y => ¬ meets y x) hle (.inr 13) (.inl (pre.length : Int)) ?_ ?_) (by congr)
  · rintro p y q rfl _
    unfold m_R01_Check_L6 m_R01_meet
    have hy := hv y (by simp)
    have hidx : idx b.Streets (p.length : Int) = some y := by rw [hp, List.append_assoc]; exact idx_pre
    have hxm := hx.2.2.2.1
    have hym := hy.2.2.2.1
    have hx2 := hx.2.2.2.2.1
    have hy2 := hy.2.2.2.2.1
    simp only [lt_pre, decide_true, if_true, hidx, Option.bind_some, Wsucc hle]
    rw [W_id (z := x.First + x.Many) (by omega), W_id (z := y.First + y.Many) (by omega)]
    unfold meets
    by_cases h1 : y.First < x.First + x.Many
    · by_cases h2 : x.First < y.First + y.Many
      · simp [h1, h2]
      · simp [h1, h2]
    · simp [h1]
  · unfold m_R01_Check_L6; simp
theorem rCheck_eq (b : TBylaw) (h1 : b.Versions.length ≤ 9223372036854775807) (h2 : b.Streets.length ≤ 9223372036854775807) : m_R01_Check b = some (if VBylaw b then 0 else 13) := by
  unfold m_R01_Check
  by_cases g1 : (b.Versions.length : Int) > 60
  · have : ¬ VBylaw b := fun h => by have := h.vlen; omega
    simp [g1, this]
  by_cases g2 : (b.Streets.length : Int) > 20
  · have : ¬ VBylaw b := fun h => by have := h.slen; omega
    simp [g1, g2, this]
  simp only [g1, g2, decide_false, Bool.false_eq_true, if_false]
  have l1 : loopF (m_R01_Check_L1 b) 0 = some (if (∀ x, x ∈ b.Versions → VVersion x) ∧ b.Versions.Pairwise (fun a b => a.Source < b.Source) then .inl (b.Versions.length : Int) else .inr 13) := by
    refine Eq.trans (chain_loop (V := VVersion) (num := TVersion.Source) h1 (.inr 13) (.inl (b.Versions.length : Int)) ?_ ?_) (by congr)
    · intro pre x post hp
      have hl : (pre ++ x :: post).length ≤ 9223372036854775807 := by rw [← hp]; exact h1
      unfold m_R01_Check_L1
      rw [hp]
      simp only [lt_pre, decide_true, if_true, idx_pre, Option.bind_some, rCheckVersion_eq]
      by_cases hv : VVersion x
      · rcases ahead (num := TVersion.Source) hl with ⟨h1, h2, h3⟩ | ⟨y, h1, h2, h3⟩
        · simp only [hv, if_true, h2, h3, Wsucc hl, bne_self_eq_false, Bool.false_eq_true, if_false]; simp
        · simp only [hv, if_true, h1, h2, h3, Option.bind_some, Wsucc hl, true_and, Option.some.injEq, forall_eq']
          by_cases hq : y.Source < x.Source
          · have : ¬ y.Source ≥ x.Source := by omega
            simp [hq, this]
          · have : y.Source ≥ x.Source := by omega
            simp [hq, this]
      · simp [hv]
    · unfold m_R01_Check_L1; simp
  rw [l1]
  by_cases ha : (∀ x, x ∈ b.Versions → VVersion x) ∧ b.Versions.Pairwise (fun a b => a.Source < b.Source)
  · rw [if_pos ha]
    simp only [Option.bind_some]
    have l5 := pre_loop (body := m_R01_Check_L5 b) (ok := fun pre x => (VStreet x ∧ ∀ q, numOf TStreet.Id pre = some q → q < x.Id) ∧ ∀ y, y ∈ pre → ¬ meets y x) (l := b.Streets) h2 (.inr 13) (.inl (b.Streets.length : Int)) (by
      intro pre x post hp hpre
      have hl : (pre ++ x :: post).length ≤ 9223372036854775807 := by rw [← hp]; exact h2
      have hvp : ∀ y, y ∈ pre → VStreet y := fun y hy => by
        obtain ⟨p, q, rfl⟩ := List.append_of_mem hy
        exact (hpre p y q rfl).1.1
      have hidx : idx b.Streets (pre.length : Int) = some x := by rw [hp]; exact idx_pre
      have hlt : (pre.length : Int) < (b.Streets.length : Int) := by rw [hp]; exact lt_pre
      unfold m_R01_Check_L5
      simp only [hlt, decide_true, if_true, hidx, Option.bind_some, rCheckStreet_eq]
      by_cases hv : VStreet x
      · have l6 := rCheck_L6_eq b hp h2 hv hvp
        rcases ahead (num := TStreet.Id) hl with ⟨h1, h2, h3⟩ | ⟨y, h1, h2, h3⟩
        · simp only [hv, if_true, h2, h3, Wsucc hl, bne_self_eq_false, Bool.false_eq_true, if_false, l6, Option.bind_some]
          by_cases hm : ∀ y, y ∈ pre → ¬ meets y x
          · rw [if_pos hm, if_pos ⟨⟨trivial, by simp⟩, hm⟩]
          · rw [if_neg hm, if_neg (fun h => hm h.2)]
        · have h2' : idx b.Streets (W ((pre.length : Int) - 1)) = some y := by rw [hp]; exact h2
          simp only [hv, if_true, h1, h2', h3, Option.bind_some, Wsucc hl, true_and, Option.some.injEq, forall_eq', bne_self_eq_false, Bool.false_eq_true, if_false, l6]
          by_cases hq : y.Id < x.Id
          · have : ¬ y.Id ≥ x.Id := by omega
            simp only [hq, this, decide_false, Bool.false_eq_true, if_false, true_and]
            by_cases hm : ∀ y, y ∈ pre → ¬ meets y x
            · rw [if_pos hm, if_pos hm]
            · rw [if_neg hm, if_neg hm]
          · have : y.Id ≥ x.Id := by omega
            simp [hq, this]
      · simp [hv]) (by unfold m_R01_Check_L5; simp)
    rw [l5]
    have hiff : (∀ pre x post, b.Streets = pre ++ x :: post → (VStreet x ∧ ∀ q, numOf TStreet.Id pre = some q → q < x.Id) ∧ ∀ y, y ∈ pre → ¬ meets y x) ↔ VBylaw b := by
      constructor
      · intro h
        have hv : ∀ s, s ∈ b.Streets → VStreet s := fun s hs => by
          obtain ⟨p, q, hpq⟩ := List.append_of_mem hs
          exact (h p s q hpq).1.1
        have hch : ∀ (l p : List TStreet), b.Streets = p ++ l → chain VStreet TStreet.Id l (numOf TStreet.Id p) := by
          intro l
          induction l with
          | nil => intro p _; trivial
          | cons x l ih =>
            intro p hp
            refine ⟨(h p x l hp).1, ?_⟩
            have := ih (p ++ [x]) (by simp [hp])
            simpa [numOf] using this
        have hc := (chain_iff VStreet TStreet.Id b.Streets none).1 (hch b.Streets [] rfl)
        exact ⟨ha.1, ha.2, by omega, hv, hc.2.1, by omega, (pair_cases _).2 fun pre x post hp => (h pre x post hp).2⟩
      · intro h pre x post hp
        refine ⟨⟨h.sts x (by rw [hp]; simp), fun q hq => ?_⟩, fun y hy => (pair_cases _).1 h.apart pre x post hp y hy⟩
        simp only [numOf] at hq
        cases hg : pre.getLast? with
        | none => rw [hg] at hq; cases hq
        | some y =>
          rw [hg] at hq
          cases hq
          exact (pair_cases _).1 h.ssort pre x post hp y (List.mem_of_getLast? hg)
    by_cases hb : VBylaw b
    · rw [if_pos hb, if_pos (hiff.2 hb)]; rfl
    · rw [if_neg hb, if_neg (fun h => hb (hiff.1 h))]; rfl
  · have : ¬ VBylaw b := fun h => ha ⟨h.vers, h.vsort⟩
    rw [if_neg ha, if_neg this]; rfl
def stF (b : TBylaw) (lamp : Int) : Option TStreet := b.Streets.find? (hasB · lamp)
def noStreet : TStreet := ⟨0, 0, 0, 0, 0⟩
theorem streetOf_eq (b : TBylaw) (lamp : Int) (hl : b.Streets.length ≤ 9223372036854775807) : m_bylaw_streetOf b lamp = some (match stF b lamp with | some s => (s, 0) | none => (noStreet, 15)) := by
  unfold m_bylaw_streetOf
  have hi : m_slices_IndexFunc_api_Street_api_Street__bylaw_streetOf_1 b.Streets lamp = some (match b.Streets.findIdx? (hasB · lamp) with | some i => (i : Int) | none => -1) :=
    idxF_eq (fun s => m_bylaw_streetOf_1 s lamp) (p := (hasB · lamp)) b.Streets (fun x _ => by unfold m_bylaw_streetOf_1; rw [has_eq]; rfl) hl
  rw [hi]
  unfold stF
  cases hf : b.Streets.findIdx? (hasB · lamp) with
  | none =>
    have : b.Streets.find? (hasB · lamp) = none := List.find?_eq_none.2 fun x hx => by simpa using List.findIdx?_eq_none_iff.1 hf x hx
    rw [this]; rfl
  | some i =>
    obtain ⟨h1, h2, h3⟩ := List.findIdx?_eq_some_iff_getElem.1 hf
    have : b.Streets.find? (hasB · lamp) = some b.Streets[i] := by
      rw [List.find?_eq_some_iff_getElem]
      exact ⟨h2, i, h1, rfl, fun j hj => by have := h3 j hj; simpa using this⟩
    rw [this]
    have hn : ¬ ((i : Int) < 0) := by omega
    simp only [Option.bind_some, hn, decide_false, Bool.false_eq_true, if_false, idx_n h1]
theorem street_eq (b : TBylaw) (lamp : Int) (hl : b.Streets.length ≤ 9223372036854775807) : m_R01_street b lamp = some (match stF b lamp with | some s => (s, true) | none => (noStreet, false)) := by
  unfold m_R01_street
  have hr := loop_list (body := m_R01_street_L1 b lamp) b.Streets hl (fun k (_ : Unit) => (k : Int)) (fun s x => if hasB x lamp = true then .inr x else .inl s) (fun x => .inr (x, true)) (fun _ => .inl (b.Streets.length : Int)) (fun _ _ => True)
    (fun pre x post s hp _ => by
      refine ⟨?_, fun _ _ => trivial⟩
      have hll : (pre ++ x :: post).length ≤ 9223372036854775807 := by rw [← hp]; exact hl
      have hw : m_R01_Within lamp x.First (W (W (x.First + x.Many) - 1)) = some (hasB x lamp) := Within_eq _ _ _
      unfold m_R01_street_L1
      rw [hp]
      simp only [lt_pre, decide_true, if_true, idx_pre, Option.bind_some, hw, Wsucc hll]
      by_cases h : hasB x lamp = true
      · simp [h]
      · simp [h]) (fun s _ => by unfold m_R01_street_L1; simp) () trivial
  have h0 : ((0 : Nat) : Int) = 0 := rfl
  rw [h0] at hr
  rw [hr]
  have hk : ∀ (l : List TStreet) (u : Unit), runL (fun (s : Unit) x => if hasB x lamp = true then Sum.inr x else Sum.inl s) l u = match l.find? (hasB · lamp) with | some s => .inr s | none => .inl u := by
    intro l u
    induction l with
    | nil => rfl
    | cons x l ih =>
      simp only [runL, List.find?_cons]
      by_cases h : hasB x lamp = true
      · simp [h]
      · simp only [h, if_false, Bool.false_eq_true]; exact ih
  rw [hk]
  unfold stF
  cases b.Streets.find? (hasB · lamp) <;> rfl
def zeroV : TVersion := ⟨0, 0, 0, ⟨0, 0⟩, ⟨0, 0⟩, 0, 0, 0, 0⟩
def counts (v : TVersion) (known : Int) : Prop := v.Known ≤ known ∧ (v.Until = 0 ∨ v.Until > known)
noncomputable def stepV (class_ night known : Int) (o v : TVersion) : TVersion := if v.Class = class_ ∧ v.From ≤ night ∧ counts v known ∧ v.From ≥ o.From then v else o
noncomputable def vF (b : TBylaw) (class_ night known : Int) : TVersion := b.Versions.foldl (stepV class_ night known) zeroV
def encV (k : Nat) (o : TVersion) : (Int × Int × Int × Int × Int × Int × Int × Int × Int × Int × Int × Int) := ((k : Int), o.Source, o.Class, o.From, o.On.Lo, o.On.Hi, o.Off.Lo, o.Off.Hi, o.Moon, o.Fog, o.Known, o.Until)
theorem zeroV_iff (o : TVersion) : ((o.Source == 0) && ((o.Class == 0) && ((o.From == 0) && ((o.On.Lo == 0) && ((o.On.Hi == 0) && ((o.Off.Lo == 0) && ((o.Off.Hi == 0) && ((o.Moon == 0) && ((o.Fog == 0) && ((o.Known == 0) && (o.Until == 0))))))))))) = decide (o = zeroV) := by
  obtain ⟨a1, a2, a3, ⟨a4, a5⟩, ⟨a6, a7⟩, a8, a9, a10, a11⟩ := o
  rw [Bool.eq_iff_iff]
  simp [zeroV, and_assoc]
theorem inForce_eq (b : TBylaw) (class_ night known : Int) (hl : b.Versions.length ≤ 9223372036854775807) : m_bylaw_inForce b class_ night known = some (vF b class_ night known, if vF b class_ night known = zeroV then 14 else 0) := by
  have hr := loop_list (body := m_bylaw_inForce_L1 b class_ night known) (R := Unit) b.Versions hl encV (fun o v => .inl (stepV class_ night known o v)) (fun _ => encV 0 zeroV) (fun o => encV b.Versions.length o) (fun _ _ => True)
    (fun pre x post o hp _ => by
      refine ⟨?_, fun _ _ => trivial⟩
      have hll : (pre ++ x :: post).length ≤ 9223372036854775807 := by rw [← hp]; exact hl
      unfold m_bylaw_inForce_L1 encV
      rw [hp]
      simp only [lt_pre, decide_true, if_true, idx_pre, Option.bind_some, Wsucc hll]
      by_cases h : x.Class = class_ ∧ x.From ≤ night ∧ counts x known ∧ x.From ≥ o.From
      · have e : stepV class_ night known o x = x := if_pos h
        rw [e]
        obtain ⟨h1, h2, ⟨h3, h4⟩, h5⟩ := h
        rcases h4 with h4 | h4
        · simp [h1, h2, h3, h4, h5]
        · simp [h1, h2, h3, h4, h5]
      · have e : stepV class_ night known o x = o := if_neg h
        rw [e]
        unfold counts at h
        (repeat' split) <;> first | rfl | (exfalso; apply h; simp_all)) (fun o _ => by unfold m_bylaw_inForce_L1 encV; simp) zeroV trivial
  rw [runL_foldl] at hr
  unfold m_bylaw_inForce
  rw [show (0, 0, 0, 0, 0, 0, 0, 0, 0, 0, 0, 0) = encV 0 zeroV from rfl, hr]
  simp only [Option.bind_some, encV]
  rw [zeroV_iff]
  show (if decide (vF b class_ night known = zeroV) = true then some (vF b class_ night known, (14 : Int)) else some (vF b class_ night known, 0)) = _
  by_cases h : vF b class_ night known = zeroV
  · rw [if_pos (by simpa using h), if_pos h]
  · rw [if_neg (by simpa using h), if_neg h]
theorem VVersion.ne {v : TVersion} (h : VVersion v) : v ≠ zeroV := fun e => by have := h.1.1; rw [e] at this; simp [zeroV] at this
theorem stepV_cases (c n k : Int) (o v : TVersion) : stepV c n k o v = v ∨ stepV c n k o v = o := by unfold stepV; split <;> simp
def encR (k : Nat) (s : Bool × TVersion) : (Bool × Int × Int × Int × Int × Int × Int × Int × Int × Int × Int × Int × Int) := (s.1, encV k s.2)
theorem Counts_eq (v : TVersion) (known : Int) : m_R01_Counts v.Known v.Until known = some (decide (counts v known)) := by
  unfold m_R01_Counts counts
  by_cases h : v.Known ≤ known
  · by_cases hu : v.Until = 0
    · simp [h, hu]
    · simp [h, hu]
  · simp [h]
theorem rinForce_eq {b : TBylaw} (hb : VBylaw b) (class_ night known : Int) : m_R01_inForce b class_ ⟨night, known⟩ = some (vF b class_ night known, decide (vF b class_ night known ≠ zeroV)) := by
  have hl : b.Versions.length ≤ 9223372036854775807 := by have := hb.vlen; omega
  have hr := loop_list (body := m_R01_inForce_L1 b class_ ⟨night, known⟩) (R := Unit) b.Versions hl encR (fun s v => .inl (decide (stepV class_ night known s.2 v ≠ zeroV), stepV class_ night known s.2 v)) (fun _ => encR 0 (false, zeroV)) (fun o => encR b.Versions.length o) (fun _ s => s.1 = decide (s.2 ≠ zeroV) ∧ (s.2 = zeroV ∨ VVersion s.2))
    (fun pre x post s hp hs => by
      have hll : (pre ++ x :: post).length ≤ 9223372036854775807 := by rw [← hp]; exact hl
      have hx : VVersion x := hb.vers x (by rw [hp]; simp)
      obtain ⟨is, o⟩ := s
      obtain ⟨h1, h2⟩ := hs
      simp only at h1 h2
      rw [h1]
      clear h1
      refine ⟨?_, fun s' hs' => ?_⟩
      · unfold m_R01_inForce_L1 encR encV
        rw [hp]
        simp only [lt_pre, decide_true, if_true, idx_pre, Option.bind_some, Wsucc hll, Counts_eq]
        by_cases h : x.Class = class_ ∧ x.From ≤ night ∧ counts x known ∧ x.From ≥ o.From
        · have e : stepV class_ night known o x = x := if_pos h
          rw [e]
          obtain ⟨h1, h2, h3, h4⟩ := h
          by_cases ho : o = zeroV
          · simp [h1, h2, h3, ho, hx.ne]
          · simp [h1, h2, h3, h4, ho, hx.ne]
        · have e : stepV class_ night known o x = o := if_neg h
          rw [e]
          have hz : o = zeroV → x.From ≥ o.From := fun e => by rw [e]; exact hx.2.2.1.1
          (repeat' split) <;> first | rfl | (exfalso; apply h; simp_all)
      · cases hs'
        refine ⟨rfl, ?_⟩
        rcases stepV_cases class_ night known o x with h | h
        · simp only [h]; exact .inr hx
        · simp only [h]; exact h2) (fun o _ => by unfold m_R01_inForce_L1 encR encV; simp) (false, zeroV) ⟨by simp, .inl rfl⟩
  unfold m_R01_inForce
  rw [show (false, (0 : Int), (0 : Int), (0 : Int), (0 : Int), (0 : Int), (0 : Int), (0 : Int), (0 : Int), (0 : Int), (0 : Int), (0 : Int), (0 : Int)) = encR 0 (false, zeroV) from rfl, hr, runL_foldl]
  have key : ∀ (l : List TVersion) (o : TVersion) (is : Bool), is = decide (o ≠ zeroV) → l.foldl (fun (s : Bool × TVersion) v => (decide (stepV class_ night known s.2 v ≠ zeroV), stepV class_ night known s.2 v)) (is, o) = (decide (l.foldl (stepV class_ night known) o ≠ zeroV), l.foldl (stepV class_ night known) o) := by
    intro l
    induction l with
    | nil => intro o is h; rw [h]; rfl
    | cons x l ih => intro o is _; exact ih _ _ rfl
  rw [key _ _ _ (by simp)]
  rfl
@[irreducible] def lampNo : List Int := (List.range 999).map fun k : Nat => (k : Int) + 1
theorem lampNo_len : lampNo.length = 999 := by unfold lampNo; rw [List.length_map, List.length_range]
theorem lampNo_get {pre post : List Int} {x : Int} (h : lampNo = pre ++ x :: post) : x = (pre.length : Int) + 1 ∧ pre.length < 999 := by
  have hx : lampNo[pre.length]? = some x := by rw [h]; simp
  have hl : pre.length < 999 := by have := congrArg List.length h; rw [lampNo_len] at this; simp at this; omega
  unfold lampNo at hx
  rw [List.getElem?_map, List.getElem?_range hl] at hx
  simp only [Option.map_some, Option.some.injEq] at hx
  omega
def isLamp (b : TBylaw) (d lamp : Int) : Bool := match stF b lamp with | some s => decide (d = 0 ∨ s.District = d) | none => false
def lampsL (b : TBylaw) (d : Int) : List Int := lampNo.filter (isLamp b d)
theorem lampsL_len (b : TBylaw) (d : Int) : (lampsL b d).length ≤ 999 := by
  have := List.length_filter_le (isLamp b d) lampNo
  rw [lampNo_len] at this
  exact this
theorem lamps_it (b : TBylaw) (d : Int) (h2 : b.Streets.length ≤ 9223372036854775807) : it_bylaw_lamps_1 b d = some (lampsL b d, ()) := by
  unfold it_bylaw_lamps_1
  have hr := loopI_list (body := it_bylaw_lamps_1_L1 b d) lampNo (by rw [lampNo_len]; omega) (fun k => (k : Int) + 1) (fun x => if isLamp b d x = true then [x] else []) (1000 : Int)
    (fun pre x post hp => by
      obtain ⟨hx, hl⟩ := lampNo_get hp
      subst hx
      unfold it_bylaw_lamps_1_L1 isLamp
      have c : (pre.length : Int) + 1 ≤ 999 := by omega
      have w : W ((pre.length : Int) + 1 + 1) = ((pre.length + 1 : Nat) : Int) + 1 := by rw [W_id (by omega)]; simp
      simp only [c, decide_true, if_true, streetOf_eq b _ h2, Option.bind_some, w]
      cases hs : stF b ((pre.length : Int) + 1) with
      | none => simp
      | some s =>
        by_cases hd : d = 0
        · simp [hd, emit]
        · by_cases hd2 : s.District = d
          · simp [hd, hd2, emit]
          · simp [hd, hd2]) (by rw [lampNo_len]; unfold it_bylaw_lamps_1_L1; simp)
  have h0 : ((0 : Nat) : Int) + 1 = 1 := rfl
  rw [h0] at hr
  rw [hr]
  unfold bindI
  simp only [List.append_nil]
  congr 2
  unfold lampsL
  generalize lampNo = l
  induction l with
  | nil => rfl
  | cons x l ih =>
    simp only [List.flatMap_cons, List.filter_cons, ih]
    by_cases h : isLamp b d x = true <;> simp [h]
theorem rlamps_eq (b : TBylaw) (d : Int) (h2 : b.Streets.length ≤ 9223372036854775807) : m_R01_lamps b d = some (lampsL b d) := by
  unfold m_R01_lamps
  have hr := loop_list (body := m_R01_lamps_L1 b d) (R := Unit) lampNo (by rw [lampNo_len]; omega) (fun k (o : List Int) => (([] : List Int), (k : Int) + 1, o)) (fun o x => .inl (if isLamp b d x = true then o ++ [x] else o)) (fun _ => ([], 0, [])) (fun o => ([], 1000, o)) (fun pre o => o.length ≤ pre.length)
    (fun pre x post o hp ho => by
      obtain ⟨hx, hl⟩ := lampNo_get hp
      subst hx
      refine ⟨?_, fun s' hs' => by cases hs'; split <;> simp <;> omega⟩
      unfold m_R01_lamps_L1 isLamp
      have c : (pre.length : Int) + 1 ≤ 999 := by omega
      have w : W ((pre.length : Int) + 1 + 1) = ((pre.length + 1 : Nat) : Int) + 1 := by rw [W_id (by omega)]; simp
      have g : (o.length + ([(pre.length : Int) + 1] : List Int).length) * 8 ≤ 140737488355328 ∧ o.length + ([(pre.length : Int) + 1] : List Int).length ≤ 9223372036854775807 := by simp; omega
      simp only [c, decide_true, if_true, street_eq b _ h2, Option.bind_some, w, gd_pos g]
      cases hs : stF b ((pre.length : Int) + 1) with
      | none => simp
      | some s =>
        by_cases hd : d = 0
        · simp [hd]
        · by_cases hd2 : s.District = d
          · simp [hd, hd2]
          · simp [hd, hd2]) (fun s _ => by rw [lampNo_len]; unfold m_R01_lamps_L1; simp) [] (by simp)
  have h0 : ((0 : Nat) : Int) + 1 = 1 := rfl
  simp only [h0] at hr
  rw [hr, runL_foldl]
  simp only [Option.bind_some]
  congr 1
  have key : ∀ (l o : List Int), l.foldl (fun o x => if isLamp b d x = true then o ++ [x] else o) o = o ++ l.filter (isLamp b d) := by
    intro l
    induction l with
    | nil => simp
    | cons x l ih =>
      intro o
      simp only [List.foldl_cons, List.filter_cons, ih]
      by_cases h : isLamp b d x = true <;> simp [h]
  rw [key]; rfl
theorem range_filter {m : List Int → Int → Option (Sum (List Int) Unit)} {p : Int → Bool} (l : List Int) (h : ∀ x, x ∈ l → ∀ o : List Int, o.length ≤ 1000 → m o x = some (.inl (if p x = true then o ++ [x] else o))) (hl : l.length ≤ 999) : rangeF m l [] = some (.inl (l.filter p)) := by
  have key : ∀ (l o : List Int), (∀ x, x ∈ l → ∀ o : List Int, o.length ≤ 1000 → m o x = some (.inl (if p x = true then o ++ [x] else o))) → o.length + l.length ≤ 1000 → rangeF m l o = some (.inl (o ++ l.filter p)) := by
    intro l
    induction l with
    | nil => intro o _ _; simp [rangeF]
    | cons x l ih =>
      intro o h ho
      simp only [List.length_cons] at ho
      simp only [rangeF, h x (List.mem_cons_self ..) o (by omega)]
      rw [ih _ (fun y hy => h y (List.mem_cons_of_mem _ hy)) (by split <;> (try simp) <;> omega)]
      by_cases hp : p x = true <;> simp [hp]
  have := key l [] h (by simp; omega)
  simpa using this
theorem Same_self (l : List Int) (h : l.length ≤ 9223372036854775807) : m_R01_Same l l = some true := by
  unfold m_R01_Same
  have := all_loop (body := m_R01_Same_L1 l l) (V := fun _ => True) h (.inr false) (.inl (l.length : Int)) (fun pre x post hp _ => by
    have hll : (pre ++ x :: post).length ≤ 9223372036854775807 := by rw [← hp]; exact h
    unfold m_R01_Same_L1
    rw [hp]
    simp only [lt_pre, decide_true, if_true, idx_pre, Option.bind_some, Wsucc hll, bne_self_eq_false, Bool.false_eq_true, if_false]) (by unfold m_R01_Same_L1; simp)
  rw [this]
  simp
def truthOK (x : TTruth) : Prop := 0 ≤ x.Set ∧ x.Set ≤ x.Rise ∧ x.Rise ≤ 1439 ∧ (0 ≤ x.Light ∧ x.Light ≤ 1000)
def fogOK (n : TNight) (f : Bool) : Bool := match f with | true => n.Fog != 0 | false => n.Fog != 1
structure Of (n : TNight) (x : TTruth) : Prop where
  s : n.Set.Lo ≤ x.Set ∧ x.Set ≤ n.Set.Hi
  r : n.Rise.Lo ≤ x.Rise ∧ x.Rise ≤ n.Rise.Hi
  l : n.Light.Lo ≤ x.Light ∧ x.Light ≤ n.Light.Hi
  f : fogOK n x.Fog = true
theorem Of.ok {n : TNight} (hn : VNight n) {x : TTruth} (h : Of n x) : truthOK x := by
  obtain ⟨_, h2, h3, h4, h5, _⟩ := hn
  obtain ⟨a, b, c, _⟩ := h
  unfold truthOK
  omega
def dOf (v : TVersion) : List Int := if v.Until = 0 then [v.Known] else [v.Known, v.Until]
def dL (l : List TVersion) : List Int := l.flatMap dOf
theorem dOf_len (v : TVersion) : (dOf v).length ≤ 2 := by unfold dOf; split <;> simp
theorem dL_len : ∀ (l : List TVersion), (dL l).length ≤ 2 * l.length
  | [] => by simp [dL]
  | v :: l => by
    have := dL_len l
    have h2 := dOf_len v
    unfold dL at *
    rw [List.flatMap_cons, List.length_append, List.length_cons]
    omega
noncomputable def datesF (b : TBylaw) : List Int := compI (sortI (dL b.Versions))
theorem mem_dates {b : TBylaw} {x : Int} : x ∈ datesF b ↔ x ∈ dL b.Versions := by unfold datesF; rw [mem_compI, mem_sortI]
theorem dates_lt (b : TBylaw) : (datesF b).Pairwise (fun a c => a < c) := compI_lt (sortI_sorted _)
theorem dates_len {b : TBylaw} (hb : VBylaw b) : (datesF b).length ≤ 120 := by
  have h1 := compI_len (sortI (dL b.Versions))
  rw [sortI_len] at h1
  have h2 := dL_len b.Versions
  have h3 := hb.vlen
  unfold datesF; omega
theorem Dates_eq (b : TBylaw) (h1 : b.Versions.length ≤ 9223372036854775807) (h2 : b.Streets.length ≤ 9223372036854775807) : m_bylaw_Dates b = some (if VBylaw b then (datesF b, 0) else ([], 13)) := by
  unfold m_bylaw_Dates
  rw [Check_eq b h1 h2, Option.bind_some]
  by_cases hb : VBylaw b
  rotate_left
  · rw [if_neg hb, if_pos (by decide), if_neg hb]
  rw [if_pos hb, if_neg (by decide), if_pos hb]
  have hvl := hb.vlen
  have hA := loop_list (body := m_bylaw_Dates_L1 b) (R := Unit) b.Versions h1 (fun k (o : List Int) => (([] : List Int), (k : Int), o)) (fun o v => .inl (o ++ dOf v)) (fun _ => ([], 0, [])) (fun o => ([], (b.Versions.length : Int), o)) (fun pre o => o.length ≤ 2 * pre.length)
    (fun pre v post o he hP => by
      have hlen : pre.length + 1 + post.length = b.Versions.length := by rw [he]; simp; omega
      have hx : idx b.Versions (pre.length : Int) = some v := by rw [he]; exact idx_pre
      have g1 : (o.length + ([v.Known] : List Int).length) * 8 ≤ 140737488355328 ∧ o.length + ([v.Known] : List Int).length ≤ 9223372036854775807 := by simp only [List.length_cons, List.length_nil]; omega
      have g2 : ((o ++ ([v.Known] : List Int)).length + ([v.Until] : List Int).length) * 8 ≤ 140737488355328 ∧ (o ++ ([v.Known] : List Int)).length + ([v.Until] : List Int).length ≤ 9223372036854775807 := by simp only [List.length_append, List.length_cons, List.length_nil]; omega
      have hd := dOf_len v
      refine ⟨?_, fun s' hs' => by cases hs'; simp only [List.length_append, List.length_cons, List.length_nil]; omega⟩
      unfold m_bylaw_Dates_L1
      dsimp only
      rw [if_pos (by simp; omega), hx, Option.bind_some, gd_pos g1, gd_pos g2, W_s (by omega)]
      unfold dOf
      by_cases h : v.Until = 0
      · rw [if_neg (by simp [h]), if_pos h]
      · rw [if_pos (by simpa using h), if_neg h]; simp)
    (fun o hP => by
      unfold m_bylaw_Dates_L1
      dsimp only
      rw [if_neg (by simp)]) [] (Nat.le_refl _)
  have hA' : loopF (m_bylaw_Dates_L1 b) ([], 0, []) = _ := hA
  rw [hA', runL_foldl]
  have key : ∀ (l : List TVersion) (o : List Int), l.foldl (fun o v => o ++ dOf v) o = o ++ dL l := by
    intro l
    induction l with
    | nil => simp [dL]
    | cons v l ih => intro o; rw [List.foldl_cons, ih]; simp [dL]
  rw [key, Option.bind_some]
  dsimp only
  rw [List.nil_append]
  have h3 := dL_len b.Versions
  unfold m_slices_Sort_int_int m_slices_Compact_int_int
  rw [gd_pos (by omega), Option.bind_some, Option.bind_some]
  rfl
theorem pl_sane : m_L01_sane = some true := by decide +kernel
def atI (t : Int) (k : Nat) (x : Int) : Sum Nat Nat := if x < t then .inl (k + 1) else .inr k
theorem runL_atI (t : Int) : ∀ (post pre : List Int), (∀ x, x ∈ pre → x < t) → ∃ k, (match runL (atI t) post pre.length with | .inl s => s | .inr r => r) = k ∧ k ≤ (pre ++ post).length ∧ (∀ x, x ∈ (pre ++ post).take k → x < t) ∧ ∀ x, (pre ++ post)[k]? = some x → ¬ x < t
  | [], pre, h => ⟨pre.length, rfl, by simp, fun x hx => h x (by simpa using hx), fun x hx => by simp at hx⟩
  | y :: post, pre, h => by
    by_cases hy : y < t
    · have e : atI t pre.length y = .inl (pre ++ [y]).length := by unfold atI; rw [if_pos hy]; simp
      have := runL_atI t post (pre ++ [y]) (fun x hx => by
        rcases List.mem_append.1 hx with hx | hx
        · exact h x hx
        · rw [List.mem_singleton.1 hx]; exact hy)
      rw [runL, e]
      simpa using this
    · have e : atI t pre.length y = .inr pre.length := if_neg hy
      rw [runL, e]
      refine ⟨pre.length, rfl, by simp, fun x hx => h x ?_, fun x hx => ?_⟩
      · simpa using hx
      · have : x = y := by simpa using hx.symm
        rw [this]; exact hy
theorem put_loop (l : List Int) (hl : l.length ≤ 1000) (n : Int) : ∃ k : Nat, loopF (m_R01_Put_L1 l n) 0 = some (k : Int) ∧ k ≤ l.length ∧ (∀ x, x ∈ l.take k → x < n) ∧ ∀ x, l[k]? = some x → ¬ x < n := by
  have hA := loop_list (body := m_R01_Put_L1 l n) (S := Int) l (by omega) (fun k (_ : Nat) => (k : Int)) (atI n) (fun r => ((r : Nat) : Int)) (fun s => ((s : Nat) : Int)) (fun pre s => s = pre.length)
    (fun pre x post s he hP => ⟨by
      subst hP
      have hx : idx l (pre.length : Int) = some x := by rw [he]; exact idx_pre
      have hlen : l.length = pre.length + 1 + post.length := by rw [he]; simp; omega
      unfold m_R01_Put_L1
      rw [if_pos (by simp; omega), hx, Option.bind_some]
      by_cases hlt : x < n
      · have q : atI n pre.length x = .inl (pre.length + 1) := if_pos hlt
        rw [if_pos (by simpa using hlt), q, W_s (by omega)]
      · have q : atI n pre.length x = .inr pre.length := if_neg hlt
        rw [if_neg (by simpa using hlt), q], fun s' hs' => by
      subst hP
      by_cases hlt : x < n
      · have q : atI n pre.length x = .inl (pre.length + 1) := if_pos hlt
        rw [q] at hs'; cases hs'; simp
      · have q : atI n pre.length x = .inr pre.length := if_neg hlt
        rw [q] at hs'; cases hs'⟩)
    (fun s hP => by
      subst hP
      unfold m_R01_Put_L1
      rw [if_neg (by simp)]) 0 rfl
  have hA' : loopF (m_R01_Put_L1 l n) 0 = _ := hA
  obtain ⟨k, h1, h2⟩ := runL_atI n l [] (fun x hx => by simp at hx)
  refine ⟨k, ?_, by simpa using h2.1, by simpa using h2.2.1, by simpa using h2.2.2⟩
  rw [hA']
  simp only [List.length_nil] at h1
  revert h1
  cases runL (atI n) l 0 with
  | inl s => intro h1; simp only at h1 ⊢; rw [h1]
  | inr s => intro h1; simp only at h1 ⊢; rw [h1]
theorem Put_ex (l : List Int) (hl : l.length ≤ 1000) (hs : l.Pairwise (fun a c => a < c)) (n : Int) : ∃ r, m_R01_Put l n = some r ∧ r.Pairwise (fun a c => a < c) ∧ (∀ x, x ∈ r ↔ x ∈ l ∨ x = n) ∧ r.length ≤ l.length + 1 := by
  obtain ⟨k, e, hk, h1, h2⟩ := put_loop l hl n
  have s1 : sub l 0 ((k : Int)).toNat = l.take k := by simp [sub]
  have s2 : sub l ((k : Int)).toNat l.length = l.drop k := by
    simp only [sub, Int.toNat_natCast]
    exact List.take_of_length_le (by simp)
  have g1 : 0 ≤ (k : Int) ∧ (k : Int) ≤ (l.length : Int) := by omega
  have hk2 : (l.take k).length = k := by simp; omega
  have hk3 : (l.drop k).length = l.length - k := by simp
  have g2 : (([] : List Int).length + (l.take k).length) * 8 ≤ 140737488355328 ∧ ([] : List Int).length + (l.take k).length ≤ 9223372036854775807 := by rw [hk2]; simp only [List.length_nil]; omega
  have g3 : ((([] : List Int) ++ l.take k).length + ([n] : List Int).length) * 8 ≤ 140737488355328 ∧ (([] : List Int) ++ l.take k).length + ([n] : List Int).length ≤ 9223372036854775807 := by rw [List.nil_append, hk2]; simp only [List.length_cons, List.length_nil]; omega
  have g4 : (((([] : List Int) ++ l.take k) ++ ([n] : List Int)).length + (l.drop k).length) * 8 ≤ 140737488355328 ∧ ((([] : List Int) ++ l.take k) ++ ([n] : List Int)).length + (l.drop k).length ≤ 9223372036854775807 := by rw [List.nil_append, List.length_append, hk2, hk3]; simp only [List.length_cons, List.length_nil]; omega
  have main : (∀ x, x ∈ l.drop k → n < x) → ((([] : List Int) ++ l.take k) ++ ([n] : List Int) ++ l.drop k).Pairwise (fun a c => a < c) ∧ (∀ x, x ∈ (([] : List Int) ++ l.take k) ++ ([n] : List Int) ++ l.drop k ↔ x ∈ l ∨ x = n) ∧ ((([] : List Int) ++ l.take k) ++ ([n] : List Int) ++ l.drop k).length ≤ l.length + 1 := by
    intro hd
    refine ⟨?_, fun x => ?_, ?_⟩
    · rw [List.nil_append, List.pairwise_append, List.pairwise_append]
      refine ⟨⟨hs.sublist (List.take_sublist _ _), List.pairwise_singleton .., fun a ha c hc => by rw [List.mem_singleton.1 hc]; exact h1 a ha⟩, hs.sublist (List.drop_sublist _ _), fun a ha c hc => ?_⟩
      have hc := hd c hc
      rcases List.mem_append.1 ha with ha | ha
      · have := h1 a ha; omega
      · rw [List.mem_singleton.1 ha]; exact hc
    · conv => rhs; rw [← List.take_append_drop k l]
      simp only [List.nil_append, List.mem_append, List.mem_singleton]
      constructor
      · rintro ((h | h) | h)
        · exact .inl (.inl h)
        · exact .inr h
        · exact .inl (.inr h)
      · rintro ((h | h) | h)
        · exact .inl (.inl h)
        · exact .inr h
        · exact .inl (.inr h)
    · simp only [List.nil_append, List.length_append, List.length_cons, List.length_nil, hk2, hk3]; omega
  unfold m_R01_Put
  rw [e, Option.bind_some]
  by_cases hlt : k < l.length
  · have hx : idx l (k : Int) = some l[k] := by unfold idx; simp [hlt]
    have hn := h2 l[k] (List.getElem?_eq_getElem hlt)
    rw [if_pos (by simpa using hlt), hx, Option.bind_some]
    by_cases heq : l[k] = n
    · rw [if_pos (by simpa using heq)]
      exact ⟨l, rfl, hs, fun x => ⟨.inl, fun h => by rcases h with h | h; exact h; rw [h, ← heq]; exact List.getElem_mem hlt⟩, by omega⟩
    · rw [if_neg (by simpa using heq), s1, s2, gd_pos g1, Option.bind_some, gd_pos g1, Option.bind_some, gd_pos g2, gd_pos g3, gd_pos g4]
      refine ⟨_, rfl, main fun x hx => ?_⟩
      obtain ⟨j, hj, rfl⟩ := List.mem_drop_iff_getElem.1 hx
      have hp := List.pairwise_iff_getElem.1 hs
      by_cases h0 : j = 0
      · subst h0; simp only [Nat.add_zero]; omega
      · have := hp k (k + j) hlt (by omega) (by omega); omega
  · rw [if_neg (by simpa using hlt), s1, s2, gd_pos g1, Option.bind_some, gd_pos g1, Option.bind_some, gd_pos g2, gd_pos g3, gd_pos g4]
    refine ⟨_, rfl, main fun x hx => ?_⟩
    rw [List.drop_of_length_le (by omega)] at hx
    simp at hx
structure DI' (pre : List TVersion) (o : List Int) : Prop where
  s : o.Pairwise (fun a c => a < c)
  m : ∀ x, x ∈ o ↔ x ∈ dL pre
  n : o.length ≤ 2 * pre.length
theorem rDates_eq (b : TBylaw) (h1 : b.Versions.length ≤ 9223372036854775807) (h2 : b.Streets.length ≤ 9223372036854775807) : m_R01_Dates b = some (if VBylaw b then (datesF b, 0) else ([], 13)) := by
  unfold m_R01_Dates
  rw [rCheck_eq b h1 h2, Option.bind_some]
  by_cases hb : VBylaw b
  rotate_left
  · rw [if_neg hb, if_pos (by decide), if_neg hb]
  rw [if_pos hb, if_neg (by decide), if_pos hb]
  have hvl := hb.vlen
  let f : List Int → TVersion → List Int := fun o v => ((m_R01_Put o v.Known).bind fun x => if v.Until > 0 then m_R01_Put x v.Until else some x).getD []
  have hstep : ∀ pre v post o, b.Versions = pre ++ v :: post → DI' pre o → m_R01_Dates_L1 b (o, (pre.length : Int)) = some (.inl (f o v, ((pre.length + 1 : Nat) : Int))) ∧ DI' (pre ++ [v]) (f o v) := by
    intro pre v post o he hP
    have hlen : pre.length + 1 + post.length = b.Versions.length := by rw [he]; simp; omega
    have hx : idx b.Versions (pre.length : Int) = some v := by rw [he]; exact idx_pre
    have vv := hb.vers v (by rw [he]; simp)
    obtain ⟨_, _, _, _, _, _, _, q1, q2⟩ := vv
    have hn := hP.n
    obtain ⟨r1, e1, a1, a2, a3⟩ := Put_ex o (by omega) hP.s v.Known
    have hd : dL (pre ++ [v]) = dL pre ++ dOf v := by simp [dL]
    by_cases hu : v.Until > 0
    · obtain ⟨r2, e2, b1, b2, b3⟩ := Put_ex r1 (by omega) a1 v.Until
      have hf : f o v = r2 := by simp only [f, e1, Option.bind_some, if_pos hu, e2, Option.getD_some]
      rw [hf]
      constructor
      · unfold m_R01_Dates_L1
        dsimp only
        rw [if_pos (by simp; omega), hx, Option.bind_some, e1, Option.bind_some, if_pos (by simpa using hu), e2, Option.bind_some, W_s (by omega)]
      · refine ⟨b1, fun x => ?_, by simp only [List.length_append, List.length_cons, List.length_nil]; omega⟩
        have hu0 : v.Until ≠ 0 := by omega
        rw [b2, a2, hP.m, hd, List.mem_append]
        unfold dOf
        rw [if_neg hu0]
        simp only [List.mem_cons, List.not_mem_nil, or_false, or_assoc]
    · have hf : f o v = r1 := by simp only [f, e1, Option.bind_some, if_neg hu, Option.getD_some]
      rw [hf]
      constructor
      · unfold m_R01_Dates_L1
        dsimp only
        rw [if_pos (by simp; omega), hx, Option.bind_some, e1, Option.bind_some, if_neg (by simpa using hu), W_s (by omega)]
      · refine ⟨a1, fun x => ?_, by simp only [List.length_append, List.length_cons, List.length_nil]; omega⟩
        have hu0 : v.Until = 0 := by omega
        rw [a2, hP.m, hd, List.mem_append]
        unfold dOf
        rw [if_pos hu0]
        simp only [List.mem_cons, List.not_mem_nil, or_false]
  have hA := loop_list (body := m_R01_Dates_L1 b) (R := Unit) b.Versions h1 (fun k (o : List Int) => (o, (k : Int))) (fun o v => .inl (f o v)) (fun _ => ([], 0)) (fun o => (o, (b.Versions.length : Int))) DI'
    (fun pre v post o he hP => ⟨(hstep pre v post o he hP).1, fun s' hs' => by cases hs'; exact (hstep pre v post o he hP).2⟩)
    (fun o hP => by
      unfold m_R01_Dates_L1
      dsimp only
      rw [if_neg (by simp)]) [] ⟨List.Pairwise.nil, fun x => by simp [dL], Nat.le_refl _⟩
  have hA' : loopF (m_R01_Dates_L1 b) ([], 0) = _ := hA
  rw [hA', runL_foldl, Option.bind_some]
  have key : ∀ (l pre : List TVersion) (o : List Int), b.Versions = pre ++ l → DI' pre o → DI' b.Versions (l.foldl f o) := by
    intro l
    induction l with
    | nil => intro pre o he h; rw [he, List.append_nil]; exact h
    | cons v l ih => intro pre o he h; exact ih (pre ++ [v]) _ (by rw [he]; simp) (hstep pre v l o he h).2
  have hI := key b.Versions [] [] rfl ⟨List.Pairwise.nil, fun x => by simp [dL], Nat.le_refl _⟩
  have e : b.Versions.foldl f [] = datesF b := rise_eq hI.s (dates_lt b) fun x => by rw [hI.m, mem_dates]
  simp only [e]
theorem InForce_fb (b : TBylaw) (h1 : b.Versions.length ≤ 9223372036854775807) (h2 : b.Streets.length ≤ 9223372036854775807) (c n k : Int) : ∃ v e, m_bylaw_InForce b c n k = some (v, e) ∧ m_R01_InForce b c ⟨n, k⟩ = some (v, e) := by
  unfold m_bylaw_InForce m_R01_InForce
  rw [Check_eq b h1 h2, rCheck_eq b h1 h2]
  by_cases hb : VBylaw b
  rotate_left
  · rw [if_neg hb]; exact ⟨_, _, rfl, rfl⟩
  rw [if_pos hb, in_eq, Within_eq]
  by_cases hc : 1 ≤ c ∧ c ≤ 9
  rotate_left
  · rw [decide_eq_false hc]; exact ⟨_, _, rfl, rfl⟩
  rw [decide_eq_true hc, isNight_eq, IsNight_eq]
  by_cases hn : 0 ≤ n ∧ n ≤ 100000
  rotate_left
  · rw [decide_eq_false hn]; exact ⟨_, _, rfl, rfl⟩
  rw [decide_eq_true hn, isNight_eq, IsNight_eq]
  by_cases hk : 0 ≤ k ∧ k ≤ 100000
  rotate_left
  · rw [decide_eq_false hk]; exact ⟨_, _, rfl, rfl⟩
  rw [decide_eq_true hk, inForce_eq b _ _ _ h1, rinForce_eq hb]
  by_cases hz : vF b c n k = zeroV
  · rw [if_pos hz, decide_eq_false (not_not_intro hz)]
    refine ⟨_, _, rfl, ?_⟩
    show some (zeroV, (14 : Int)) = some (vF b c n k, 14)
    rw [hz]
  · rw [if_neg hz, decide_eq_true hz]; exact ⟨_, _, rfl, rfl⟩
theorem Street_fb (b : TBylaw) (h1 : b.Versions.length ≤ 9223372036854775807) (h2 : b.Streets.length ≤ 9223372036854775807) (lamp : Int) : ∃ v e, m_bylaw_Street b lamp = some (v, e) ∧ m_R01_Street b lamp = some (v, e) := by
  unfold m_bylaw_Street m_R01_Street
  rw [Check_eq b h1 h2, rCheck_eq b h1 h2]
  by_cases hb : VBylaw b
  rotate_left
  · rw [if_neg hb]; exact ⟨_, _, rfl, rfl⟩
  rw [if_pos hb, streetOf_eq b lamp h2, street_eq b lamp h2]
  cases stF b lamp with
  | none => exact ⟨_, _, rfl, rfl⟩
  | some s => exact ⟨_, _, rfl, rfl⟩
theorem collect_eq (b : TBylaw) (h2 : b.Streets.length ≤ 9223372036854775807) (d : Int) : m_slices_Collect_int__bylaw_lamps_1 b d = some (lampsL b d) := by
  unfold m_slices_Collect_int__bylaw_lamps_1 m_slices_AppendSeq_int_int__nil__bylaw_lamps_1
  rw [lamps_it b d h2, Option.bind_some]
  dsimp only
  have hl := lampsL_len b d
  rw [range_filter (p := fun _ => true) (lampsL b d) (fun x _ o ho => by
    unfold m_slices_AppendSeq_int_int__nil__bylaw_lamps_1_L1
    rw [gd_pos (by simp only [List.length_cons, List.length_nil]; omega), if_pos rfl]) hl, Option.bind_some, List.filter_eq_self.2 (fun _ _ => rfl)]
  rfl
theorem Lamps_fb (b : TBylaw) (h1 : b.Versions.length ≤ 9223372036854775807) (h2 : b.Streets.length ≤ 9223372036854775807) : ∃ l e, m_bylaw_Lamps b = some (l, e) ∧ m_R01_Lamps b = some (l, e) ∧ l.length ≤ 999 := by
  unfold m_bylaw_Lamps m_R01_Lamps
  rw [Check_eq b h1 h2, rCheck_eq b h1 h2]
  by_cases hb : VBylaw b
  rotate_left
  · rw [if_neg hb]; exact ⟨[], _, rfl, rfl, by simp⟩
  rw [if_pos hb]
  refine ⟨lampsL b 0, 0, ?_, ?_, lampsL_len b 0⟩
  · rw [Option.bind_some, if_neg (by decide)]
    unfold m_bylaw_lamps
    rw [Option.bind_some]
    dsimp only
    rw [collect_eq b h2, Option.bind_some]
  · rw [Option.bind_some, if_neg (by decide), rlamps_eq b 0 h2, Option.bind_some]
theorem District_fb (b : TBylaw) (h1 : b.Versions.length ≤ 9223372036854775807) (h2 : b.Streets.length ≤ 9223372036854775807) (d : Int) : ∃ l e, m_bylaw_District b d = some (l, e) ∧ m_R01_District b d = some (l, e) ∧ l.length ≤ 999 := by
  unfold m_bylaw_District m_R01_District
  rw [Check_eq b h1 h2, rCheck_eq b h1 h2]
  by_cases hb : VBylaw b
  rotate_left
  · rw [if_neg hb]; exact ⟨[], _, rfl, rfl, by simp⟩
  rw [if_pos hb, in_eq, Within_eq]
  by_cases hd : 1 ≤ d ∧ d ≤ 9
  rotate_left
  · rw [decide_eq_false hd]; exact ⟨[], _, rfl, rfl, by simp⟩
  rw [decide_eq_true hd]
  refine ⟨lampsL b d, 0, ?_, ?_, lampsL_len b d⟩
  · rw [Option.bind_some, if_neg (by decide), Option.bind_some, if_neg (by decide)]
    unfold m_bylaw_lamps
    rw [Option.bind_some]
    dsimp only
    rw [collect_eq b h2, Option.bind_some]
  · rw [Option.bind_some, if_neg (by decide), Option.bind_some, if_neg (by decide), rlamps_eq b d h2, Option.bind_some]
theorem pl_BylawFinds (b : TBylaw) (a : TAsk) (night : Int) (h0 : TBylaw.G b) (_ : TAsk.G a) (_ : InK .i64 night) : m_L01_BylawFinds b a night = some true := by
  have h1 : b.Versions.length ≤ 9223372036854775807 := h0.1.2.1
  have h2 : b.Streets.length ≤ 9223372036854775807 := h0.2.2.1
  obtain ⟨v, e1, p1, q1⟩ := InForce_fb b h1 h2 a.Class night a.Known
  obtain ⟨s, e2, p2, q2⟩ := Street_fb b h1 h2 a.Lamp
  obtain ⟨l, e3, p3, q3, n3⟩ := Lamps_fb b h1 h2
  obtain ⟨m, e4, p4, q4, n4⟩ := District_fb b h1 h2 a.District
  obtain ⟨d, e5, p5, q5, n5⟩ : ∃ d e, m_bylaw_Dates b = some (d, e) ∧ m_R01_Dates b = some (d, e) ∧ d.length ≤ 1000 := by
    rw [Dates_eq b h1 h2, rDates_eq b h1 h2]
    by_cases hb : VBylaw b
    · rw [if_pos hb]; exact ⟨_, _, rfl, rfl, by have := dates_len hb; omega⟩
    · rw [if_neg hb]; exact ⟨[], _, rfl, rfl, by simp⟩
  unfold m_L01_BylawFinds
  rw [p5, q5, p1, q1, p2, q2, p3, q3, p4, q4]
  simp only [Option.bind_some, Same_self d (by omega), Same_self l (by omega), Same_self m (by omega), beq_self_eq_true, Bool.and_self, if_true, pl_sane]
end Go.Proofs.YtmkkedbfjpkgkaaGreat
