/- What may be read at the types of the statement's parameters; plain facts. -/
import Derived.Test.YtdhjccionnbljaaL1
set_option linter.unusedVariables false
set_option linter.unusedSimpArgs false
namespace Go.Proofs.Ytdhjccionnbljaa
open Go Go.RowKit Go.Sx
def TFrac.G (x : TFrac) : Prop := InK .i64 x.Num ∧ InK .i64 x.Den
theorem op_37 : Opens Try.prog 37 TFrac.c TFrac.G :=
  (Opens.struct Try.underlying37 (OpensF.cons (s := 1) (Opens.int Try.underlying3) (OpensF.last (s := 1) (Opens.int Try.underlying3) rfl (by kernel_rfl) rfl) rfl (by kernel_rfl)) (by kernel_rfl)).iso (fun x => (⟨x.1, x.2⟩ : TFrac)) (fun _ => rfl) (fun _ h => h)
end Go.Proofs.Ytdhjccionnbljaa
namespace Go.Proofs.Ytdhjccionnbljaa
open Go Go.Sx
theorem W_id {z : Int} (h : -9223372036854775808 ≤ z ∧ z ≤ 9223372036854775807) : W z = z := w64 h
theorem gcdO : ∀ (n : Nat) (a b : Int), b.natAbs < n → ∃ g : Int, loopO m_moon_gcd_L1 n (a, b) = some (g, 0) ∧ g.natAbs = Nat.gcd a.natAbs b.natAbs
  | 0, a, b, h => by omega
  | n + 1, a, b, h => by
    by_cases hb : b = 0
    · subst hb
      exact ⟨a, by simp [loopO, m_moon_gcd_L1], by simp⟩
    · have hlt : (a.tmod b).natAbs < b.natAbs := by
        rw [Int.natAbs_tmod]
        exact Nat.mod_lt _ (by omega)
      obtain ⟨g, h1, h2⟩ := gcdO n b (a.tmod b) (by omega)
      refine ⟨g, ?_, ?_⟩
      · simp only [loopO, m_moon_gcd_L1]
        simp [hb, gd, h1]
      · rw [h2, Int.natAbs_tmod, Nat.gcd_comm, ← Nat.gcd_rec, Nat.gcd_comm]
theorem gcdF (a b : Int) (h : b.natAbs < FUEL) : ∃ g : Int, loopF m_moon_gcd_L1 (a, b) = some (g, 0) ∧ g.natAbs = Nat.gcd a.natAbs b.natAbs := gcdO FUEL a b h
theorem frac_L1 : m_R02_frac_L1 = m_moon_gcd_L1 := rfl
def rd (n d : Int) : TFrac := ⟨n / (Nat.gcd n.natAbs d.natAbs : Nat), d / (Nat.gcd n.natAbs d.natAbs : Nat)⟩
abbrev I64 (z : Int) : Prop := -9223372036854775808 < z ∧ z ≤ 9223372036854775807
theorem FUEL_lt {z : Int} (h : I64 z) : z.natAbs < FUEL := by unfold FUEL; omega
theorem gcd_pos {n d : Int} (hd : 0 < d) : 0 < Nat.gcd n.natAbs d.natAbs := Nat.gcd_pos_of_pos_right _ (by omega)
theorem gcd_dvd_n (n d : Int) : ((Nat.gcd n.natAbs d.natAbs : Nat) : Int) ∣ n := by
  rw [Int.ofNat_dvd_left]; exact Nat.gcd_dvd_left _ _
theorem gcd_dvd_d (n d : Int) : ((Nat.gcd n.natAbs d.natAbs : Nat) : Int) ∣ d := by
  rw [Int.ofNat_dvd_left]; exact Nat.gcd_dvd_right _ _
theorem gcd_le {n d : Int} (hd : 0 < d) : ((Nat.gcd n.natAbs d.natAbs : Nat) : Int) ≤ d := by
  have := Nat.le_of_dvd (by omega) (Nat.gcd_dvd_right n.natAbs d.natAbs); omega
theorem div_bd {z g : Int} (hz : I64 z) (hg : 0 < g) : I64 (z.tdiv g) ∧ (g ∣ z → z.tdiv g = z / g) := by
  refine ⟨?_, fun h => ?_⟩
  · have h1 : (z.tdiv g).natAbs ≤ z.natAbs := by rw [Int.natAbs_tdiv]; exact Nat.div_le_self _ _
    omega
  · obtain ⟨k, rfl⟩ := h
    rw [Int.mul_tdiv_cancel_left _ (by omega), Int.mul_ediv_cancel_left _ (by omega)]
theorem least_eq {n d : Int} (hn : I64 n) (hd : 0 < d) (hd2 : I64 d) : m_moon_least n d = some (rd n d) := by
  obtain ⟨g, h1, h2⟩ := gcdF n d (FUEL_lt hd2)
  have hp := gcd_pos (n := n) hd
  have hle := gcd_le (n := n) hd
  have hg : (if W (0 - g) > g then W (0 - g) else g) = ((Nat.gcd n.natAbs d.natAbs : Nat) : Int) := by
    have : W (0 - g) = 0 - g := W_id (by omega)
    rw [this]; split <;> omega
  unfold m_moon_least m_moon_gcd
  rw [h1]
  simp only [Option.bind_some, hg]
  have hne : ((Nat.gcd n.natAbs d.natAbs : Nat) : Int) ≠ 0 := by omega
  simp only [gd, if_pos hne]
  obtain ⟨b1, e1⟩ := div_bd hn (g := ((Nat.gcd n.natAbs d.natAbs : Nat) : Int)) (by omega)
  obtain ⟨b2, e2⟩ := div_bd hd2 (g := ((Nat.gcd n.natAbs d.natAbs : Nat) : Int)) (by omega)
  rw [W_id (by omega), W_id (by omega), e1 (gcd_dvd_n _ _), e2 (gcd_dvd_d _ _)]
  rfl
theorem reduced_eq {x : TFrac} (hn : I64 x.Num) (hd : 0 < x.Den) (hd2 : I64 x.Den) : m_moon_reduced x = some (rd x.Num x.Den) := by
  unfold m_moon_reduced; rw [least_eq hn hd hd2]; rfl
theorem frac_eq {n d : Int} (hn : I64 n) (hd : 0 < d) (hd2 : I64 d) : m_R02_frac n d = some (rd n d) := by
  have hp := gcd_pos (n := n) hd
  have hle := gcd_le (n := n) hd
  have key : ∀ m : Int, I64 m → m.natAbs = n.natAbs → 0 ≤ m → ∃ g : Int, loopF m_R02_frac_L1 (m, d) = some (g, 0) ∧ g = ((Nat.gcd n.natAbs d.natAbs : Nat) : Int) := by
    intro m hm he h0
    rw [frac_L1]
    -- the loop's result is not negative: its numbers are not
    have pos : ∀ (k : Nat) (a b : Int), 0 ≤ a → 0 ≤ b → ∀ g, loopO m_moon_gcd_L1 k (a, b) = some (g, 0) → 0 ≤ g := by
      intro k
      induction k with
      | zero => intro a b _ _ g h; cases h
      | succ k ih =>
        intro a b ha hb g h
        simp only [loopO, m_moon_gcd_L1] at h
        by_cases hb0 : b = 0
        · subst hb0; simp at h; omega
        · simp [hb0, gd] at h
          exact ih b (a.tmod b) hb (Int.tmod_nonneg _ ha) g h
    obtain ⟨g, h1, h2⟩ := gcdF m d (FUEL_lt hd2)
    have := pos FUEL m d h0 (by omega) g h1
    exact ⟨g, h1, by rw [he] at h2; omega⟩
  have hne : ((Nat.gcd n.natAbs d.natAbs : Nat) : Int) ≠ 0 := by omega
  have hb0 : (((Nat.gcd n.natAbs d.natAbs : Nat) : Int) == 0) = false := by simpa using hne
  obtain ⟨b1, e1⟩ := div_bd hn (g := ((Nat.gcd n.natAbs d.natAbs : Nat) : Int)) (by omega)
  obtain ⟨b2, e2⟩ := div_bd hd2 (g := ((Nat.gcd n.natAbs d.natAbs : Nat) : Int)) (by omega)
  unfold m_R02_frac
  rw [if_neg (by simp; omega)]
  by_cases hneg : n < 0
  · rw [if_pos (by simpa using hneg)]
    have hw : W (0 - n) = 0 - n := W_id (by omega)
    obtain ⟨g, h1, rfl⟩ := key (0 - n) (by omega) (by omega) (by omega)
    rw [hw, h1]
    simp only [Option.bind_some, hb0, gd, if_pos hne]
    rw [if_neg (by simp), W_id (by omega), W_id (by omega), e1 (gcd_dvd_n _ _), e2 (gcd_dvd_d _ _)]
    rfl
  · rw [if_neg (by simpa using hneg)]
    obtain ⟨g, h1, rfl⟩ := key n hn rfl (by omega)
    rw [h1]
    simp only [Option.bind_some, hb0, gd, if_pos hne]
    rw [if_neg (by simp), W_id (by omega), W_id (by omega), e1 (gcd_dvd_n _ _), e2 (gcd_dvd_d _ _)]
    rfl
theorem rd_spec {n d : Int} (hd : 0 < d) : ∃ g : Int, 0 < g ∧ n = g * (rd n d).Num ∧ d = g * (rd n d).Den ∧ 0 < (rd n d).Den := by
  have hp := gcd_pos (n := n) hd
  refine ⟨((Nat.gcd n.natAbs d.natAbs : Nat) : Int), by omega, ?_, ?_, ?_⟩
  · exact (Int.mul_ediv_cancel' (gcd_dvd_n n d)).symm
  · exact (Int.mul_ediv_cancel' (gcd_dvd_d n d)).symm
  · have h1 : d = ((Nat.gcd n.natAbs d.natAbs : Nat) : Int) * (rd n d).Den := (Int.mul_ediv_cancel' (gcd_dvd_d n d)).symm
    have h2 : 0 < ((Nat.gcd n.natAbs d.natAbs : Nat) : Int) * (rd n d).Den := by omega
    exact Int.pos_of_mul_pos_right h2 (by omega) |> fun h => h
def cmpI (a b : Int) : Int := if a < b then -1 else if a > b then 1 else 0
def fcmp (x y : TFrac) : Int := cmpI (x.Num * y.Den) (y.Num * x.Den)
theorem cmp_eq (a b : Int) : m_cmp_Compare_int a b = some (cmpI a b) := by
  unfold m_cmp_Compare_int m_cmp_isNaN_int cmpI
  simp
  split <;> simp_all
  split <;> simp_all
structure Sm (x : TFrac) : Prop where
  den : 0 < x.Den
  den2 : x.Den ≤ 20000000
  lo : -7200000000 ≤ x.Num
  hi : x.Num ≤ 7200000000
theorem Sm.I {x : TFrac} (h : Sm x) : I64 x.Num ∧ I64 x.Den := by obtain ⟨_, _, _, _⟩ := h; omega
theorem mul_bd {a b A B : Int} (ha : -A ≤ a ∧ a ≤ A) (hb : 0 ≤ b ∧ b ≤ B) : -(A * B) ≤ a * b ∧ a * b ≤ A * B := by
  have hA : 0 ≤ A := by omega
  have h1 : a * b ≤ A * b := Int.mul_le_mul_of_nonneg_right ha.2 hb.1
  have h2 : A * b ≤ A * B := Int.mul_le_mul_of_nonneg_left hb.2 hA
  have h3 : (-A) * b ≤ a * b := Int.mul_le_mul_of_nonneg_right ha.1 hb.1
  rw [Int.neg_mul] at h3
  omega
theorem Sm.prod {x y : TFrac} (hx : Sm x) (hy : Sm y) : I64 (x.Num * y.Den) := by
  have := mul_bd (a := x.Num) (b := y.Den) (A := 7200000000) (B := 20000000) ⟨hx.lo, hx.hi⟩ ⟨by have := hy.den; omega, hy.den2⟩
  omega
theorem compare_eq {x y : TFrac} (hx : Sm x) (hy : Sm y) : m_moon_compare x y = some (fcmp x y) := by
  unfold m_moon_compare
  rw [reduced_eq hx.I.1 hx.den hx.I.2, reduced_eq hy.I.1 hy.den hy.I.2]
  have p1 := hx.prod hy
  have p2 := hy.prod hx
  simp only [Option.bind_some]
  split
  · rename_i h
    simp only [Bool.and_eq_true, beq_iff_eq] at h
    obtain ⟨g, _, h1, h2, _⟩ := rd_spec (n := x.Num) hx.den
    obtain ⟨k, _, h3, h4, _⟩ := rd_spec (n := y.Num) hy.den
    clear p1 p2
    generalize rd x.Num x.Den = p at *
    generalize rd y.Num y.Den = q at *
    have : x.Num * y.Den = y.Num * x.Den := by
      rw [h1, h2, h3, h4, h.1, h.2]; ac_rfl
    unfold fcmp cmpI
    rw [this]; simp
  · rw [W_id (by omega), W_id (by omega), cmp_eq]; rfl
theorem sign_eq {x y : TFrac} (hx : Sm x) (hy : Sm y) : m_R02_sign x y = some (fcmp x y) := by
  have p1 := hx.prod hy
  have p2 := hy.prod hx
  unfold m_R02_sign fcmp cmpI
  rw [W_id (by omega), W_id (by omega)]
  split <;> simp_all
  split <;> simp_all
theorem fcmp_anti (x y : TFrac) : fcmp y x = - fcmp x y := by
  unfold fcmp cmpI; split <;> split <;> (try split) <;> omega
theorem fcmp_self_rd {x : TFrac} (hd : 0 < x.Den) : fcmp x (rd x.Num x.Den) = 0 := by
  obtain ⟨g, _, h1, h2, _⟩ := rd_spec (n := x.Num) hd
  unfold fcmp
  generalize rd x.Num x.Den = p at *
  have : x.Num * p.Den = p.Num * x.Den := by rw [h1, h2]; ac_rfl
  rw [this]; simp [cmpI]
theorem fcmp_le {x y : TFrac} : fcmp x y ≤ 0 ↔ x.Num * y.Den ≤ y.Num * x.Den := by unfold fcmp cmpI; split <;> (try split) <;> omega
theorem fcmp_lt {x y : TFrac} : fcmp x y < 0 ↔ x.Num * y.Den < y.Num * x.Den := by unfold fcmp cmpI; split <;> (try split) <;> omega
theorem frac_trans {x y z : TFrac} (hx : 0 < x.Den) (hy : 0 < y.Den) (hz : 0 < z.Den) (h1 : x.Num * y.Den ≤ y.Num * x.Den) (h2 : y.Num * z.Den ≤ z.Num * y.Den) : x.Num * z.Den ≤ z.Num * x.Den := by
  have a := Int.mul_le_mul_of_nonneg_right h1 (Int.le_of_lt hz)
  have b := Int.mul_le_mul_of_nonneg_right h2 (Int.le_of_lt hx)
  have e1 : x.Num * y.Den * z.Den = x.Num * z.Den * y.Den := by ac_rfl
  have e2 : y.Num * x.Den * z.Den = y.Num * z.Den * x.Den := by ac_rfl
  have e3 : z.Num * y.Den * x.Den = z.Num * x.Den * y.Den := by ac_rfl
  exact Int.le_of_mul_le_mul_right (by omega : x.Num * z.Den * y.Den ≤ z.Num * x.Den * y.Den) hy
theorem frac_trans_lt {x y z : TFrac} (hx : 0 < x.Den) (hy : 0 < y.Den) (hz : 0 < z.Den) (h1 : x.Num * y.Den < y.Num * x.Den) (h2 : y.Num * z.Den ≤ z.Num * y.Den) : x.Num * z.Den < z.Num * x.Den := by
  have a := Int.mul_lt_mul_of_pos_right h1 hz
  have b := Int.mul_le_mul_of_nonneg_right h2 (Int.le_of_lt hx)
  have e1 : x.Num * y.Den * z.Den = x.Num * z.Den * y.Den := by ac_rfl
  have e2 : y.Num * x.Den * z.Den = y.Num * z.Den * x.Den := by ac_rfl
  have e3 : z.Num * y.Den * x.Den = z.Num * x.Den * y.Den := by ac_rfl
  exact Int.lt_of_mul_lt_mul_right (by omega : x.Num * z.Den * y.Den < z.Num * x.Den * y.Den) (Int.le_of_lt hy)
def vf (x : TFrac) (B : Int) : Bool := decide (1 ≤ x.Den) && decide (x.Den ≤ B) && (decide (-(360 * x.Den) ≤ x.Num) && decide (x.Num ≤ 360 * x.Den))
theorem vf_iff {x : TFrac} {B : Int} : vf x B = true ↔ 1 ≤ x.Den ∧ x.Den ≤ B ∧ -(360 * x.Den) ≤ x.Num ∧ x.Num ≤ 360 * x.Den := by unfold vf; simp [and_assoc]
theorem isFrac_eq (x : TFrac) {B : Int} (hB : B ≤ 20000000) : m_moon_isFrac x B = some (vf x B) := by
  unfold m_moon_isFrac m_moon_within vf
  by_cases h1 : 1 ≤ x.Den
  · by_cases h2 : x.Den ≤ B
    · simp only [h1, h2, decide_true, if_true, Option.bind_some, Bool.true_and, Bool.and_self]
      rw [W_id (by omega), W_id (by omega)]
      by_cases h3 : -(360 * x.Den) ≤ x.Num
      · have : (-360) * x.Den ≤ x.Num := by omega
        simp [this, h3]
      · have : ¬ (-360) * x.Den ≤ x.Num := by omega
        simp [this, h3]
    · simp [h1, h2]
  · simp [h1]
theorem risFrac_eq (x : TFrac) {B : Int} (hB : B ≤ 20000000) : m_R02_isFrac x B = some (vf x B) := isFrac_eq x hB
theorem vf_Sm {x : TFrac} {B : Int} (hB : B ≤ 20000000) (h : vf x B = true) : Sm x := by
  obtain ⟨h1, h2, h3, h4⟩ := vf_iff.1 h
  exact ⟨by omega, by omega, by omega, by omega⟩
theorem vf_rd {x : TFrac} {B : Int} (h : vf x B = true) : vf (rd x.Num x.Den) B = true := by
  obtain ⟨h1, h2, h3, h4⟩ := vf_iff.1 h
  obtain ⟨g, hg, e1, e2, hp⟩ := rd_spec (n := x.Num) (d := x.Den) (by omega)
  generalize rd x.Num x.Den = p at *
  refine vf_iff.2 ⟨by omega, ?_, ?_, ?_⟩
  · have : p.Den ≤ g * p.Den := by
      have := Int.mul_le_mul_of_nonneg_right (show (1 : Int) ≤ g by omega) (Int.le_of_lt hp); omega
    omega
  · rw [e1, e2] at h3
    refine Int.le_of_mul_le_mul_left ?_ hg
    have : g * -(360 * p.Den) = -(360 * (g * p.Den)) := by rw [Int.mul_neg]; congr 1; ac_rfl
    rw [this, ← e1, ← e2]; rw [e1, e2]; exact h3
  · rw [e1, e2] at h4
    refine Int.le_of_mul_le_mul_left ?_ hg
    have : g * (360 * p.Den) = 360 * (g * p.Den) := by ac_rfl
    rw [this]; exact h4
theorem CheckFrac_eq (x : TFrac) : m_moon_CheckFrac x = some (if vf x 20000000 then 0 else 20) := by
  unfold m_moon_CheckFrac; rw [isFrac_eq x (Int.le_refl _)]; cases vf x 20000000 <;> rfl
theorem rCheckFrac_eq (x : TFrac) : m_R02_CheckFrac x = some (if vf x 20000000 then 0 else 20) := CheckFrac_eq x
theorem Compare_eq (x y : TFrac) : m_moon_Compare x y = some (if vf x 20000000 && vf y 20000000 then (fcmp x y, 0) else (0, 20)) := by
  unfold m_moon_Compare
  rw [isFrac_eq x (Int.le_refl _), isFrac_eq y (Int.le_refl _)]
  cases hx : vf x 20000000 <;> cases hy : vf y 20000000 <;> simp
  rw [compare_eq (vf_Sm (Int.le_refl _) hx) (vf_Sm (Int.le_refl _) hy)]
  rfl
theorem rCompare_eq (x y : TFrac) : m_R02_Compare x y = some (if vf x 20000000 && vf y 20000000 then (fcmp x y, 0) else (0, 20)) := by
  unfold m_R02_Compare
  rw [rCheckFrac_eq, rCheckFrac_eq]
  cases hx : vf x 20000000 <;> cases hy : vf y 20000000 <;> simp
  rw [sign_eq (vf_Sm (Int.le_refl _) hx) (vf_Sm (Int.le_refl _) hy)]
  rfl
theorem Reduced_eq (x : TFrac) : m_moon_Reduced x = some (if vf x 20000000 then (rd x.Num x.Den, 0) else (⟨0, 0⟩, 20)) := by
  unfold m_moon_Reduced
  rw [CheckFrac_eq]
  cases hx : vf x 20000000 <;> simp
  have h := vf_Sm (Int.le_refl _) hx
  rw [reduced_eq h.I.1 h.den h.I.2]
  rfl
theorem rReduced_eq (x : TFrac) : m_R02_Reduced x = some (if vf x 20000000 then (rd x.Num x.Den, 0) else (⟨0, 0⟩, 20)) := by
  unfold m_R02_Reduced
  rw [rCheckFrac_eq]
  cases hx : vf x 20000000 <;> simp
  have h := vf_Sm (Int.le_refl _) hx
  rw [frac_eq h.I.1 h.den h.I.2]
  rfl
end Go.Proofs.Ytdhjccionnbljaa
namespace Go.Proofs.Ytdhjccionnbljaa
open Go Go.Sx
set_option maxRecDepth 1000000 in
theorem pl_sane : m_L02_sane = some true := by decide +kernel
end Go.Proofs.Ytdhjccionnbljaa
namespace Go.Proofs.Ytdhjccionnbljaa
open Go Go.Sx
theorem fcmp_I (x y : TFrac) : -1 ≤ fcmp x y ∧ fcmp x y ≤ 1 := by unfold fcmp cmpI; split <;> (try split) <;> omega
theorem pl_MoonFracs (x y z : TFrac) (_ : TFrac.G x) (_ : TFrac.G y) (_ : TFrac.G z) : m_L02_MoonFracs x y z = some true := by
  unfold m_L02_MoonFracs
  rw [Reduced_eq, rReduced_eq, Compare_eq, rCompare_eq, CheckFrac_eq]
  simp only [rCheckFrac_eq, pl_sane]
  cases hx : vf x 20000000
  · simp
  · cases hy : vf y 20000000
    · simp
    · cases hz : vf z 20000000
      · simp
      · have hr := vf_rd hx
        have sx := vf_Sm (Int.le_refl _) hx
        have sy := vf_Sm (Int.le_refl _) hy
        have sz := vf_Sm (Int.le_refl _) hz
        rw [Compare_eq, Compare_eq, Compare_eq]
        simp only [hx, hy, hz, Bool.and_self, if_true, Option.bind_some]
        rw [Compare_eq]
        simp only [hx, hr, Bool.and_self, if_true, Option.bind_some]
        have h1 := fcmp_anti x y
        have h2 := fcmp_self_rd sx.den
        have hb := fcmp_I x y
        have t1 : fcmp x y ≤ 0 → fcmp y z ≤ 0 → fcmp x z ≤ 0 := fun a b => fcmp_le.2 (frac_trans sx.den sy.den sz.den (fcmp_le.1 a) (fcmp_le.1 b))
        have t2 : fcmp x y < 0 → fcmp y z ≤ 0 → fcmp x z < 0 := fun a b => fcmp_lt.2 (frac_trans_lt sx.den sy.den sz.den (fcmp_lt.1 a) (fcmp_le.1 b))
        rw [h1, h2, W_id (by omega)]
        generalize fcmp x y = c at *
        generalize fcmp y z = n at *
        generalize fcmp x z = o at *
        have e0 : (-c == 0 - c) = true := by simp
        by_cases c1 : c ≤ 0 <;> by_cases c2 : n ≤ 0 <;> by_cases c3 : c < 0 <;> by_cases c4 : o > 0 <;> by_cases c5 : o ≥ 0 <;> first | omega | simp [c1, c2, c3, c4, c5]
end Go.Proofs.Ytdhjccionnbljaa
