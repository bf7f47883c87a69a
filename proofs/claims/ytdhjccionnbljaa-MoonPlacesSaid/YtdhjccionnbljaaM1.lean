/- What may be read at the types of the statement's parameters; plain facts. -/
import Derived.Test.YtdhjccionnbljaaL2
set_option linter.unusedVariables false
set_option linter.unusedSimpArgs false
namespace Go.Proofs.Ytdhjccionnbljaa
open Go Go.RowKit Go.Sx
def TFrac.G (x : TFrac) : Prop := InK .i64 x.Num ∧ InK .i64 x.Den
theorem op_37 : Opens Try.prog 37 TFrac.c TFrac.G :=
  (Opens.struct Try.underlying37 (OpensF.cons (s := 1) (Opens.int Try.underlying3) (OpensF.last (s := 1) (Opens.int Try.underlying3) rfl (by kernel_rfl) rfl) rfl (by kernel_rfl)) (by kernel_rfl)).iso (fun x => (⟨x.1, x.2⟩ : TFrac)) (fun _ => rfl) (fun _ h => h)
def TRow.G (x : TRow) : Prop := InK .i64 x.Minute ∧ TFrac.G x.Height ∧ TFrac.G x.Bearing
theorem op_104 : Opens Try.prog 104 TRow.c TRow.G :=
  (Opens.struct Try.underlying104 (OpensF.cons (s := 1) (Opens.int Try.underlying3) (OpensF.cons (s := 2) op_37 (OpensF.last (s := 2) op_37 rfl (by kernel_rfl) rfl) rfl (by kernel_rfl)) rfl (by kernel_rfl)) (by kernel_rfl)).iso (fun x => (⟨x.1, x.2.1, x.2.2⟩ : TRow)) (fun _ => rfl) (fun _ h => h)
theorem op_35 : Opens Try.prog 35 (fun l : (List TRow) => [.lst 5 l.length (l.flatMap TRow.c)]) (fun l => (l.length * 40 ≤ reachBytes ∧ l.length ≤ maxLen ∧ ∀ y : TRow, y ∈ l → TRow.G y)) :=
  Opens.slice Try.underlying35 op_104 (by kernel_rfl) (by kernel_rfl) (fun _ => rfl) (fun _ => rfl) (by decide)
def TRange.G (x : TRange) : Prop := InK .i64 x.Lo ∧ InK .i64 x.Hi
theorem op_39 : Opens Try.prog 39 TRange.c TRange.G :=
  (Opens.struct Try.underlying39 (OpensF.cons (s := 1) (Opens.int Try.underlying3) (OpensF.last (s := 1) (Opens.int Try.underlying3) rfl (by kernel_rfl) rfl) rfl (by kernel_rfl)) (by kernel_rfl)).iso (fun x => (⟨x.1, x.2⟩ : TRange)) (fun _ => rfl) (fun _ h => h)
def TSheet.G (x : TSheet) : Prop := InK .i64 x.Source ∧ InK .i64 x.Night ∧ InK .i64 x.Known ∧ InK .i64 x.Until ∧ (x.Rows.length * 40 ≤ reachBytes ∧ x.Rows.length ≤ maxLen ∧ ∀ y : TRow, y ∈ x.Rows → TRow.G y) ∧ TFrac.G x.Off ∧ TRange.G x.Light
theorem op_41 : Opens Try.prog 41 TSheet.c TSheet.G :=
  (Opens.struct Try.underlying41 (OpensF.cons (s := 1) (Opens.int Try.underlying3) (OpensF.cons (s := 1) (Opens.int Try.underlying3) (OpensF.cons (s := 1) (Opens.int Try.underlying3) (OpensF.cons (s := 1) (Opens.int Try.underlying3) (OpensF.cons (s := 1) op_35 (OpensF.cons (s := 2) op_37 (OpensF.last (s := 2) op_39 rfl (by kernel_rfl) rfl) rfl (by kernel_rfl)) rfl (by kernel_rfl)) rfl (by kernel_rfl)) rfl (by kernel_rfl)) rfl (by kernel_rfl)) rfl (by kernel_rfl)) (by kernel_rfl)).iso (fun x => (⟨x.1, x.2.1, x.2.2.1, x.2.2.2.1, x.2.2.2.2.1, x.2.2.2.2.2.1, x.2.2.2.2.2.2⟩ : TSheet)) (fun _ => rfl) (fun _ h => h)
theorem op_28 : Opens Try.prog 28 (fun l : (List TSheet) => [.lst 9 l.length (l.flatMap TSheet.c)]) (fun l => (l.length * 88 ≤ reachBytes ∧ l.length ≤ maxLen ∧ ∀ y : TSheet, y ∈ l → TSheet.G y)) :=
  Opens.slice Try.underlying28 op_41 (by kernel_rfl) (by kernel_rfl) (fun _ => rfl) (fun _ => rfl) (by decide)
def TRoof.G (x : TRoof) : Prop := InK .i64 x.From ∧ InK .i64 x.To ∧ InK .i64 x.Top
theorem op_58 : Opens Try.prog 58 TRoof.c TRoof.G :=
  (Opens.struct Try.underlying58 (OpensF.cons (s := 1) (Opens.int Try.underlying3) (OpensF.cons (s := 1) (Opens.int Try.underlying3) (OpensF.last (s := 1) (Opens.int Try.underlying3) rfl (by kernel_rfl) rfl) rfl (by kernel_rfl)) rfl (by kernel_rfl)) (by kernel_rfl)).iso (fun x => (⟨x.1, x.2.1, x.2.2⟩ : TRoof)) (fun _ => rfl) (fun _ h => h)
theorem op_29 : Opens Try.prog 29 (fun l : (List TRoof) => [.lst 3 l.length (l.flatMap TRoof.c)]) (fun l => (l.length * 24 ≤ reachBytes ∧ l.length ≤ maxLen ∧ ∀ y : TRoof, y ∈ l → TRoof.G y)) :=
  Opens.slice Try.underlying29 op_58 (by kernel_rfl) (by kernel_rfl) (fun _ => rfl) (fun _ => rfl) (by decide)
def TSighting.G (x : TSighting) : Prop := InK .i64 x.Source ∧ InK .i64 x.Night ∧ InK .i64 x.Minute ∧ True ∧ InK .i64 x.Known ∧ InK .i64 x.Until
theorem op_43 : Opens Try.prog 43 TSighting.c TSighting.G :=
  (Opens.struct Try.underlying43 (OpensF.cons (s := 1) (Opens.int Try.underlying3) (OpensF.cons (s := 1) (Opens.int Try.underlying3) (OpensF.cons (s := 1) (Opens.int Try.underlying3) (OpensF.cons (s := 1) (Opens.bool Try.underlying4) (OpensF.cons (s := 1) (Opens.int Try.underlying3) (OpensF.last (s := 1) (Opens.int Try.underlying3) rfl (by kernel_rfl) rfl) rfl (by kernel_rfl)) rfl (by kernel_rfl)) rfl (by kernel_rfl)) rfl (by kernel_rfl)) rfl (by kernel_rfl)) (by kernel_rfl)).iso (fun x => (⟨x.1, x.2.1, x.2.2.1, x.2.2.2.1, x.2.2.2.2.1, x.2.2.2.2.2⟩ : TSighting)) (fun _ => rfl) (fun _ h => h)
theorem op_30 : Opens Try.prog 30 (fun l : (List TSighting) => [.lst 6 l.length (l.flatMap TSighting.c)]) (fun l => (l.length * 48 ≤ reachBytes ∧ l.length ≤ maxLen ∧ ∀ y : TSighting, y ∈ l → TSighting.G y)) :=
  Opens.slice Try.underlying30 op_43 (by kernel_rfl) (by kernel_rfl) (fun _ => rfl) (fun _ => rfl) (by decide)
def TSky.G (x : TSky) : Prop := (x.Sheets.length * 88 ≤ reachBytes ∧ x.Sheets.length ≤ maxLen ∧ ∀ y : TSheet, y ∈ x.Sheets → TSheet.G y) ∧ (x.Roofs.length * 24 ≤ reachBytes ∧ x.Roofs.length ≤ maxLen ∧ ∀ y : TRoof, y ∈ x.Roofs → TRoof.G y) ∧ (x.Sightings.length * 48 ≤ reachBytes ∧ x.Sightings.length ≤ maxLen ∧ ∀ y : TSighting, y ∈ x.Sightings → TSighting.G y)
theorem op_32 : Opens Try.prog 32 TSky.c TSky.G :=
  (Opens.struct Try.underlying32 (OpensF.cons (s := 1) op_28 (OpensF.cons (s := 1) op_29 (OpensF.last (s := 1) op_30 rfl (by kernel_rfl) rfl) rfl (by kernel_rfl)) rfl (by kernel_rfl)) (by kernel_rfl)).iso (fun x => (⟨x.1, x.2.1, x.2.2⟩ : TSky)) (fun _ => rfl) (fun _ h => h)
end Go.Proofs.Ytdhjccionnbljaa
namespace Go.Proofs.Ytdhjccionnbljaa
open Go Go.Sx
theorem W_id {z : Int} (h : -9223372036854775808 ≤ z ∧ z ≤ 9223372036854775807) : W z = z := w64 h
theorem gcdO : ∀ (n : Nat) (a b : Int), b.natAbs < n → ∃ g : Int, loopO m_moon_gcd_L1 n (a, b) = some (g, 0) ∧ g.natAbs = Nat.gcd a.natAbs b.natAbs
  | 0, a, b, h => by omega
  | n + 1, a, b, h => by
    by_cases hb : b = 0
    · subst hb
      exact ⟨a, by simp [loopO, m_moon_gcd_L1], by simp⟩
    · have hlt : (a.tmod b).natAbs < b.natAbs := by
        rw [Int.natAbs_tmod]
        exact Nat.mod_lt _ (by omega)
      obtain ⟨g, h1, h2⟩ := gcdO n b (a.tmod b) (by omega)
      refine ⟨g, ?_, ?_⟩
      · simp only [loopO, m_moon_gcd_L1]
        simp [hb, gd, h1]
      · rw [h2, Int.natAbs_tmod, Nat.gcd_comm, ← Nat.gcd_rec, Nat.gcd_comm]
theorem gcdF (a b : Int) (h : b.natAbs < FUEL) : ∃ g : Int, loopF m_moon_gcd_L1 (a, b) = some (g, 0) ∧ g.natAbs = Nat.gcd a.natAbs b.natAbs := gcdO FUEL a b h
theorem frac_L1 : m_R02_frac_L1 = m_moon_gcd_L1 := rfl
def rd (n d : Int) : TFrac := ⟨n / (Nat.gcd n.natAbs d.natAbs : Nat), d / (Nat.gcd n.natAbs d.natAbs : Nat)⟩
abbrev I64 (z : Int) : Prop := -9223372036854775808 < z ∧ z ≤ 9223372036854775807
theorem FUEL_lt {z : Int} (h : I64 z) : z.natAbs < FUEL := by unfold FUEL; omega
theorem gcd_pos {n d : Int} (hd : 0 < d) : 0 < Nat.gcd n.natAbs d.natAbs := Nat.gcd_pos_of_pos_right _ (by omega)
theorem gcd_dvd_n (n d : Int) : ((Nat.gcd n.natAbs d.natAbs : Nat) : Int) ∣ n := by
  rw [Int.ofNat_dvd_left]; exact Nat.gcd_dvd_left _ _
theorem gcd_dvd_d (n d : Int) : ((Nat.gcd n.natAbs d.natAbs : Nat) : Int) ∣ d := by
  rw [Int.ofNat_dvd_left]; exact Nat.gcd_dvd_right _ _
theorem gcd_le {n d : Int} (hd : 0 < d) : ((Nat.gcd n.natAbs d.natAbs : Nat) : Int) ≤ d := by
  have := Nat.le_of_dvd (by omega) (Nat.gcd_dvd_right n.natAbs d.natAbs); omega
theorem div_bd {z g : Int} (hz : I64 z) (hg : 0 < g) : I64 (z.tdiv g) ∧ (g ∣ z → z.tdiv g = z / g) := by
  refine ⟨?_, fun h => ?_⟩
  · have h1 : (z.tdiv g).natAbs ≤ z.natAbs := by rw [Int.natAbs_tdiv]; exact Nat.div_le_self _ _
    omega
  · obtain ⟨k, rfl⟩ := h
    rw [Int.mul_tdiv_cancel_left _ (by omega), Int.mul_ediv_cancel_left _ (by omega)]
theorem least_eq {n d : Int} (hn : I64 n) (hd : 0 < d) (hd2 : I64 d) : m_moon_least n d = some (rd n d) := by
  obtain ⟨g, h1, h2⟩ := gcdF n d (FUEL_lt hd2)
  have hp := gcd_pos (n := n) hd
  have hle := gcd_le (n := n) hd
  have hg : (if W (0 - g) > g then W (0 - g) else g) = ((Nat.gcd n.natAbs d.natAbs : Nat) : Int) := by
    have : W (0 - g) = 0 - g := W_id (by omega)
    rw [this]; split <;> omega
  unfold m_moon_least m_moon_gcd
  rw [h1]
  simp only [Option.bind_some, hg]
  have hne : ((Nat.gcd n.natAbs d.natAbs : Nat) : Int) ≠ 0 := by omega
  simp only [gd, if_pos hne]
  obtain ⟨b1, e1⟩ := div_bd hn (g := ((Nat.gcd n.natAbs d.natAbs : Nat) : Int)) (by omega)
  obtain ⟨b2, e2⟩ := div_bd hd2 (g := ((Nat.gcd n.natAbs d.natAbs : Nat) : Int)) (by omega)
  rw [W_id (by omega), W_id (by omega), e1 (gcd_dvd_n _ _), e2 (gcd_dvd_d _ _)]
  rfl
theorem reduced_eq {x : TFrac} (hn : I64 x.Num) (hd : 0 < x.Den) (hd2 : I64 x.Den) : m_moon_reduced x = some (rd x.Num x.Den) := by
  unfold m_moon_reduced; rw [least_eq hn hd hd2]; rfl
theorem frac_eq {n d : Int} (hn : I64 n) (hd : 0 < d) (hd2 : I64 d) : m_R02_frac n d = some (rd n d) := by
  have hp := gcd_pos (n := n) hd
  have hle := gcd_le (n := n) hd
  have key : ∀ m : Int, I64 m → m.natAbs = n.natAbs → 0 ≤ m → ∃ g : Int, loopF m_R02_frac_L1 (m, d) = some (g, 0) ∧ g = ((Nat.gcd n.natAbs d.natAbs : Nat) : Int) := by
    intro m hm he h0
    rw [frac_L1]
    -- the loop's result is not negative: its numbers are not
    have pos : ∀ (k : Nat) (a b : Int), 0 ≤ a → 0 ≤ b → ∀ g, loopO m_moon_gcd_L1 k (a, b) = some (g, 0) → 0 ≤ g := by
      intro k
      induction k with
      | zero => intro a b _ _ g h; cases h
      | succ k ih =>
        intro a b ha hb g h
        simp only [loopO, m_moon_gcd_L1] at h
        by_cases hb0 : b = 0
        · subst hb0; simp at h; omega
        · simp [hb0, gd] at h
          exact ih b (a.tmod b) hb (Int.tmod_nonneg _ ha) g h
    obtain ⟨g, h1, h2⟩ := gcdF m d (FUEL_lt hd2)
    have := pos FUEL m d h0 (by omega) g h1
    exact ⟨g, h1, by rw [he] at h2; omega⟩
  have hne : ((Nat.gcd n.natAbs d.natAbs : Nat) : Int) ≠ 0 := by omega
  have hb0 : (((Nat.gcd n.natAbs d.natAbs : Nat) : Int) == 0) = false := by simpa using hne
  obtain ⟨b1, e1⟩ := div_bd hn (g := ((Nat.gcd n.natAbs d.natAbs : Nat) : Int)) (by omega)
  obtain ⟨b2, e2⟩ := div_bd hd2 (g := ((Nat.gcd n.natAbs d.natAbs : Nat) : Int)) (by omega)
  unfold m_R02_frac
  rw [if_neg (by simp; omega)]
  by_cases hneg : n < 0
  · rw [if_pos (by simpa using hneg)]
    have hw : W (0 - n) = 0 - n := W_id (by omega)
    obtain ⟨g, h1, rfl⟩ := key (0 - n) (by omega) (by omega) (by omega)
    rw [hw, h1]
    simp only [Option.bind_some, hb0, gd, if_pos hne]
    rw [if_neg (by simp), W_id (by omega), W_id (by omega), e1 (gcd_dvd_n _ _), e2 (gcd_dvd_d _ _)]
    rfl
  · rw [if_neg (by simpa using hneg)]
    obtain ⟨g, h1, rfl⟩ := key n hn rfl (by omega)
    rw [h1]
    simp only [Option.bind_some, hb0, gd, if_pos hne]
    rw [if_neg (by simp), W_id (by omega), W_id (by omega), e1 (gcd_dvd_n _ _), e2 (gcd_dvd_d _ _)]
    rfl
theorem rd_spec {n d : Int} (hd : 0 < d) : ∃ g : Int, 0 < g ∧ n = g * (rd n d).Num ∧ d = g * (rd n d).Den ∧ 0 < (rd n d).Den := by
  have hp := gcd_pos (n := n) hd
  refine ⟨((Nat.gcd n.natAbs d.natAbs : Nat) : Int), by omega, ?_, ?_, ?_⟩
  · exact (Int.mul_ediv_cancel' (gcd_dvd_n n d)).symm
  · exact (Int.mul_ediv_cancel' (gcd_dvd_d n d)).symm
  · have h1 : d = ((Nat.gcd n.natAbs d.natAbs : Nat) : Int) * (rd n d).Den := (Int.mul_ediv_cancel' (gcd_dvd_d n d)).symm
    have h2 : 0 < ((Nat.gcd n.natAbs d.natAbs : Nat) : Int) * (rd n d).Den := by omega
    exact Int.pos_of_mul_pos_right h2 (by omega) |> fun h => h
def cmpI (a b : Int) : Int := if a < b then -1 else if a > b then 1 else 0
def fcmp (x y : TFrac) : Int := cmpI (x.Num * y.Den) (y.Num * x.Den)
theorem cmp_eq (a b : Int) : m_cmp_Compare_int a b = some (cmpI a b) := by
  unfold m_cmp_Compare_int m_cmp_isNaN_int cmpI
  simp
  split <;> simp_all
  split <;> simp_all
structure Sm (x : TFrac) : Prop where
  den : 0 < x.Den
  den2 : x.Den ≤ 20000000
  lo : -7200000000 ≤ x.Num
  hi : x.Num ≤ 7200000000
theorem Sm.I {x : TFrac} (h : Sm x) : I64 x.Num ∧ I64 x.Den := by obtain ⟨_, _, _, _⟩ := h; omega
theorem mul_bd {a b A B : Int} (ha : -A ≤ a ∧ a ≤ A) (hb : 0 ≤ b ∧ b ≤ B) : -(A * B) ≤ a * b ∧ a * b ≤ A * B := by
  have hA : 0 ≤ A := by omega
  have h1 : a * b ≤ A * b := Int.mul_le_mul_of_nonneg_right ha.2 hb.1
  have h2 : A * b ≤ A * B := Int.mul_le_mul_of_nonneg_left hb.2 hA
  have h3 : (-A) * b ≤ a * b := Int.mul_le_mul_of_nonneg_right ha.1 hb.1
  rw [Int.neg_mul] at h3
  omega
theorem Sm.prod {x y : TFrac} (hx : Sm x) (hy : Sm y) : I64 (x.Num * y.Den) := by
  have := mul_bd (a := x.Num) (b := y.Den) (A := 7200000000) (B := 20000000) ⟨hx.lo, hx.hi⟩ ⟨by have := hy.den; omega, hy.den2⟩
  omega
theorem compare_eq {x y : TFrac} (hx : Sm x) (hy : Sm y) : m_moon_compare x y = some (fcmp x y) := by
  unfold m_moon_compare
  rw [reduced_eq hx.I.1 hx.den hx.I.2, reduced_eq hy.I.1 hy.den hy.I.2]
  have p1 := hx.prod hy
  have p2 := hy.prod hx
  simp only [Option.bind_some]
  split
  · rename_i h
    simp only [Bool.and_eq_true, beq_iff_eq] at h
    obtain ⟨g, _, h1, h2, _⟩ := rd_spec (n := x.Num) hx.den
    obtain ⟨k, _, h3, h4, _⟩ := rd_spec (n := y.Num) hy.den
    clear p1 p2
    generalize rd x.Num x.Den = p at *
    generalize rd y.Num y.Den = q at *
    have : x.Num * y.Den = y.Num * x.Den := by
      rw [h1, h2, h3, h4, h.1, h.2]; ac_rfl
    unfold fcmp cmpI
    rw [this]; simp
  · rw [W_id (by omega), W_id (by omega), cmp_eq]; rfl
theorem sign_eq {x y : TFrac} (hx : Sm x) (hy : Sm y) : m_R02_sign x y = some (fcmp x y) := by
  have p1 := hx.prod hy
  have p2 := hy.prod hx
  unfold m_R02_sign fcmp cmpI
  rw [W_id (by omega), W_id (by omega)]
  split <;> simp_all
  split <;> simp_all
theorem fcmp_anti (x y : TFrac) : fcmp y x = - fcmp x y := by
  unfold fcmp cmpI; split <;> split <;> (try split) <;> omega
theorem fcmp_self_rd {x : TFrac} (hd : 0 < x.Den) : fcmp x (rd x.Num x.Den) = 0 := by
  obtain ⟨g, _, h1, h2, _⟩ := rd_spec (n := x.Num) hd
  unfold fcmp
  generalize rd x.Num x.Den = p at *
  have : x.Num * p.Den = p.Num * x.Den := by rw [h1, h2]; ac_rfl
  rw [this]; simp [cmpI]
theorem fcmp_le {x y : TFrac} : fcmp x y ≤ 0 ↔ x.Num * y.Den ≤ y.Num * x.Den := by unfold fcmp cmpI; split <;> (try split) <;> omega
theorem fcmp_lt {x y : TFrac} : fcmp x y < 0 ↔ x.Num * y.Den < y.Num * x.Den := by unfold fcmp cmpI; split <;> (try split) <;> omega
theorem frac_trans {x y z : TFrac} (hx : 0 < x.Den) (hy : 0 < y.Den) (hz : 0 < z.Den) (h1 : x.Num * y.Den ≤ y.Num * x.Den) (h2 : y.Num * z.Den ≤ z.Num * y.Den) : x.Num * z.Den ≤ z.Num * x.Den := by
  have a := Int.mul_le_mul_of_nonneg_right h1 (Int.le_of_lt hz)
  have b := Int.mul_le_mul_of_nonneg_right h2 (Int.le_of_lt hx)
  have e1 : x.Num * y.Den * z.Den = x.Num * z.Den * y.Den := by ac_rfl
  have e2 : y.Num * x.Den * z.Den = y.Num * z.Den * x.Den := by ac_rfl
  have e3 : z.Num * y.Den * x.Den = z.Num * x.Den * y.Den := by ac_rfl
  exact Int.le_of_mul_le_mul_right (by omega : x.Num * z.Den * y.Den ≤ z.Num * x.Den * y.Den) hy
theorem frac_trans_lt {x y z : TFrac} (hx : 0 < x.Den) (hy : 0 < y.Den) (hz : 0 < z.Den) (h1 : x.Num * y.Den < y.Num * x.Den) (h2 : y.Num * z.Den ≤ z.Num * y.Den) : x.Num * z.Den < z.Num * x.Den := by
  have a := Int.mul_lt_mul_of_pos_right h1 hz
  have b := Int.mul_le_mul_of_nonneg_right h2 (Int.le_of_lt hx)
  have e1 : x.Num * y.Den * z.Den = x.Num * z.Den * y.Den := by ac_rfl
  have e2 : y.Num * x.Den * z.Den = y.Num * z.Den * x.Den := by ac_rfl
  have e3 : z.Num * y.Den * x.Den = z.Num * x.Den * y.Den := by ac_rfl
  exact Int.lt_of_mul_lt_mul_right (by omega : x.Num * z.Den * y.Den < z.Num * x.Den * y.Den) (Int.le_of_lt hy)
def vf (x : TFrac) (B : Int) : Bool := decide (1 ≤ x.Den) && decide (x.Den ≤ B) && (decide (-(360 * x.Den) ≤ x.Num) && decide (x.Num ≤ 360 * x.Den))
theorem vf_iff {x : TFrac} {B : Int} : vf x B = true ↔ 1 ≤ x.Den ∧ x.Den ≤ B ∧ -(360 * x.Den) ≤ x.Num ∧ x.Num ≤ 360 * x.Den := by unfold vf; simp [and_assoc]
theorem isFrac_eq (x : TFrac) {B : Int} (hB : B ≤ 20000000) : m_moon_isFrac x B = some (vf x B) := by
  unfold m_moon_isFrac m_moon_within vf
  by_cases h1 : 1 ≤ x.Den
  · by_cases h2 : x.Den ≤ B
    · simp only [h1, h2, decide_true, if_true, Option.bind_some, Bool.true_and, Bool.and_self]
      rw [W_id (by omega), W_id (by omega)]
      by_cases h3 : -(360 * x.Den) ≤ x.Num
      · have : (-360) * x.Den ≤ x.Num := by omega
        simp [this, h3]
      · have : ¬ (-360) * x.Den ≤ x.Num := by omega
        simp [this, h3]
    · simp [h1, h2]
  · simp [h1]
theorem risFrac_eq (x : TFrac) {B : Int} (hB : B ≤ 20000000) : m_R02_isFrac x B = some (vf x B) := isFrac_eq x hB
theorem vf_Sm {x : TFrac} {B : Int} (hB : B ≤ 20000000) (h : vf x B = true) : Sm x := by
  obtain ⟨h1, h2, h3, h4⟩ := vf_iff.1 h
  exact ⟨by omega, by omega, by omega, by omega⟩
theorem vf_rd {x : TFrac} {B : Int} (h : vf x B = true) : vf (rd x.Num x.Den) B = true := by
  obtain ⟨h1, h2, h3, h4⟩ := vf_iff.1 h
  obtain ⟨g, hg, e1, e2, hp⟩ := rd_spec (n := x.Num) (d := x.Den) (by omega)
  generalize rd x.Num x.Den = p at *
  refine vf_iff.2 ⟨by omega, ?_, ?_, ?_⟩
  · have : p.Den ≤ g * p.Den := by
      have := Int.mul_le_mul_of_nonneg_right (show (1 : Int) ≤ g by omega) (Int.le_of_lt hp); omega
    omega
  · rw [e1, e2] at h3
    refine Int.le_of_mul_le_mul_left ?_ hg
    have : g * -(360 * p.Den) = -(360 * (g * p.Den)) := by rw [Int.mul_neg]; congr 1; ac_rfl
    rw [this, ← e1, ← e2]; rw [e1, e2]; exact h3
  · rw [e1, e2] at h4
    refine Int.le_of_mul_le_mul_left ?_ hg
    have : g * (360 * p.Den) = 360 * (g * p.Den) := by ac_rfl
    rw [this]; exact h4
theorem CheckFrac_eq (x : TFrac) : m_moon_CheckFrac x = some (if vf x 20000000 then 0 else 20) := by
  unfold m_moon_CheckFrac; rw [isFrac_eq x (Int.le_refl _)]; cases vf x 20000000 <;> rfl
theorem rCheckFrac_eq (x : TFrac) : m_R02_CheckFrac x = some (if vf x 20000000 then 0 else 20) := CheckFrac_eq x
theorem Compare_eq (x y : TFrac) : m_moon_Compare x y = some (if vf x 20000000 && vf y 20000000 then (fcmp x y, 0) else (0, 20)) := by
  unfold m_moon_Compare
  rw [isFrac_eq x (Int.le_refl _), isFrac_eq y (Int.le_refl _)]
  cases hx : vf x 20000000 <;> cases hy : vf y 20000000 <;> simp
  rw [compare_eq (vf_Sm (Int.le_refl _) hx) (vf_Sm (Int.le_refl _) hy)]
  rfl
theorem rCompare_eq (x y : TFrac) : m_R02_Compare x y = some (if vf x 20000000 && vf y 20000000 then (fcmp x y, 0) else (0, 20)) := by
  unfold m_R02_Compare
  rw [rCheckFrac_eq, rCheckFrac_eq]
  cases hx : vf x 20000000 <;> cases hy : vf y 20000000 <;> simp
  rw [sign_eq (vf_Sm (Int.le_refl _) hx) (vf_Sm (Int.le_refl _) hy)]
  rfl
theorem Reduced_eq (x : TFrac) : m_moon_Reduced x = some (if vf x 20000000 then (rd x.Num x.Den, 0) else (⟨0, 0⟩, 20)) := by
  unfold m_moon_Reduced
  rw [CheckFrac_eq]
  cases hx : vf x 20000000 <;> simp
  have h := vf_Sm (Int.le_refl _) hx
  rw [reduced_eq h.I.1 h.den h.I.2]
  rfl
theorem rReduced_eq (x : TFrac) : m_R02_Reduced x = some (if vf x 20000000 then (rd x.Num x.Den, 0) else (⟨0, 0⟩, 20)) := by
  unfold m_R02_Reduced
  rw [rCheckFrac_eq]
  cases hx : vf x 20000000 <;> simp
  have h := vf_Sm (Int.le_refl _) hx
  rw [frac_eq h.I.1 h.den h.I.2]
  rfl
end Go.Proofs.Ytdhjccionnbljaa
namespace Go.Proofs.Ytdhjccionnbljaa
open Go Go.Sx
open Classical
theorem loopF_rule {S E : Type} {body : S → Option (Sum S E)} (P : S → Prop) (μ : S → Nat) (Q : E → Prop) (h : ∀ s, P s → (∃ e, body s = some (.inr e) ∧ Q e) ∨ (∃ s', body s = some (.inl s') ∧ P s' ∧ μ s' < μ s)) (s0 : S) (h0 : P s0) (hf : μ s0 < FUEL) : ∃ e, loopF body s0 = some e ∧ Q e := by
  have key : ∀ (n : Nat) (s : S), P s → μ s < n → ∃ e, loopO body n s = some e ∧ Q e := by
    intro n
    induction n with
    | zero => intro s _ hn; omega
    | succ n ih =>
      intro s hs hn
      rcases h s hs with ⟨e, h1, h2⟩ | ⟨s', h1, h2, h3⟩
      · exact ⟨e, by simp only [loopO, h1], h2⟩
      · obtain ⟨e, h4, h5⟩ := ih s' h2 (by omega)
        exact ⟨e, by simp only [loopO, h1, h4], h5⟩
  exact key FUEL s0 h0 hf
theorem lt_FUEL {n : Nat} (h : n ≤ 9223372036854775807) : n < FUEL := by unfold FUEL; omega
theorem idx_nat {α : Type} {l : List α} {k : Nat} (h : k < l.length) : idx l (k : Int) = some l[k] := by
  unfold idx; simp [h]
theorem idx_nat1 {α : Type} {l : List α} {k : Nat} (h : k + 1 < l.length) : idx l ((k : Int) + 1) = some l[k + 1] := by
  have := idx_nat h; simpa using this
theorem W_s {k : Nat} (h : k < 9223372036854775807) : W ((k : Int) + 1) = (k : Int) + 1 := W_id (by omega)
theorem within_eq (n lo hi : Int) : m_moon_within n lo hi = some (decide (lo ≤ n) && decide (n ≤ hi)) := by
  unfold m_moon_within; by_cases h : lo ≤ n <;> simp [h]
theorem In_eq (n lo hi : Int) : m_R02_In n lo hi = some (decide (lo ≤ n) && decide (n ≤ hi)) := within_eq n lo hi
structure VRow (r : TRow) : Prop where
  h : vf r.Height 100 = true
  lo : -(90 * r.Height.Den) ≤ r.Height.Num
  hi : r.Height.Num ≤ 90 * r.Height.Den
  b : vf r.Bearing 100 = true
  b0 : 0 ≤ r.Bearing.Num
  b1 : r.Bearing.Num < 360 * r.Bearing.Den
theorem isRow_eq (r : TRow) : m_moon_isRow r = some (decide (VRow r)) := by
  unfold m_moon_isRow
  rw [isFrac_eq _ (by omega)]
  by_cases h1 : vf r.Height 100 = true
  · have hv := vf_iff.1 h1
    simp only [Option.bind_some, h1, if_true]
    rw [within_eq, W_id (by omega), W_id (by omega)]
    by_cases h2 : -90 * r.Height.Den ≤ r.Height.Num ∧ r.Height.Num ≤ 90 * r.Height.Den
    · simp only [h2.1, h2.2, decide_true, Bool.and_self, Option.bind_some, if_true]
      rw [isFrac_eq _ (by omega)]
      by_cases h3 : vf r.Bearing 100 = true
      · have hb := vf_iff.1 h3
        simp only [Option.bind_some, h3, if_true]
        rw [W_id (by omega)]
        by_cases h4 : 0 ≤ r.Bearing.Num
        · simp only [h4, decide_true, if_true]
          congr 2
          simp only [eq_iff_iff]
          exact ⟨fun h => ⟨h1, by omega, h2.2, h3, h4, h⟩, fun h => h.b1⟩
        · have : ¬ VRow r := fun h => h4 h.b0
          simp [h4, this]
      · have : ¬ VRow r := fun h => h3 h.b
        simp [h3, this]
    · have : ¬ VRow r := fun h => h2 ⟨by have := h.lo; omega, h.hi⟩
      have h3 : (decide (-90 * r.Height.Den ≤ r.Height.Num) && decide (r.Height.Num ≤ 90 * r.Height.Den)) = false := by
        rw [← Bool.not_eq_true]; simpa using h2
      simp [h3, this]
  · have : ¬ VRow r := fun h => h1 h.h
    simp [h1, this]
theorem risRow_eq (r : TRow) : m_R02_isRow r = some (decide ((0 ≤ r.Minute ∧ r.Minute ≤ 1439) ∧ VRow r)) := by
  unfold m_R02_isRow m_R02_isMinute
  rw [In_eq]
  by_cases h0 : 0 ≤ r.Minute ∧ r.Minute ≤ 1439
  · simp only [h0.1, h0.2, decide_true, Bool.and_self, Option.bind_some, Bool.not_true, Bool.false_eq_true, if_false, and_self, true_and]
    rw [risFrac_eq _ (by omega), Option.bind_some]
    by_cases h1 : vf r.Height 100 = true
    · have hv := vf_iff.1 h1
      simp only [h1, Bool.not_true, Bool.false_eq_true, if_false]
      rw [risFrac_eq _ (by omega), Option.bind_some]
      by_cases h3 : vf r.Bearing 100 = true
      · have hb := vf_iff.1 h3
        simp only [h3, Bool.not_true, Bool.false_eq_true, if_false]
        rw [In_eq, W_id (by omega), W_id (by omega)]
        by_cases h2 : -90 * r.Height.Den ≤ r.Height.Num ∧ r.Height.Num ≤ 90 * r.Height.Den
        · simp only [h2.1, h2.2, decide_true, Bool.and_self, Option.bind_some, if_true]
          rw [In_eq, W_id (z := 360 * r.Bearing.Den) (by omega), W_id (by omega)]
          simp only [Option.bind_some]
          congr 1
          rw [← Bool.decide_and]
          congr 1
          simp only [eq_iff_iff]
          exact ⟨fun h => ⟨h1, by omega, h2.2, h3, h.1, by omega⟩, fun h => ⟨h.b0, by have := h.b1; omega⟩⟩
        · have : ¬ VRow r := fun h => h2 ⟨by have := h.lo; omega, h.hi⟩
          have h3 : (decide (-90 * r.Height.Den ≤ r.Height.Num) && decide (r.Height.Num ≤ 90 * r.Height.Den)) = false := by
            rw [← Bool.not_eq_true]; simpa using h2
          simp [h3, this]
      · have : ¬ VRow r := fun h => h3 h.b
        simp [h3, this]
    · have : ¬ VRow r := fun h => h1 h.h
      simp [h1, this]
  · have h3 : (decide (0 ≤ r.Minute) && decide (r.Minute ≤ 1439)) = false := by
      rw [← Bool.not_eq_true]; simpa using h0
    simp [h3]
    try (intro a b; exact absurd ⟨a, b⟩ h0)
def okRow (l : List TRow) (k : Nat) : Prop := ∃ r, l[k]? = some r ∧ VRow r ∧ ∀ p, 0 < k → l[k - 1]? = some p → p.Minute < r.Minute ∧ fcmp p.Bearing r.Bearing ≤ 0
structure VSheet (s : TSheet) : Prop where
  src : 1 ≤ s.Source ∧ s.Source ≤ 99999
  night : 0 ≤ s.Night ∧ s.Night ≤ 100000
  known : 0 ≤ s.Known ∧ s.Known ≤ 100000
  until_ : s.Until = 0 ∨ (s.Known < s.Until ∧ s.Until ≤ 100000)
  len : 2 ≤ s.Rows.length ∧ s.Rows.length ≤ 12
  off : vf s.Off 100 = true
  off0 : 0 ≤ s.Off.Num
  off1 : s.Off.Num ≤ 90 * s.Off.Den
  light : 0 ≤ s.Light.Lo ∧ s.Light.Lo ≤ s.Light.Hi ∧ s.Light.Hi ≤ 1000
  rows : ∀ k, k < s.Rows.length → okRow s.Rows k
  first : ∀ r, s.Rows[0]? = some r → r.Minute = 0
  last : ∀ r, s.Rows[s.Rows.length - 1]? = some r → r.Minute = 1439
theorem VRow.smb {r : TRow} (h : VRow r) : Sm r.Bearing := vf_Sm (by omega) h.b
theorem VRow.smh {r : TRow} (h : VRow r) : Sm r.Height := vf_Sm (by omega) h.h
theorem rows_loop (s : TSheet) (hl : s.Rows.length ≤ 12) : ∃ e, loopF (m_moon_CheckSheet_L1 s) 0 = some e ∧ ((e = .inl (s.Rows.length : Int) ∧ ∀ k, k < s.Rows.length → okRow s.Rows k) ∨ (e = .inr 21 ∧ ∃ k, k < s.Rows.length ∧ ¬ okRow s.Rows k)) := by
  refine loopF_rule (fun i : Int => ∃ k : Nat, i = k ∧ k ≤ s.Rows.length ∧ ∀ j, j < k → okRow s.Rows j) (fun i : Int => s.Rows.length - i.toNat) _ ?_ 0 ⟨0, rfl, by omega, by omega⟩ (lt_FUEL (by omega))
  rintro i ⟨k, rfl, hk, hok⟩
  unfold m_moon_CheckSheet_L1
  by_cases hlt : k < s.Rows.length
  · have h1 : (k : Int) < (s.Rows.length : Int) := by omega
    simp only [h1, decide_true, if_true, idx_nat hlt, Option.bind_some, isRow_eq]
    by_cases hv : VRow s.Rows[k]
    · simp only [hv, decide_true, Bool.not_true, Bool.false_eq_true, if_false]
      by_cases h0 : 0 < k
      · have h2 : (k : Int) > 0 := by omega
        have hw : W ((k : Int) - 1) = ((k - 1 : Nat) : Int) := by rw [W_id (by omega)]; omega
        have hk1 : k - 1 < s.Rows.length := by omega
        simp only [h2, decide_true, if_true, hw, idx_nat hk1, Option.bind_some]
        by_cases hm : s.Rows[k - 1].Minute ≥ s.Rows[k].Minute
        · left
          refine ⟨.inr 21, by simp [hm], .inr ⟨rfl, k, hlt, fun ⟨r, e1, _, e2⟩ => ?_⟩⟩
          rw [List.getElem?_eq_getElem hlt] at e1; cases e1
          have := (e2 _ h0 (List.getElem?_eq_getElem hk1)).1; omega
        · obtain ⟨p, e1, e2, _⟩ := hok (k - 1) (by omega)
          rw [List.getElem?_eq_getElem hk1] at e1; cases e1
          simp only [hm, decide_false, Bool.false_eq_true, if_false]
          rw [compare_eq e2.smb hv.smb, Option.bind_some]
          by_cases hc : fcmp s.Rows[k - 1].Bearing s.Rows[k].Bearing > 0
          · left
            refine ⟨.inr 21, by simp [hc], .inr ⟨rfl, k, hlt, fun ⟨r, e1, _, e2⟩ => ?_⟩⟩
            rw [List.getElem?_eq_getElem hlt] at e1; cases e1
            have := (e2 _ h0 (List.getElem?_eq_getElem hk1)).2; omega
          · right
            refine ⟨W ((k : Int) + 1), by simp [hc], ⟨k + 1, by rw [W_s (by omega)]; rfl, by omega, fun j hj => ?_⟩, by rw [W_s (by omega)]; omega⟩
            by_cases e : j = k
            · subst e
              refine ⟨_, List.getElem?_eq_getElem hlt, hv, fun p hp e3 => ?_⟩
              rw [List.getElem?_eq_getElem hk1] at e3; cases e3
              exact ⟨by omega, by omega⟩
            · exact hok j (by omega)
      · right
        have hk0 : (decide ((k : Int) > 0)) = false := by simp; omega
        refine ⟨W ((k : Int) + 1), by rw [hk0]; simp, ⟨k + 1, by rw [W_s (by omega)]; rfl, by omega, fun j hj => ?_⟩, by rw [W_s (by omega)]; omega⟩
        obtain rfl : j = k := by omega
        exact ⟨_, List.getElem?_eq_getElem hlt, hv, fun p hp => by omega⟩
    · left
      refine ⟨.inr 21, by simp [hv], .inr ⟨rfl, k, hlt, fun ⟨r, e1, e2, _⟩ => ?_⟩⟩
      rw [List.getElem?_eq_getElem hlt] at e1; cases e1; exact hv e2
  · left
    have h1 : ¬ (k : Int) < (s.Rows.length : Int) := by omega
    obtain rfl : k = s.Rows.length := by omega
    exact ⟨.inl _, by simp, .inl ⟨rfl, hok⟩⟩
theorem rrows_loop (s : TSheet) (hl : s.Rows.length ≤ 12) : ∃ e, loopF (m_R02_CheckSheet_L1 s) 0 = some e ∧ ((e = .inl (s.Rows.length : Int) ∧ ∀ k, k < s.Rows.length → okRow s.Rows k ∧ ∃ r, s.Rows[k]? = some r ∧ 0 ≤ r.Minute ∧ r.Minute ≤ 1439) ∨ (e = .inr 21 ∧ ∃ k, k < s.Rows.length ∧ ¬ (okRow s.Rows k ∧ ∃ r, s.Rows[k]? = some r ∧ 0 ≤ r.Minute ∧ r.Minute ≤ 1439))) := by
  refine loopF_rule (fun i : Int => ∃ k : Nat, i = k ∧ k ≤ s.Rows.length ∧ ∀ j, j < k → okRow s.Rows j ∧ ∃ r, s.Rows[j]? = some r ∧ 0 ≤ r.Minute ∧ r.Minute ≤ 1439) (fun i : Int => s.Rows.length - i.toNat) _ ?_ 0 ⟨0, rfl, by omega, by omega⟩ (lt_FUEL (by omega))
  rintro i ⟨k, rfl, hk, hok⟩
  unfold m_R02_CheckSheet_L1
  by_cases hlt : k < s.Rows.length
  · have h1 : (k : Int) < (s.Rows.length : Int) := by omega
    simp only [h1, decide_true, if_true, idx_nat hlt, Option.bind_some, risRow_eq]
    by_cases hv : (0 ≤ s.Rows[k].Minute ∧ s.Rows[k].Minute ≤ 1439) ∧ VRow s.Rows[k]
    · simp only [hv, decide_true, Bool.not_true, Bool.false_eq_true, if_false, and_self]
      by_cases h0 : 0 < k
      · have h2 : (k : Int) > 0 := by omega
        have hw : W ((k : Int) - 1) = ((k - 1 : Nat) : Int) := by rw [W_id (by omega)]; omega
        have hk1 : k - 1 < s.Rows.length := by omega
        simp only [h2, decide_true, if_true, hw, idx_nat hk1, idx_nat hlt, Option.bind_some]
        by_cases hm : s.Rows[k - 1].Minute ≥ s.Rows[k].Minute
        · left
          refine ⟨.inr 21, by simp [hm], .inr ⟨rfl, k, hlt, fun ⟨⟨r, e1, _, e2⟩, _⟩ => ?_⟩⟩
          rw [List.getElem?_eq_getElem hlt] at e1; cases e1
          have := (e2 _ h0 (List.getElem?_eq_getElem hk1)).1; omega
        · obtain ⟨⟨p, e1, e2, _⟩, _⟩ := hok (k - 1) (by omega)
          rw [List.getElem?_eq_getElem hk1] at e1; cases e1
          simp only [hm, decide_false, Bool.false_eq_true, if_false]
          rw [sign_eq e2.smb hv.2.smb, Option.bind_some]
          by_cases hc : fcmp s.Rows[k - 1].Bearing s.Rows[k].Bearing > 0
          · left
            refine ⟨.inr 21, by simp [hc], .inr ⟨rfl, k, hlt, fun ⟨⟨r, e1, _, e2⟩, _⟩ => ?_⟩⟩
            rw [List.getElem?_eq_getElem hlt] at e1; cases e1
            have := (e2 _ h0 (List.getElem?_eq_getElem hk1)).2; omega
          · right
            refine ⟨W ((k : Int) + 1), by simp [hc], ⟨k + 1, by rw [W_s (by omega)]; rfl, by omega, fun j hj => ?_⟩, by rw [W_s (by omega)]; omega⟩
            by_cases e : j = k
            · subst e
              refine ⟨⟨_, List.getElem?_eq_getElem hlt, hv.2, fun p hp e3 => ?_⟩, _, List.getElem?_eq_getElem hlt, hv.1⟩
              rw [List.getElem?_eq_getElem hk1] at e3; cases e3
              exact ⟨by omega, by omega⟩
            · exact hok j (by omega)
      · right
        have hk0 : (decide ((k : Int) > 0)) = false := by simp; omega
        refine ⟨W ((k : Int) + 1), by rw [hk0]; simp, ⟨k + 1, by rw [W_s (by omega)]; rfl, by omega, fun j hj => ?_⟩, by rw [W_s (by omega)]; omega⟩
        obtain rfl : j = k := by omega
        exact ⟨⟨_, List.getElem?_eq_getElem hlt, hv.2, fun p hp => by omega⟩, _, List.getElem?_eq_getElem hlt, hv.1⟩
    · left
      refine ⟨.inr 21, by simp [hv], .inr ⟨rfl, k, hlt, fun ⟨⟨r, e1, e2, _⟩, r', e3, e4⟩ => ?_⟩⟩
      rw [List.getElem?_eq_getElem hlt] at e1 e3; cases e1; cases e3; exact hv ⟨e4, e2⟩
  · left
    have h1 : ¬ (k : Int) < (s.Rows.length : Int) := by omega
    obtain rfl : k = s.Rows.length := by omega
    exact ⟨.inl _, by simp, .inl ⟨rfl, hok⟩⟩
theorem lasts_eq (k u : Int) : m_moon_lasts k u = some (decide ((0 ≤ k ∧ k ≤ 100000) ∧ (u = 0 ∨ (k < u ∧ u ≤ 100000)))) := by
  unfold m_moon_lasts m_moon_isNight
  rw [within_eq]
  by_cases h0 : 0 ≤ k ∧ k ≤ 100000
  · by_cases h1 : u = 0
    · simp [h0, h1]
    · by_cases h2 : k < u
      · rw [within_eq]
        have : 0 ≤ u := by omega
        by_cases h3 : u ≤ 100000 <;> simp [h0, h1, h2, h3, this]
      · simp [h0, h1, h2]
  · have : (decide (0 ≤ k) && decide (k ≤ 100000)) = false := by rw [← Bool.not_eq_true]; simpa using h0
    simp [this]
    try (intro a b; exact absurd ⟨a, b⟩ h0)
theorem areTimes_eq (k u : Int) : m_R02_areTimes k u = some (decide ((0 ≤ k ∧ k ≤ 100000) ∧ (u = 0 ∨ (k < u ∧ u ≤ 100000)))) := by
  unfold m_R02_areTimes m_R02_isNight
  rw [In_eq]
  by_cases h0 : 0 ≤ k ∧ k ≤ 100000
  · by_cases h1 : u = 0
    · simp [h0, h1]
    · by_cases h2 : k < u
      · by_cases h3 : u ≤ 100000 <;> simp [h0, h1, h2, h3]
      · have : ¬ u > k := by omega
        simp [h0, h1, h2]
  · have : (decide (0 ≤ k) && decide (k ≤ 100000)) = false := by rw [← Bool.not_eq_true]; simpa using h0
    simp [this]
    try (intro a b; exact absurd ⟨a, b⟩ h0)
theorem band {p q : Prop} [Decidable p] [Decidable q] : (decide p && decide q) = decide (p ∧ q) := (Bool.decide_and p q).symm
theorem CheckSheet_eq (s : TSheet) : m_moon_CheckSheet s = some (if VSheet s then 0 else 21) := by
  have no : ∀ {P : Prop}, (VSheet s → P) → ¬ P → some (21 : Int) = some (if VSheet s then 0 else 21) := fun h hn => by
    rw [if_neg fun hv => hn (h hv)]
  unfold m_moon_CheckSheet m_moon_isNight
  simp only [within_eq, band, lasts_eq, Option.bind_some]
  by_cases h1 : 1 ≤ s.Source ∧ s.Source ≤ 99999
  rotate_left
  · simp only [h1, decide_false, Bool.not_false, if_true]; exact no (fun h => h.src) h1
  simp only [h1, and_self, decide_true, Bool.not_true, Bool.false_eq_true, if_false]
  by_cases h2 : 0 ≤ s.Night ∧ s.Night ≤ 100000
  rotate_left
  · simp only [h2, decide_false, Bool.not_false, if_true]; exact no (fun h => h.night) h2
  simp only [h2, and_self, decide_true, Bool.not_true, Bool.false_eq_true, if_false]
  by_cases h3 : (0 ≤ s.Known ∧ s.Known ≤ 100000) ∧ (s.Until = 0 ∨ (s.Known < s.Until ∧ s.Until ≤ 100000))
  rotate_left
  · simp only [h3, decide_false, Bool.not_false, if_true]; exact no (fun h => ⟨h.known, h.until_⟩) h3
  simp only [decide_eq_true h3, Bool.not_true, Bool.false_eq_true, if_false]
  by_cases h4 : 2 ≤ s.Rows.length ∧ s.Rows.length ≤ 12
  rotate_left
  · have : ¬ (2 ≤ (s.Rows.length : Int) ∧ (s.Rows.length : Int) ≤ 12) := by omega
    simp only [this, decide_false, Bool.not_false, if_true]; exact no (fun h => h.len) h4
  have h4' : 2 ≤ (s.Rows.length : Int) ∧ (s.Rows.length : Int) ≤ 12 := by omega
  simp only [h4', and_self, decide_true, Bool.not_true, Bool.false_eq_true, if_false]
  rw [isFrac_eq _ (by omega), Option.bind_some]
  by_cases h5 : vf s.Off 100 = true
  rotate_left
  · have h5' : vf s.Off 100 = false := by simpa using h5
    simp only [h5', Bool.not_false, if_true]; exact no (fun h => h.off) h5
  have hv := vf_iff.1 h5
  simp only [h5, Bool.not_true, Bool.false_eq_true, if_false]
  rw [W_id (z := 90 * s.Off.Den) (by omega)]
  by_cases h6 : 0 ≤ s.Off.Num ∧ s.Off.Num ≤ 90 * s.Off.Den
  rotate_left
  · simp only [h6, decide_false, Bool.not_false, if_true]; exact no (fun h => ⟨h.off0, h.off1⟩) h6
  simp only [h6, and_self, decide_true, Bool.not_true, Bool.false_eq_true, if_false]
  by_cases h7 : 0 ≤ s.Light.Lo ∧ s.Light.Lo ≤ s.Light.Hi ∧ s.Light.Hi ≤ 1000
  rotate_left
  · have : ¬ (0 > s.Light.Lo) → ¬ (s.Light.Lo > s.Light.Hi) → s.Light.Hi > 1000 := fun a b => by
      apply Int.lt_of_not_ge; intro c; exact h7 ⟨by omega, by omega, c⟩
    by_cases a : 0 > s.Light.Lo
    · simp only [a, decide_true, if_true]; exact no (fun h => h.light) h7
    · by_cases b : s.Light.Lo > s.Light.Hi
      · simp only [a, b, decide_true, decide_false, Bool.false_eq_true, if_false, if_true]; exact no (fun h => h.light) h7
      · simp only [a, b, this a b, decide_true, decide_false, Bool.false_eq_true, if_false, if_true]; exact no (fun h => h.light) h7
  have a1 : ¬ (0 > s.Light.Lo) := by omega
  have a2 : ¬ (s.Light.Lo > s.Light.Hi) := by omega
  have a3 : ¬ (s.Light.Hi > 1000) := by omega
  simp only [a1, a2, a3, decide_false, Bool.false_eq_true, if_false]
  obtain ⟨e, he, hq⟩ := rows_loop s h4.2
  rw [he, Option.bind_some]
  rcases hq with ⟨rfl, hok⟩ | ⟨rfl, k, hk, hno⟩
  · have hlen : 0 < s.Rows.length := by omega
    have hi0 : idx s.Rows 0 = some s.Rows[0] := idx_nat (k := 0) hlen
    have hw : W ((s.Rows.length : Int) - 1) = ((s.Rows.length - 1 : Nat) : Int) := by rw [W_id (by omega)]; omega
    have hl1 : s.Rows.length - 1 < s.Rows.length := by omega
    simp only [hi0, Option.bind_some, hw, idx_nat hl1]
    by_cases h8 : s.Rows[0].Minute = 0
    rotate_left
    · simp only [bne_iff_ne, ne_eq, h8, not_false_eq_true, if_true]
      exact no (P := s.Rows[0].Minute = 0) (fun h => h.first _ (List.getElem?_eq_getElem hlen)) h8
    by_cases h9 : s.Rows[s.Rows.length - 1].Minute = 1439
    rotate_left
    · simp only [bne_iff_ne, ne_eq, h8, h9, not_false_eq_true, if_true, not_true_eq_false, if_false]
      exact no (P := s.Rows[s.Rows.length - 1].Minute = 1439) (fun h => h.last _ (List.getElem?_eq_getElem hl1)) h9
    simp only [bne_iff_ne, ne_eq, h8, h9, not_true_eq_false, if_false]
    rw [if_pos]
    exact ⟨h1, h2, h3.1, h3.2, h4, h5, h6.1, h6.2, h7, hok, fun r hr => by rw [List.getElem?_eq_getElem hlen] at hr; cases hr; exact h8, fun r hr => by rw [List.getElem?_eq_getElem hl1] at hr; cases hr; exact h9⟩
  · exact no (P := okRow s.Rows k) (fun h => h.rows k hk) hno
theorem row_at {l : List TRow} {k : Nat} (h : k < l.length) (ho : okRow l k) : VRow l[k] ∧ ∀ h0 : 0 < k, l[k - 1].Minute < l[k].Minute ∧ fcmp l[k - 1].Bearing l[k].Bearing ≤ 0 := by
  obtain ⟨r, e1, e2, e3⟩ := ho
  rw [List.getElem?_eq_getElem h] at e1; cases e1
  exact ⟨e2, fun h0 => e3 _ h0 (List.getElem?_eq_getElem (by omega))⟩
theorem rows_mono {l : List TRow} (h : ∀ k, k < l.length → okRow l k) : ∀ (j i : Nat) (hi : i < l.length) (hj : j < l.length), i ≤ j → l[i].Minute ≤ l[j].Minute
  | 0, i, hi, hj, hij => by
    obtain rfl : i = 0 := by omega
    exact Int.le_refl _
  | j + 1, i, hi, hj, hij => by
    by_cases e : i = j + 1
    · subst e; exact Int.le_refl _
    · have h1 := rows_mono h j i hi (by omega) (by omega)
      have h2 := ((row_at hj (h _ hj)).2 (by omega)).1
      simp only [Nat.add_sub_cancel] at h2
      omega
theorem rCheckSheet_eq (s : TSheet) : m_R02_CheckSheet s = some (if VSheet s then 0 else 21) := by
  have no : ∀ {P : Prop}, (VSheet s → P) → ¬ P → some (21 : Int) = some (if VSheet s then 0 else 21) := fun h hn => by
    rw [if_neg fun hv => hn (h hv)]
  unfold m_R02_CheckSheet m_R02_isNight
  simp only [In_eq, band, areTimes_eq, Option.bind_some]
  by_cases h1 : 1 ≤ s.Source ∧ s.Source ≤ 99999
  rotate_left
  · simp only [h1, decide_false, Bool.not_false, if_true]; exact no (fun h => h.src) h1
  simp only [h1, and_self, decide_true, Bool.not_true, Bool.false_eq_true, if_false]
  by_cases h2 : 0 ≤ s.Night ∧ s.Night ≤ 100000
  rotate_left
  · simp only [h2, decide_false, Bool.not_false, if_true]; exact no (fun h => h.night) h2
  simp only [h2, and_self, decide_true, Bool.not_true, Bool.false_eq_true, if_false]
  by_cases h3 : (0 ≤ s.Known ∧ s.Known ≤ 100000) ∧ (s.Until = 0 ∨ (s.Known < s.Until ∧ s.Until ≤ 100000))
  rotate_left
  · simp only [h3, decide_false, Bool.not_false, if_true]; exact no (fun h => ⟨h.known, h.until_⟩) h3
  simp only [decide_eq_true h3, Bool.not_true, Bool.false_eq_true, if_false]
  by_cases h4 : 2 ≤ s.Rows.length ∧ s.Rows.length ≤ 12
  rotate_left
  · have : ¬ (2 ≤ (s.Rows.length : Int) ∧ (s.Rows.length : Int) ≤ 12) := by omega
    simp only [this, decide_false, Bool.not_false, if_true]; exact no (fun h => h.len) h4
  have h4' : 2 ≤ (s.Rows.length : Int) ∧ (s.Rows.length : Int) ≤ 12 := by omega
  simp only [h4', and_self, decide_true, Bool.not_true, Bool.false_eq_true, if_false]
  have hlen : 0 < s.Rows.length := by omega
  have hl1 : s.Rows.length - 1 < s.Rows.length := by omega
  obtain ⟨e, he, hq⟩ := rrows_loop s h4.2
  rw [he, Option.bind_some]
  rcases hq with ⟨rfl, hok⟩ | ⟨rfl, k, hk, hno⟩
  rotate_left
  · refine no (P := okRow s.Rows k ∧ ∃ r, s.Rows[k]? = some r ∧ 0 ≤ r.Minute ∧ r.Minute ≤ 1439) (fun h => ⟨h.rows k hk, _, List.getElem?_eq_getElem hk, ?_, ?_⟩) hno
    · have := rows_mono h.rows k 0 hlen hk (by omega)
      rw [h.first _ (List.getElem?_eq_getElem hlen)] at this; exact this
    · have := rows_mono h.rows (s.Rows.length - 1) k hk hl1 (by omega)
      rw [h.last _ (List.getElem?_eq_getElem hl1)] at this; exact this
  have hi0 : idx s.Rows 0 = some s.Rows[0] := idx_nat (k := 0) hlen
  have hw : W ((s.Rows.length : Int) - 1) = ((s.Rows.length - 1 : Nat) : Int) := by rw [W_id (by omega)]; omega
  simp only [hi0, Option.bind_some, hw, idx_nat hl1]
  by_cases h8 : s.Rows[0].Minute = 0
  rotate_left
  · simp only [bne_iff_ne, ne_eq, h8, not_false_eq_true, if_true]
    exact no (P := s.Rows[0].Minute = 0) (fun h => h.first _ (List.getElem?_eq_getElem hlen)) h8
  by_cases h9 : s.Rows[s.Rows.length - 1].Minute = 1439
  rotate_left
  · simp only [bne_iff_ne, ne_eq, h8, h9, not_false_eq_true, if_true, not_true_eq_false, if_false]
    exact no (P := s.Rows[s.Rows.length - 1].Minute = 1439) (fun h => h.last _ (List.getElem?_eq_getElem hl1)) h9
  simp only [bne_iff_ne, ne_eq, h8, h9, not_true_eq_false, if_false]
  rw [risFrac_eq _ (by omega), Option.bind_some]
  by_cases h5 : vf s.Off 100 = true
  rotate_left
  · have h5' : vf s.Off 100 = false := by simpa using h5
    simp only [h5', Bool.not_false, if_true]; exact no (fun h => h.off) h5
  have hv := vf_iff.1 h5
  simp only [h5, Bool.not_true, Bool.false_eq_true, if_false]
  rw [W_id (z := 90 * s.Off.Den) (by omega)]
  by_cases h6 : 0 ≤ s.Off.Num ∧ s.Off.Num ≤ 90 * s.Off.Den
  rotate_left
  · simp only [h6, decide_false, Bool.not_false, if_true]; exact no (fun h => ⟨h.off0, h.off1⟩) h6
  simp only [h6, and_self, decide_true, Bool.not_true, Bool.false_eq_true, if_false]
  by_cases h7 : 0 ≤ s.Light.Lo ∧ s.Light.Lo ≤ s.Light.Hi ∧ s.Light.Hi ≤ 1000
  rotate_left
  · have : ¬ (s.Light.Lo < 0) → ¬ (s.Light.Lo > s.Light.Hi) → s.Light.Hi > 1000 := fun a b => by
      apply Int.lt_of_not_ge; intro c; exact h7 ⟨by omega, by omega, c⟩
    by_cases a : s.Light.Lo < 0
    · simp only [a, decide_true, if_true]; exact no (fun h => h.light) h7
    · by_cases b : s.Light.Lo > s.Light.Hi
      · simp only [a, b, decide_true, decide_false, Bool.false_eq_true, if_false, if_true]; exact no (fun h => h.light) h7
      · simp only [a, b, this a b, decide_true, decide_false, Bool.false_eq_true, if_false, if_true]; exact no (fun h => h.light) h7
  have a1 : ¬ (s.Light.Lo < 0) := by omega
  have a2 : ¬ (s.Light.Lo > s.Light.Hi) := by omega
  have a3 : ¬ (s.Light.Hi > 1000) := by omega
  simp only [a1, a2, a3, decide_false, Bool.false_eq_true, if_false]
  rw [if_pos]
  exact ⟨h1, h2, h3.1, h3.2, h4, h5, h6.1, h6.2, h7, fun k hk => (hok k hk).1, fun r hr => by rw [List.getElem?_eq_getElem hlen] at hr; cases hr; exact h8, fun r hr => by rw [List.getElem?_eq_getElem hl1] at hr; cases hr; exact h9⟩
end Go.Proofs.Ytdhjccionnbljaa
namespace Go.Proofs.Ytdhjccionnbljaa
open Go Go.Sx
open Classical
structure VRoof (r : TRoof) : Prop where
  a : 0 ≤ r.From
  b : r.From < r.To
  c : r.To ≤ 360
  d : 0 ≤ r.Top
  e : r.Top ≤ 90
theorem CheckRoof_eq (r : TRoof) : m_moon_CheckRoof r = some (if VRoof r then 0 else 22) := by
  unfold m_moon_CheckRoof
  simp only [within_eq, band, Option.bind_some]
  by_cases h : VRoof r
  · obtain ⟨a, b, c, d, e⟩ := id h
    have h1 : ¬ 0 > r.From := by omega
    have h2 : ¬ r.From ≥ r.To := by omega
    have h3 : ¬ r.To > 360 := by omega
    simp [h, h1, h2, h3, d, e]
  · rw [if_neg h]
    by_cases h1 : 0 > r.From
    · simp [h1]
    · by_cases h2 : r.From ≥ r.To
      · simp [h1, h2]
      · by_cases h3 : r.To > 360
        · simp [h1, h2, h3]
        · have : ¬ (0 ≤ r.Top ∧ r.Top ≤ 90) := fun h4 => h ⟨by omega, by omega, by omega, h4.1, h4.2⟩
          simp only [h1, h2, h3, this, decide_false, Bool.not_false, Bool.false_eq_true, if_false, if_true]
theorem rCheckRoof_eq (r : TRoof) : m_R02_CheckRoof r = some (if VRoof r then 0 else 22) := CheckRoof_eq r
theorem roofs_loop (l : List TRoof) (hl : l.length ≤ maxLen) : ∃ e, loopF (m_moon_areRoofs_L1 l) 0 = some e ∧ ((e = .inl (l.length : Int) ∧ ∀ r, r ∈ l → VRoof r) ∨ (e = .inr false ∧ ¬ ∀ r, r ∈ l → VRoof r)) := by
  unfold maxLen at hl
  refine loopF_rule (fun i : Int => ∃ k : Nat, i = k ∧ k ≤ l.length ∧ ∀ j (h : j < l.length), j < k → VRoof l[j]) (fun i : Int => l.length - i.toNat) _ ?_ 0 ⟨0, rfl, by omega, by omega⟩ (lt_FUEL (by omega))
  rintro i ⟨k, rfl, hk, hok⟩
  unfold m_moon_areRoofs_L1
  by_cases hlt : k < l.length
  · have h1 : (k : Int) < (l.length : Int) := by omega
    simp only [h1, decide_true, if_true, idx_nat hlt, Option.bind_some, CheckRoof_eq]
    by_cases hv : VRoof l[k]
    · right
      refine ⟨W ((k : Int) + 1), by simp [hv], ⟨k + 1, by rw [W_s (by omega)]; rfl, by omega, fun j h hj => ?_⟩, by rw [W_s (by omega)]; omega⟩
      by_cases e : j = k
      · subst e; exact hv
      · exact hok j h (by omega)
    · left
      exact ⟨.inr false, by simp [hv], .inr ⟨rfl, fun h => hv (h _ (List.getElem_mem hlt))⟩⟩
  · left
    have h1 : ¬ (k : Int) < (l.length : Int) := by omega
    obtain rfl : k = l.length := by omega
    refine ⟨.inl _, by simp, .inl ⟨rfl, fun r hr => ?_⟩⟩
    obtain ⟨j, hj, rfl⟩ := List.mem_iff_getElem.1 hr
    exact hok j hj hj
structure VRoofs (l : List TRoof) : Prop where
  all : ∀ r, r ∈ l → VRoof r
  len : l.length ≤ 12
theorem areRoofs_eq (l : List TRoof) (hl : l.length ≤ maxLen) : m_moon_areRoofs l = some (decide (VRoofs l)) := by
  unfold m_moon_areRoofs
  obtain ⟨e, he, hq⟩ := roofs_loop l hl
  rw [he, Option.bind_some]
  rcases hq with ⟨rfl, h⟩ | ⟨rfl, h⟩
  · by_cases h12 : l.length ≤ 12
    · have : VRoofs l := ⟨h, h12⟩
      have h' : (l.length : Int) ≤ 12 := by omega
      simp [this, h']
    · have : ¬ VRoofs l := fun h => h12 h.len
      have h' : ¬ (l.length : Int) ≤ 12 := by omega
      simp [this, h']
  · have : ¬ VRoofs l := fun k => h k.all
    simp [this]
theorem rroofs_L1 : m_R02_areRoofs_L1 = m_moon_areRoofs_L1 := rfl
theorem rareRoofs_eq (l : List TRoof) : m_R02_areRoofs l = some (decide (VRoofs l)) := by
  unfold m_R02_areRoofs
  by_cases h12 : l.length ≤ 12
  · have h' : ¬ (l.length : Int) > 12 := by omega
    rw [rroofs_L1]
    obtain ⟨e, he, hq⟩ := roofs_loop l (by unfold maxLen; omega)
    rw [he]
    rcases hq with ⟨rfl, h⟩ | ⟨rfl, h⟩
    · have : VRoofs l := ⟨h, h12⟩
      simp [this, h']
    · have : ¬ VRoofs l := fun k => h k.all
      simp [this, h']
  · have : ¬ VRoofs l := fun h => h12 h.len
    have h' : (l.length : Int) > 12 := by omega
    simp [this, h']
def hzf (g : TFrac) (top : Int) (r : TRoof) : Int := if fcmp ⟨r.From, 1⟩ g ≤ 0 ∧ fcmp ⟨r.To, 1⟩ g > 0 then (if r.Top > top then r.Top else top) else top
def hz (l : List TRoof) (g : TFrac) : Int := l.foldl (hzf g) 0
theorem Sm_whole {n : Int} (h : -360 ≤ n ∧ n ≤ 360) : Sm ⟨n, 1⟩ := ⟨by simp, by simp, by simp; omega, by simp; omega⟩
theorem foldl_drop {α β : Type} {f : β → α → β} {l : List α} {k : Nat} (h : k < l.length) (b : β) : (l.drop k).foldl f b = (l.drop (k + 1)).foldl f (f b l[k]) := by
  rw [List.drop_eq_getElem_cons h]; rfl
theorem horizon_eq {l : List TRoof} (hl : VRoofs l) {g : TFrac} (hg : Sm g) : m_moon_horizon l g = some (hz l g) := by
  unfold m_moon_horizon
  have h12 := hl.len
  obtain ⟨e, he, hq⟩ := loopF_rule (body := m_moon_horizon_L1 l g) (fun s : Int × Int => ∃ k : Nat, s.2 = k ∧ k ≤ l.length ∧ (l.drop k).foldl (hzf g) s.1 = hz l g) (fun s => l.length - s.2.toNat) (fun e => e.1 = hz l g) (by
    rintro ⟨top, i⟩ ⟨k, rfl, hk, hf⟩
    simp only at hf ⊢
    unfold m_moon_horizon_L1
    by_cases hlt : k < l.length
    · have h1 : (k : Int) < (l.length : Int) := by omega
      have hr := hl.all _ (List.getElem_mem hlt)
      have s1 : Sm ⟨l[k].From, 1⟩ := Sm_whole (by have := hr.a; have := hr.b; have := hr.c; omega)
      have s2 : Sm ⟨l[k].To, 1⟩ := Sm_whole (by have := hr.a; have := hr.b; have := hr.c; omega)
      rw [foldl_drop hlt] at hf
      right
      refine ⟨(hzf g top l[k], W ((k : Int) + 1)), ?_, ⟨k + 1, by rw [W_s (by omega)]; rfl, by omega, hf⟩, by simp only; rw [W_s (by omega)]; omega⟩
      simp only [h1, decide_true, if_true, idx_nat hlt, Option.bind_some, m_moon_whole]
      rw [compare_eq s1 hg, Option.bind_some]
      by_cases c1 : fcmp ⟨l[k].From, 1⟩ g ≤ 0
      · simp only [c1, decide_true, if_true]
        rw [compare_eq s2 hg, Option.bind_some]
        by_cases c2 : fcmp ⟨l[k].To, 1⟩ g > 0
        · simp [c2, c1, hzf]
        · simp [c2, c1, hzf]
      · simp [c1, hzf]
    · left
      have h1 : ¬ (k : Int) < (l.length : Int) := by omega
      rw [List.drop_of_length_le (by omega)] at hf
      exact ⟨(top, (k : Int)), by simp [h1], hf⟩) (0, 0) ⟨0, rfl, by omega, rfl⟩ (lt_FUEL (by omega))
  obtain ⟨top, i⟩ := e
  rw [he]; simp only at hq; subst hq; rfl
theorem rhorizon_eq {l : List TRoof} (hl : VRoofs l) {g : TFrac} (hg : Sm g) : m_R02_horizon l g = some (hz l g) := by
  unfold m_R02_horizon
  have h12 := hl.len
  obtain ⟨e, he, hq⟩ := loopF_rule (body := m_R02_horizon_L1 l g) (fun s : Int × Int => ∃ k : Nat, s.2 = k ∧ k ≤ l.length ∧ (l.drop k).foldl (hzf g) s.1 = hz l g) (fun s => l.length - s.2.toNat) (fun e => e.1 = hz l g) (by
    rintro ⟨top, i⟩ ⟨k, rfl, hk, hf⟩
    simp only at hf ⊢
    unfold m_R02_horizon_L1
    by_cases hlt : k < l.length
    · have h1 : (k : Int) < (l.length : Int) := by omega
      have hr := hl.all _ (List.getElem_mem hlt)
      have s1 : Sm ⟨l[k].From, 1⟩ := Sm_whole (by have := hr.a; have := hr.b; have := hr.c; omega)
      have s2 : Sm ⟨l[k].To, 1⟩ := Sm_whole (by have := hr.a; have := hr.b; have := hr.c; omega)
      rw [foldl_drop hlt] at hf
      right
      refine ⟨(hzf g top l[k], W ((k : Int) + 1)), ?_, ⟨k + 1, by rw [W_s (by omega)]; rfl, by omega, hf⟩, by simp only; rw [W_s (by omega)]; omega⟩
      simp only [h1, decide_true, if_true, idx_nat hlt, Option.bind_some, m_R02_whole]
      rw [sign_eq s1 hg, Option.bind_some]
      by_cases c1 : fcmp ⟨l[k].From, 1⟩ g ≤ 0
      · simp only [c1, decide_true, if_true]
        rw [sign_eq hg s2, Option.bind_some]
        have han := fcmp_anti ⟨l[k].To, 1⟩ g
        by_cases c2 : fcmp ⟨l[k].To, 1⟩ g > 0
        · have c3 : fcmp g ⟨l[k].To, 1⟩ < 0 := by omega
          simp [c2, c1, c3, hzf]
        · have c3 : ¬ fcmp g ⟨l[k].To, 1⟩ < 0 := by omega
          simp [c2, c1, c3, hzf]
      · simp [c1, hzf]
    · left
      have h1 : ¬ (k : Int) < (l.length : Int) := by omega
      rw [List.drop_of_length_le (by omega)] at hf
      exact ⟨(top, (k : Int)), by simp [h1], hf⟩) (0, 0) ⟨0, rfl, by omega, rfl⟩ (lt_FUEL (by omega))
  obtain ⟨top, i⟩ := e
  rw [he]; simp only at hq; subst hq; rfl
theorem hz_bd {l : List TRoof} (hl : ∀ r, r ∈ l → VRoof r) (g : TFrac) : 0 ≤ hz l g ∧ hz l g ≤ 90 := by
  have : ∀ (l : List TRoof) (b : Int), (∀ r, r ∈ l → VRoof r) → 0 ≤ b ∧ b ≤ 90 → 0 ≤ l.foldl (hzf g) b ∧ l.foldl (hzf g) b ≤ 90 := by
    intro l
    induction l with
    | nil => intro b _ h; exact h
    | cons r l ih =>
      intro b h hb
      refine ih _ (fun r hr => h r (List.mem_cons_of_mem _ hr)) ?_
      have hr := h r List.mem_cons_self
      have := hr.d; have := hr.e
      unfold hzf; split <;> (try split) <;> omega
  exact this l 0 hl (by omega)
theorem rd_eq {n d n' d' : Int} (hd : 0 < d) (hd' : 0 < d') (h : n * d' = n' * d) : rd n d = rd n' d' := by
  have key : ∀ {n d : Int}, 0 < d → Nat.gcd (rd n d).Num.natAbs (rd n d).Den.natAbs = 1 := by
    intro n d hd
    have hp := gcd_pos (n := n) hd
    have e1 : (rd n d).Num.natAbs = n.natAbs / Nat.gcd n.natAbs d.natAbs := by
      unfold rd; simp only; rw [Int.natAbs_ediv_of_dvd (gcd_dvd_n n d)]; rfl
    have e2 : (rd n d).Den.natAbs = d.natAbs / Nat.gcd n.natAbs d.natAbs := by
      unfold rd; simp only; rw [Int.natAbs_ediv_of_dvd (gcd_dvd_d n d)]; rfl
    rw [e1, e2]
    exact Nat.gcd_div_gcd_div_gcd_of_pos_right (by omega)
  have k1 := key (n := n) hd
  have k2 := key (n := n') hd'
  obtain ⟨g, hg, e1, e2, p1⟩ := rd_spec (n := n) hd
  obtain ⟨g', hg', e3, e4, p2⟩ := rd_spec (n := n') hd'
  generalize rd n d = p at *
  generalize rd n' d' = q at *
  have hx : p.Num * q.Den = q.Num * p.Den := by
    rw [e1, e2, e3, e4] at h
    have h2 : (g * g') * (p.Num * q.Den) = (g * g') * (q.Num * p.Den) := by
      have a : (g * g') * (p.Num * q.Den) = g * p.Num * (g' * q.Den) := by ac_rfl
      have b : (g * g') * (q.Num * p.Den) = g' * q.Num * (g * p.Den) := by ac_rfl
      rw [a, b]; exact h
    exact Int.eq_of_mul_eq_mul_left (by have := Int.mul_pos hg hg'; omega) h2
  have hn : p.Num.natAbs * q.Den.natAbs = q.Num.natAbs * p.Den.natAbs := by
    rw [← Int.natAbs_mul, ← Int.natAbs_mul, hx]
  have d1 : p.Den.natAbs ∣ q.Den.natAbs := by
    have : p.Den.natAbs ∣ p.Num.natAbs * q.Den.natAbs := ⟨q.Num.natAbs, by rw [hn, Nat.mul_comm]⟩
    exact Nat.Coprime.dvd_of_dvd_mul_left (Nat.Coprime.symm k1) this
  have d2 : q.Den.natAbs ∣ p.Den.natAbs := by
    have : q.Den.natAbs ∣ q.Num.natAbs * p.Den.natAbs := ⟨p.Num.natAbs, by rw [← hn, Nat.mul_comm]⟩
    exact Nat.Coprime.dvd_of_dvd_mul_left (Nat.Coprime.symm k2) this
  have hden : p.Den = q.Den := by
    have := Nat.dvd_antisymm d1 d2; omega
  have hnum : p.Num = q.Num := by
    rw [hden] at hx
    exact Int.eq_of_mul_eq_mul_right (by omega) hx
  cases p; cases q; simp_all
def segN (a b : TFrac) (m n t : Int) : Int := a.Num * b.Den * (n - m) + (b.Num * a.Den - a.Num * b.Den) * (t - m)
def segD (a b : TFrac) (m n : Int) : Int := a.Den * b.Den * (n - m)
def seg (a b : TFrac) (m n t : Int) : TFrac := rd (segN a b m n t) (segD a b m n)
structure SegOK (a b : TFrac) (m n t : Int) : Prop where
  va : vf a 100 = true
  vb : vf b 100 = true
  mn : m < n
  mt : m ≤ t
  tn : t ≤ n
  m0 : 0 ≤ m
  n1 : n ≤ 1439
theorem SegOK.facts {a b : TFrac} {m n t : Int} (h : SegOK a b m n t) : (-3600000 ≤ a.Num * b.Den ∧ a.Num * b.Den ≤ 3600000) ∧ (-3600000 ≤ b.Num * a.Den ∧ b.Num * a.Den ≤ 3600000) ∧ (1 ≤ a.Den * b.Den ∧ a.Den * b.Den ≤ 10000) := by
  obtain ⟨a1, a2, a3, a4⟩ := vf_iff.1 h.va
  obtain ⟨b1, b2, b3, b4⟩ := vf_iff.1 h.vb
  have h1 := mul_bd (a := a.Num) (b := b.Den) (A := 36000) (B := 100) (by omega) (by omega)
  have h2 := mul_bd (a := b.Num) (b := a.Den) (A := 36000) (B := 100) (by omega) (by omega)
  have h3 := mul_bd (a := a.Den) (b := b.Den) (A := 100) (B := 100) (by omega) (by omega)
  have h4 : 0 < a.Den * b.Den := Int.mul_pos (by omega) (by omega)
  exact ⟨by omega, by omega, by omega, by omega⟩
theorem SegOK.den {a b : TFrac} {m n t : Int} (h : SegOK a b m n t) : 0 < segD a b m n ∧ segD a b m n ≤ 14390000 := by
  obtain ⟨_, _, h1, h2⟩ := h.facts
  have := h.mn; have := h.m0; have := h.n1
  have h3 := mul_bd (a := a.Den * b.Den) (b := n - m) (A := 10000) (B := 1439) (by omega) (by omega)
  have h4 : 0 < a.Den * b.Den * (n - m) := Int.mul_pos (by omega) (by omega)
  unfold segD; omega
theorem segN_alt (a b : TFrac) (m n t : Int) : segN a b m n t = a.Num * b.Den * (n - t) + b.Num * a.Den * (t - m) := by
  unfold segN
  rw [Int.sub_mul]
  have : a.Num * b.Den * (n - m) = a.Num * b.Den * (n - t) + a.Num * b.Den * (t - m) := by rw [← Int.mul_add]; congr 1; omega
  omega
theorem SegOK.num {a b : TFrac} {m n t : Int} (h : SegOK a b m n t) : -(360 * segD a b m n) ≤ segN a b m n t ∧ segN a b m n t ≤ 360 * segD a b m n := by
  obtain ⟨a1, a2, a3, a4⟩ := vf_iff.1 h.va
  obtain ⟨b1, b2, b3, b4⟩ := vf_iff.1 h.vb
  have := h.mt; have := h.tn
  have p : ∀ {x d e u : Int}, 0 ≤ e → 0 ≤ u → -(360 * d) ≤ x → x ≤ 360 * d → -(360 * (d * e * u)) ≤ x * e * u ∧ x * e * u ≤ 360 * (d * e * u) := by
    intro x d e u he hu h1 h2
    have q1 := Int.mul_le_mul_of_nonneg_right (Int.mul_le_mul_of_nonneg_right h1 he) hu
    have q2 := Int.mul_le_mul_of_nonneg_right (Int.mul_le_mul_of_nonneg_right h2 he) hu
    have e1 : -(360 * d) * e * u = -(360 * (d * e * u)) := by simp only [Int.neg_mul, Int.mul_assoc]
    have e2 : 360 * d * e * u = 360 * (d * e * u) := by simp only [Int.mul_assoc]
    omega
  have p1 := p (x := a.Num) (d := a.Den) (e := b.Den) (u := n - t) (by omega) (by omega) a3 a4
  have p2 := p (x := b.Num) (d := b.Den) (e := a.Den) (u := t - m) (by omega) (by omega) b3 b4
  have e1 : segD a b m n = a.Den * b.Den * (n - t) + b.Den * a.Den * (t - m) := by
    unfold segD
    rw [Int.mul_comm b.Den a.Den, ← Int.mul_add]; congr 1; omega
  rw [segN_alt, e1]
  omega
theorem SegOK.vf {a b : TFrac} {m n t : Int} (h : SegOK a b m n t) : vf (seg a b m n t) 20000000 = true := by
  obtain ⟨h1, h2⟩ := h.den
  obtain ⟨h3, h4⟩ := h.num
  exact vf_rd (x := ⟨segN a b m n t, segD a b m n⟩) (vf_iff.2 ⟨by simp only; omega, by simp only; omega, h3, h4⟩)
theorem SegOK.wraps {a b : TFrac} {m n t : Int} (h : SegOK a b m n t) :
    W (W (W (a.Num * b.Den) * (n - m)) + W (W (W (b.Num * a.Den) - W (a.Num * b.Den)) * (t - m))) = segN a b m n t ∧ W (W (a.Den * b.Den) * (n - m)) = segD a b m n := by
  obtain ⟨f1, f2, f3⟩ := h.facts
  have := h.mn; have := h.mt; have := h.tn; have := h.m0; have := h.n1
  have p1 := mul_bd (a := a.Num * b.Den) (b := n - m) (A := 3600000) (B := 1439) (by omega) (by omega)
  have p2 := mul_bd (a := b.Num * a.Den - a.Num * b.Den) (b := t - m) (A := 7200000) (B := 1439) (by omega) (by omega)
  have p3 := mul_bd (a := a.Den * b.Den) (b := n - m) (A := 10000) (B := 1439) (by omega) (by omega)
  rw [W_id (z := a.Num * b.Den) (by omega), W_id (z := b.Num * a.Den) (by omega), W_id (z := a.Den * b.Den) (by omega), W_id (z := b.Num * a.Den - a.Num * b.Den) (by omega),
    W_id (z := a.Num * b.Den * (n - m)) (by omega), W_id (z := (b.Num * a.Den - a.Num * b.Den) * (t - m)) (by omega), W_id (z := a.Den * b.Den * (n - m)) (by omega), W_id (by omega)]
  exact ⟨rfl, rfl⟩
theorem SegOK.I {a b : TFrac} {m n t : Int} (h : SegOK a b m n t) : I64 (segN a b m n t) ∧ I64 (segD a b m n) := by
  obtain ⟨h1, h2⟩ := h.den
  obtain ⟨h3, h4⟩ := h.num
  omega
theorem between_eq {a b : TFrac} {m n t : Int} (h : SegOK a b m n t) : m_moon_between a b (W (t - m)) (W (n - m)) = some (seg a b m n t) := by
  have := h.mn; have := h.mt; have := h.tn; have := h.m0; have := h.n1
  unfold m_moon_between
  rw [W_id (z := t - m) (by omega), W_id (z := n - m) (by omega), h.wraps.1, h.wraps.2, least_eq h.I.1 h.den.1 h.I.2]
  rfl
theorem rbetween_eq {a b : TFrac} {m n t : Int} (h : SegOK a b m n t) : m_R02_between a b (m, n, t) = some (seg a b m n t) := by
  have := h.mn; have := h.mt; have := h.tn; have := h.m0; have := h.n1
  unfold m_R02_between
  simp only
  rw [W_id (z := t - m) (by omega), W_id (z := n - m) (by omega), h.wraps.1, h.wraps.2, frac_eq h.I.1 h.den.1 h.I.2]
  rfl
theorem seg_end {a b : TFrac} {m n : Int} (h : SegOK a b m n n) : seg a b m n n = rd b.Num b.Den := by
  obtain ⟨b1, _⟩ := vf_iff.1 h.vb
  refine rd_eq h.den.1 (by omega) ?_
  rw [segN_alt]; unfold segD
  rw [Int.sub_self, Int.mul_zero, Int.zero_add]; ac_rfl
theorem seg_start {a b : TFrac} {m n : Int} (h : SegOK a b m n m) : seg a b m n m = rd a.Num a.Den := by
  obtain ⟨a1, _⟩ := vf_iff.1 h.va
  refine rd_eq h.den.1 (by omega) ?_
  rw [segN_alt]; unfold segD
  rw [Int.sub_self, Int.mul_zero, Int.add_zero]; ac_rfl
end Go.Proofs.Ytdhjccionnbljaa
namespace Go.Proofs.Ytdhjccionnbljaa
open Go Go.Sx
open Classical
theorem VSheet.pos {s : TSheet} (hs : VSheet s) : 0 < s.Rows.length := by have := hs.len; omega
theorem VSheet.row {s : TSheet} (hs : VSheet s) {k : Nat} (h : k < s.Rows.length) : VRow s.Rows[k] := (row_at h (hs.rows k h)).1
theorem VSheet.step {s : TSheet} (hs : VSheet s) {k : Nat} (h : k + 1 < s.Rows.length) : s.Rows[k].Minute < s.Rows[k + 1].Minute := by
  have := ((row_at h (hs.rows _ h)).2 (by omega)).1
  simpa using this
theorem VSheet.mono {s : TSheet} (hs : VSheet s) {i j : Nat} (hi : i < s.Rows.length) (hj : j < s.Rows.length) (h : i ≤ j) : s.Rows[i].Minute ≤ s.Rows[j].Minute := rows_mono hs.rows j i hi hj h
theorem VSheet.first0 {s : TSheet} (hs : VSheet s) : (s.Rows[0]'hs.pos).Minute = 0 := hs.first _ (List.getElem?_eq_getElem hs.pos)
theorem VSheet.last0 {s : TSheet} (hs : VSheet s) : (s.Rows[s.Rows.length - 1]'(by have := hs.pos; omega)).Minute = 1439 := hs.last _ (List.getElem?_eq_getElem (by have := hs.pos; omega))
theorem VSheet.bd {s : TSheet} (hs : VSheet s) {k : Nat} (h : k < s.Rows.length) : 0 ≤ s.Rows[k].Minute ∧ s.Rows[k].Minute ≤ 1439 := by
  have h1 := hs.mono hs.pos h (by omega)
  have h2 := hs.mono h (by have := hs.pos; omega : s.Rows.length - 1 < s.Rows.length) (by omega)
  rw [hs.first0] at h1; rw [hs.last0] at h2
  exact ⟨h1, h2⟩
theorem VSheet.segH {s : TSheet} (hs : VSheet s) {k : Nat} (h : k + 1 < s.Rows.length) {t : Int} (h1 : s.Rows[k].Minute ≤ t) (h2 : t ≤ s.Rows[k + 1].Minute) : SegOK s.Rows[k].Height s.Rows[k + 1].Height s.Rows[k].Minute s.Rows[k + 1].Minute t :=
  ⟨(hs.row (by omega)).h, (hs.row h).h, hs.step h, h1, h2, (hs.bd (by omega)).1, (hs.bd h).2⟩
theorem VSheet.segB {s : TSheet} (hs : VSheet s) {k : Nat} (h : k + 1 < s.Rows.length) {t : Int} (h1 : s.Rows[k].Minute ≤ t) (h2 : t ≤ s.Rows[k + 1].Minute) : SegOK s.Rows[k].Bearing s.Rows[k + 1].Bearing s.Rows[k].Minute s.Rows[k + 1].Minute t :=
  ⟨(hs.row (by omega)).b, (hs.row h).b, hs.step h, h1, h2, (hs.bd (by omega)).1, (hs.bd h).2⟩
theorem at_loop {s : TSheet} (hs : VSheet s) {t : Int} (h0 : 0 ≤ t) (h1 : t ≤ 1439) : ∃ k : Nat, loopF (m_moon_at__moon_heightOf_L1 s t) 0 = some (k : Int) ∧ ∃ h : k + 1 < s.Rows.length, t ≤ s.Rows[k + 1].Minute ∧ s.Rows[k].Minute ≤ t ∧ (0 < k → s.Rows[k].Minute < t) := by
  obtain ⟨e, he, k, rfl, hk⟩ := loopF_rule (body := m_moon_at__moon_heightOf_L1 s t) (fun i : Int => ∃ k : Nat, i = k ∧ ∃ h : k + 1 < s.Rows.length, s.Rows[k].Minute ≤ t ∧ (0 < k → s.Rows[k].Minute < t)) (fun i : Int => s.Rows.length - i.toNat)
    (fun e => ∃ k : Nat, e = k ∧ ∃ h : k + 1 < s.Rows.length, t ≤ s.Rows[k + 1].Minute ∧ s.Rows[k].Minute ≤ t ∧ (0 < k → s.Rows[k].Minute < t)) (by
    rintro i ⟨k, rfl, h, h2, h3⟩
    have hl := hs.len
    unfold m_moon_at__moon_heightOf_L1
    rw [W_s (by omega), idx_nat1 h, Option.bind_some]
    by_cases hc : s.Rows[k + 1].Minute < t
    · right
      have hk2 : k + 1 + 1 < s.Rows.length := by
        apply Nat.lt_of_not_le; intro hn
        have : s.Rows[s.Rows.length - 1]'(by omega) = s.Rows[k + 1] := by congr 1; omega
        have h4 := hs.last0
        rw [this] at h4; omega
      exact ⟨(k : Int) + 1, by simp [hc], ⟨k + 1, rfl, hk2, by omega, fun _ => hc⟩, by omega⟩
    · left
      exact ⟨(k : Int), by simp [hc], k, rfl, h, by omega, h2, h3⟩) 0 ⟨0, rfl, by have := hs.len; omega, by have := hs.first0; omega, by omega⟩ (lt_FUEL (by have := hs.len; omega))
  exact ⟨k, he, hk⟩
theorem atB_L1 : m_moon_at__moon_bearingOf_L1 = m_moon_at__moon_heightOf_L1 := rfl
theorem place_loop {s : TSheet} (hs : VSheet s) {t : Int} (h0 : 0 ≤ t) (h1 : t ≤ 1439) : ∃ k : Nat, loopF (m_R02_place_L1 s t) 0 = some (k : Int) ∧ ∃ h : k + 1 < s.Rows.length, s.Rows[k].Minute ≤ t ∧ (k + 2 < s.Rows.length → t < s.Rows[k + 1].Minute) := by
  obtain ⟨e, he, k, rfl, hk⟩ := loopF_rule (body := m_R02_place_L1 s t) (fun i : Int => ∃ k : Nat, i = k ∧ ∃ h : k + 1 < s.Rows.length, s.Rows[k].Minute ≤ t) (fun i : Int => s.Rows.length - i.toNat)
    (fun e => ∃ k : Nat, e = k ∧ ∃ h : k + 1 < s.Rows.length, s.Rows[k].Minute ≤ t ∧ (k + 2 < s.Rows.length → t < s.Rows[k + 1].Minute)) (by
    rintro i ⟨k, rfl, h, h2⟩
    have hl := hs.len
    unfold m_R02_place_L1
    rw [W_id (z := (k : Int) + 2) (by omega), W_s (by omega)]
    by_cases hc : k + 2 < s.Rows.length
    · have hc' : (k : Int) + 2 < (s.Rows.length : Int) := by omega
      simp only [hc', decide_true, if_true]
      rw [idx_nat1 h, Option.bind_some]
      by_cases hm : s.Rows[k + 1].Minute ≤ t
      · right
        exact ⟨(k : Int) + 1, by simp [hm], ⟨k + 1, rfl, hc, hm⟩, by omega⟩
      · left
        exact ⟨(k : Int), by simp [hm], k, rfl, h, h2, fun _ => by omega⟩
    · left
      have hc' : ¬ (k : Int) + 2 < (s.Rows.length : Int) := by omega
      exact ⟨(k : Int), by simp [hc'], k, rfl, h, h2, fun h => absurd h hc⟩) 0 ⟨0, rfl, by have := hs.len; omega, by have := hs.first0; omega⟩ (lt_FUEL (by have := hs.len; omega))
  exact ⟨k, he, hk⟩
structure At (s : TSheet) (t : Int) (h g : TFrac) : Prop where
  ex : ∃ (k : Nat) (hk : k + 1 < s.Rows.length), s.Rows[k].Minute ≤ t ∧ t ≤ s.Rows[k + 1].Minute ∧ h = seg s.Rows[k].Height s.Rows[k + 1].Height s.Rows[k].Minute s.Rows[k + 1].Minute t ∧ g = seg s.Rows[k].Bearing s.Rows[k + 1].Bearing s.Rows[k].Minute s.Rows[k + 1].Minute t
theorem at_ex {s : TSheet} (hs : VSheet s) {t : Int} (h0 : 0 ≤ t) (h1 : t ≤ 1439) : ∃ h g, At s t h g ∧ m_moon_at__moon_heightOf s t = some h ∧ m_moon_at__moon_bearingOf s t = some g ∧ m_R02_place s t = some (h, g) := by
  obtain ⟨k, ek, hk, a1, a2, a3⟩ := at_loop hs h0 h1
  obtain ⟨j, ej, hj, b1, b2⟩ := place_loop hs h0 h1
  have hl := hs.len
  have sh := hs.segH hk a2 a1
  have sb := hs.segB hk a2 a1
  refine ⟨_, _, ⟨k, hk, a2, a1, rfl, rfl⟩, ?_, ?_, ?_⟩
  · unfold m_moon_at__moon_heightOf m_moon_heightOf
    rw [ek, Option.bind_some, idx_nat (by omega), Option.bind_some, W_s (by omega), idx_nat1 hk]
    simp only [Option.bind_some]
    rw [between_eq sh]; rfl
  · unfold m_moon_at__moon_bearingOf m_moon_bearingOf
    rw [atB_L1, ek, Option.bind_some, idx_nat (by omega), Option.bind_some, W_s (by omega), idx_nat1 hk]
    simp only [Option.bind_some]
    rw [between_eq sb]; rfl
  · unfold m_R02_place
    rw [ej, Option.bind_some, idx_nat (by omega), Option.bind_some, W_s (by omega), idx_nat1 hj, Option.bind_some]
    have b3 : t ≤ s.Rows[j + 1].Minute := by
      by_cases h : j + 2 < s.Rows.length
      · have := b2 h; omega
      · have : s.Rows[s.Rows.length - 1]'(by omega) = s.Rows[j + 1] := by congr 1; omega
        have h4 := hs.last0
        rw [this] at h4; omega
    rw [rbetween_eq (hs.segH hj b1 b3), Option.bind_some, rbetween_eq (hs.segB hj b1 b3), Option.bind_some]
    -- the same pair of rows, or the next one at its first minute
    rcases Nat.lt_trichotomy j k with h | h | h
    · exfalso
      have := b2 (by omega)
      have h5 := hs.mono (i := j + 1) (j := k) (by omega) (by omega) (by omega)
      omega
    · subst h; rfl
    · have h5 := hs.mono (i := k + 1) (j := j) (by omega) (by omega) (by omega)
      have hjk : j = k + 1 := by
        apply Nat.le_antisymm _ h
        apply Nat.le_of_not_lt; intro hlt
        have h6 := hs.step (k := k + 1) (by omega)
        have h7 := hs.mono (i := k + 1 + 1) (j := j) (by omega) (by omega) (by omega)
        omega
      subst hjk
      obtain rfl : t = s.Rows[k + 1].Minute := by omega
      rw [seg_start (hs.segH hj b1 b3), seg_start (hs.segB hj b1 b3), seg_end sh, seg_end sb]
theorem At.vh {s : TSheet} (hs : VSheet s) {t : Int} {h g : TFrac} (ha : At s t h g) : vf h 20000000 = true := by
  obtain ⟨k, hk, a1, a2, rfl, rfl⟩ := ha.ex
  exact (hs.segH hk a1 a2).vf
theorem At.vg {s : TSheet} (hs : VSheet s) {t : Int} {h g : TFrac} (ha : At s t h g) : vf g 20000000 = true := by
  obtain ⟨k, hk, a1, a2, rfl, rfl⟩ := ha.ex
  exact (hs.segB hk a1 a2).vf
def lessF (h : TFrac) (n : Int) : TFrac := rd (h.Num - n * h.Den) h.Den
theorem less_bd {h : TFrac} (hv : vf h 20000000 = true) {n : Int} (hn : 0 ≤ n ∧ n ≤ 90) : I64 (h.Num - n * h.Den) ∧ I64 h.Den ∧ 0 < h.Den ∧ W (h.Num - W (n * h.Den)) = h.Num - n * h.Den := by
  obtain ⟨h1, h2, h3, h4⟩ := vf_iff.1 hv
  have p := mul_bd (a := n) (b := h.Den) (A := 90) (B := 20000000) (by omega) (by omega)
  refine ⟨by omega, by omega, by omega, ?_⟩
  rw [W_id (z := n * h.Den) (by omega), W_id (by omega)]
theorem margin_ex {s : TSheet} (hs : VSheet s) {l : List TRoof} (hl : VRoofs l) {t : Int} (h0 : 0 ≤ t) (h1 : t ≤ 1439) : ∃ h g, At s t h g ∧ m_moon_margin s l t = some (lessF h (hz l g)) ∧ m_R02_margin s l t = some (lessF h (hz l g)) := by
  obtain ⟨h, g, ha, e1, e2, e3⟩ := at_ex hs h0 h1
  have vh := ha.vh hs
  have vg := ha.vg hs
  have sg := vf_Sm (Int.le_refl _) vg
  obtain ⟨b1, b2, b3, b4⟩ := less_bd vh (hz_bd hl.all g)
  refine ⟨h, g, ha, ?_, ?_⟩
  · unfold m_moon_margin
    rw [e1, Option.bind_some, e2, Option.bind_some, horizon_eq hl sg, Option.bind_some, b4, least_eq b1 b3 b2]; rfl
  · unfold m_R02_margin m_R02_less
    rw [e3]
    simp only [Option.bind_some]
    rw [rhorizon_eq hl sg, Option.bind_some, b4, frac_eq b1 b3 b2]; rfl
theorem isMinute_eq (t : Int) : m_moon_isMinute t = some (decide (0 ≤ t ∧ t ≤ 1439)) := by
  unfold m_moon_isMinute; rw [within_eq, band]; rfl
theorem risMinute_eq (t : Int) : m_R02_isMinute t = some (decide (0 ≤ t ∧ t ≤ 1439)) := by
  unfold m_R02_isMinute; rw [In_eq, band]; rfl
theorem asked_eq (s : TSheet) (t : Int) : m_moon_asked s t = some (if VSheet s then (if 0 ≤ t ∧ t ≤ 1439 then 0 else 1) else 21) := by
  unfold m_moon_asked
  rw [CheckSheet_eq]
  by_cases hs : VSheet s
  · by_cases ht : 0 ≤ t ∧ t ≤ 1439 <;> simp [hs, isMinute_eq, ht]
  · simp [hs]
theorem Height_same (s : TSheet) (t : Int) : ∃ h e, m_moon_Height s t = some (h, e) ∧ m_R02_Height s t = some (h, e) := by
  unfold m_moon_Height m_R02_Height
  rw [asked_eq, rCheckSheet_eq]
  by_cases hs : VSheet s
  · by_cases ht : 0 ≤ t ∧ t ≤ 1439
    · obtain ⟨h, g, _, e1, e2, e3⟩ := at_ex hs ht.1 ht.2
      exact ⟨h, 0, by simp [hs, ht, e1], by simp [hs, risMinute_eq, ht, e3]⟩
    · exact ⟨⟨0, 0⟩, 1, by simp only [hs, ht, if_true, if_false]; rfl, by simp [hs, risMinute_eq, ht]⟩
  · exact ⟨⟨0, 0⟩, 21, by simp [hs], by simp [hs]⟩
theorem Bearing_same (s : TSheet) (t : Int) : ∃ h e, m_moon_Bearing s t = some (h, e) ∧ m_R02_Bearing s t = some (h, e) := by
  unfold m_moon_Bearing m_R02_Bearing
  rw [asked_eq, rCheckSheet_eq]
  by_cases hs : VSheet s
  · by_cases ht : 0 ≤ t ∧ t ≤ 1439
    · obtain ⟨h, g, _, e1, e2, e3⟩ := at_ex hs ht.1 ht.2
      exact ⟨g, 0, by simp [hs, ht, e2], by simp [hs, risMinute_eq, ht, e3]⟩
    · exact ⟨⟨0, 0⟩, 1, by simp only [hs, ht, if_true, if_false]; rfl, by simp [hs, risMinute_eq, ht]⟩
  · exact ⟨⟨0, 0⟩, 21, by simp [hs], by simp [hs]⟩
theorem Horizon_same (l : List TRoof) (hl : l.length ≤ maxLen) (g : TFrac) : ∃ n e, m_moon_Horizon l g = some (n, e) ∧ m_R02_Horizon l g = some (n, e) := by
  unfold m_moon_Horizon m_R02_Horizon
  rw [areRoofs_eq l hl, rareRoofs_eq]
  by_cases hr : VRoofs l
  · simp only [hr, decide_true, Option.bind_some, Bool.not_true, Bool.false_eq_true, if_false]
    rw [isFrac_eq _ (Int.le_refl _), rCheckFrac_eq]
    by_cases hv : vf g 20000000 = true
    · have hb := vf_iff.1 hv
      have hw : W (360 * g.Den) = 360 * g.Den := W_id (by omega)
      simp only [hv, hw, Option.bind_some, Bool.not_true, Bool.false_eq_true, if_false, if_true, bne_self_eq_false]
      by_cases h1 : g.Num < 0
      · exact ⟨0, 20, by simp [h1], by simp [h1]⟩
      · by_cases h2 : g.Num ≥ 360 * g.Den
        · exact ⟨0, 20, by simp [h1, h2], by simp [h1, h2]⟩
        · have sg := vf_Sm (Int.le_refl _) hv
          exact ⟨hz l g, 0, by simp [h1, h2, horizon_eq hr sg], by simp [h1, h2, rhorizon_eq hr sg]⟩
    · exact ⟨0, 20, by simp [hv], by simp [hv]⟩
  · exact ⟨0, 22, by simp [hr], by simp [hr]⟩
theorem Margin_same (s : TSheet) (l : List TRoof) (hl : l.length ≤ maxLen) (t : Int) : ∃ h e, m_moon_Margin s l t = some (h, e) ∧ m_R02_Margin s l t = some (h, e) := by
  unfold m_moon_Margin m_R02_Margin
  rw [CheckSheet_eq, rCheckSheet_eq, areRoofs_eq l hl, rareRoofs_eq, isMinute_eq, risMinute_eq]
  by_cases hs : VSheet s
  · by_cases hr : VRoofs l
    · by_cases ht : 0 ≤ t ∧ t ≤ 1439
      · obtain ⟨h, g, _, e1, e2⟩ := margin_ex hs hr ht.1 ht.2
        exact ⟨lessF h (hz l g), 0, by simp [hs, hr, ht, e1], by simp [hs, hr, ht, e2]⟩
      · exact ⟨⟨0, 0⟩, 1, by simp [hs, hr, ht], by simp [hs, hr, ht]⟩
    · exact ⟨⟨0, 0⟩, 22, by simp [hs, hr], by simp [hs, hr]⟩
  · exact ⟨⟨0, 0⟩, 21, by simp [hs], by simp [hs]⟩
end Go.Proofs.Ytdhjccionnbljaa
namespace Go.Proofs.Ytdhjccionnbljaa
open Go Go.Sx
set_option maxRecDepth 1000000 in
theorem pl_sane : m_L02_sane = some true := by decide +kernel
end Go.Proofs.Ytdhjccionnbljaa
namespace Go.Proofs.Ytdhjccionnbljaa
open Go Go.Sx
theorem pl_MoonPlaces (s : TSky) (b : TFrac) (t : Int) (hs : TSky.G s) (_ : TFrac.G b) (_ : InK .i64 t) : m_L02_MoonPlaces s b t = some true := by
  have hl : s.Roofs.length ≤ maxLen := hs.2.1.2.1
  have key : ∀ x : TSheet, ∃ a1 a2 a3 a4 a5 a6 a7 a8, m_moon_Height x t = some (a1, a2) ∧ m_R02_Height x t = some (a1, a2) ∧ m_moon_Bearing x t = some (a3, a4) ∧ m_R02_Bearing x t = some (a3, a4) ∧ m_moon_Horizon s.Roofs b = some (a5, a6) ∧ m_R02_Horizon s.Roofs b = some (a5, a6) ∧ m_moon_Margin x s.Roofs t = some (a7, a8) ∧ m_R02_Margin x s.Roofs t = some (a7, a8) := by
    intro x
    obtain ⟨a1, a2, e1, e2⟩ := Height_same x t
    obtain ⟨a3, a4, e3, e4⟩ := Bearing_same x t
    obtain ⟨a5, a6, e5, e6⟩ := Horizon_same s.Roofs hl b
    obtain ⟨a7, a8, e7, e8⟩ := Margin_same x s.Roofs hl t
    exact ⟨a1, a2, a3, a4, a5, a6, a7, a8, e1, e2, e3, e4, e5, e6, e7, e8⟩
  unfold m_L02_MoonPlaces
  by_cases h0 : 0 < s.Sheets.length
  · have h0' : (s.Sheets.length : Int) > 0 := by omega
    obtain ⟨a1, a2, a3, a4, a5, a6, a7, a8, e1, e2, e3, e4, e5, e6, e7, e8⟩ := key s.Sheets[0]
    have hi : idx s.Sheets 0 = some s.Sheets[0] := idx_nat (k := 0) h0
    simp only [h0', hi, decide_true, if_true, e1, e2, e3, e4, e5, e6, e7, e8, pl_sane, Option.bind_some, beq_self_eq_true, Bool.and_self]
  · have h0' : ¬ (s.Sheets.length : Int) > 0 := by omega
    obtain ⟨a1, a2, a3, a4, a5, a6, a7, a8, e1, e2, e3, e4, e5, e6, e7, e8⟩ := key (⟨0, 0, 0, 0, [], (⟨0, 0⟩ : TFrac), (⟨0, 0⟩ : TRange)⟩ : TSheet)
    simp only [h0', decide_false, Bool.false_eq_true, if_false, e1, e2, e3, e4, e5, e6, e7, e8, pl_sane, Option.bind_some, beq_self_eq_true, Bool.and_self, if_true]
end Go.Proofs.Ytdhjccionnbljaa
