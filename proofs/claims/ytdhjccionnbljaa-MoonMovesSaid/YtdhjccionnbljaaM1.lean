/- What may be read at the types of the statement's parameters; plain facts. -/
import Derived.Test.YtdhjccionnbljaaL2
set_option linter.unusedVariables false
set_option linter.unusedSimpArgs false
namespace Go.Proofs.Ytdhjccionnbljaa
open Go Go.RowKit Go.Sx
def TFrac.G (x : TFrac) : Prop := InK .i64 x.Num ∧ InK .i64 x.Den
theorem op_37 : Opens Try.prog 37 TFrac.c TFrac.G :=
  (Opens.struct Try.underlying37 (OpensF.cons (s := 1) (Opens.int Try.underlying3) (OpensF.last (s := 1) (Opens.int Try.underlying3) rfl (by kernel_rfl) rfl) rfl (by kernel_rfl)) (by kernel_rfl)).iso (fun x => (⟨x.1, x.2⟩ : TFrac)) (fun _ => rfl) (fun _ h => h)
def TRow.G (x : TRow) : Prop := InK .i64 x.Minute ∧ TFrac.G x.Height ∧ TFrac.G x.Bearing
theorem op_104 : Opens Try.prog 104 TRow.c TRow.G :=
  (Opens.struct Try.underlying104 (OpensF.cons (s := 1) (Opens.int Try.underlying3) (OpensF.cons (s := 2) op_37 (OpensF.last (s := 2) op_37 rfl (by kernel_rfl) rfl) rfl (by kernel_rfl)) rfl (by kernel_rfl)) (by kernel_rfl)).iso (fun x => (⟨x.1, x.2.1, x.2.2⟩ : TRow)) (fun _ => rfl) (fun _ h => h)
theorem op_35 : Opens Try.prog 35 (fun l : (List TRow) => [.lst 5 l.length (l.flatMap TRow.c)]) (fun l => (l.length * 40 ≤ reachBytes ∧ l.length ≤ maxLen ∧ ∀ y : TRow, y ∈ l → TRow.G y)) :=
  Opens.slice Try.underlying35 op_104 (by kernel_rfl) (by kernel_rfl) (fun _ => rfl) (fun _ => rfl) (by decide)
def TRange.G (x : TRange) : Prop := InK .i64 x.Lo ∧ InK .i64 x.Hi
theorem op_39 : Opens Try.prog 39 TRange.c TRange.G :=
  (Opens.struct Try.underlying39 (OpensF.cons (s := 1) (Opens.int Try.underlying3) (OpensF.last (s := 1) (Opens.int Try.underlying3) rfl (by kernel_rfl) rfl) rfl (by kernel_rfl)) (by kernel_rfl)).iso (fun x => (⟨x.1, x.2⟩ : TRange)) (fun _ => rfl) (fun _ h => h)
def TSheet.G (x : TSheet) : Prop := InK .i64 x.Source ∧ InK .i64 x.Night ∧ InK .i64 x.Known ∧ InK .i64 x.Until ∧ (x.Rows.length * 40 ≤ reachBytes ∧ x.Rows.length ≤ maxLen ∧ ∀ y : TRow, y ∈ x.Rows → TRow.G y) ∧ TFrac.G x.Off ∧ TRange.G x.Light
theorem op_41 : Opens Try.prog 41 TSheet.c TSheet.G :=
  (Opens.struct Try.underlying41 (OpensF.cons (s := 1) (Opens.int Try.underlying3) (OpensF.cons (s := 1) (Opens.int Try.underlying3) (OpensF.cons (s := 1) (Opens.int Try.underlying3) (OpensF.cons (s := 1) (Opens.int Try.underlying3) (OpensF.cons (s := 1) op_35 (OpensF.cons (s := 2) op_37 (OpensF.last (s := 2) op_39 rfl (by kernel_rfl) rfl) rfl (by kernel_rfl)) rfl (by kernel_rfl)) rfl (by kernel_rfl)) rfl (by kernel_rfl)) rfl (by kernel_rfl)) rfl (by kernel_rfl)) (by kernel_rfl)).iso (fun x => (⟨x.1, x.2.1, x.2.2.1, x.2.2.2.1, x.2.2.2.2.1, x.2.2.2.2.2.1, x.2.2.2.2.2.2⟩ : TSheet)) (fun _ => rfl) (fun _ h => h)
theorem op_28 : Opens Try.prog 28 (fun l : (List TSheet) => [.lst 9 l.length (l.flatMap TSheet.c)]) (fun l => (l.length * 88 ≤ reachBytes ∧ l.length ≤ maxLen ∧ ∀ y : TSheet, y ∈ l → TSheet.G y)) :=
  Opens.slice Try.underlying28 op_41 (by kernel_rfl) (by kernel_rfl) (fun _ => rfl) (fun _ => rfl) (by decide)
def TRoof.G (x : TRoof) : Prop := InK .i64 x.From ∧ InK .i64 x.To ∧ InK .i64 x.Top
theorem op_58 : Opens Try.prog 58 TRoof.c TRoof.G :=
  (Opens.struct Try.underlying58 (OpensF.cons (s := 1) (Opens.int Try.underlying3) (OpensF.cons (s := 1) (Opens.int Try.underlying3) (OpensF.last (s := 1) (Opens.int Try.underlying3) rfl (by kernel_rfl) rfl) rfl (by kernel_rfl)) rfl (by kernel_rfl)) (by kernel_rfl)).iso (fun x => (⟨x.1, x.2.1, x.2.2⟩ : TRoof)) (fun _ => rfl) (fun _ h => h)
theorem op_29 : Opens Try.prog 29 (fun l : (List TRoof) => [.lst 3 l.length (l.flatMap TRoof.c)]) (fun l => (l.length * 24 ≤ reachBytes ∧ l.length ≤ maxLen ∧ ∀ y : TRoof, y ∈ l → TRoof.G y)) :=
  Opens.slice Try.underlying29 op_58 (by kernel_rfl) (by kernel_rfl) (fun _ => rfl) (fun _ => rfl) (by decide)
def TSighting.G (x : TSighting) : Prop := InK .i64 x.Source ∧ InK .i64 x.Night ∧ InK .i64 x.Minute ∧ True ∧ InK .i64 x.Known ∧ InK .i64 x.Until
theorem op_43 : Opens Try.prog 43 TSighting.c TSighting.G :=
  (Opens.struct Try.underlying43 (OpensF.cons (s := 1) (Opens.int Try.underlying3) (OpensF.cons (s := 1) (Opens.int Try.underlying3) (OpensF.cons (s := 1) (Opens.int Try.underlying3) (OpensF.cons (s := 1) (Opens.bool Try.underlying4) (OpensF.cons (s := 1) (Opens.int Try.underlying3) (OpensF.last (s := 1) (Opens.int Try.underlying3) rfl (by kernel_rfl) rfl) rfl (by kernel_rfl)) rfl (by kernel_rfl)) rfl (by kernel_rfl)) rfl (by kernel_rfl)) rfl (by kernel_rfl)) (by kernel_rfl)).iso (fun x => (⟨x.1, x.2.1, x.2.2.1, x.2.2.2.1, x.2.2.2.2.1, x.2.2.2.2.2⟩ : TSighting)) (fun _ => rfl) (fun _ h => h)
theorem op_30 : Opens Try.prog 30 (fun l : (List TSighting) => [.lst 6 l.length (l.flatMap TSighting.c)]) (fun l => (l.length * 48 ≤ reachBytes ∧ l.length ≤ maxLen ∧ ∀ y : TSighting, y ∈ l → TSighting.G y)) :=
  Opens.slice Try.underlying30 op_43 (by kernel_rfl) (by kernel_rfl) (fun _ => rfl) (fun _ => rfl) (by decide)
def TSky.G (x : TSky) : Prop := (x.Sheets.length * 88 ≤ reachBytes ∧ x.Sheets.length ≤ maxLen ∧ ∀ y : TSheet, y ∈ x.Sheets → TSheet.G y) ∧ (x.Roofs.length * 24 ≤ reachBytes ∧ x.Roofs.length ≤ maxLen ∧ ∀ y : TRoof, y ∈ x.Roofs → TRoof.G y) ∧ (x.Sightings.length * 48 ≤ reachBytes ∧ x.Sightings.length ≤ maxLen ∧ ∀ y : TSighting, y ∈ x.Sightings → TSighting.G y)
theorem op_32 : Opens Try.prog 32 TSky.c TSky.G :=
  (Opens.struct Try.underlying32 (OpensF.cons (s := 1) op_28 (OpensF.cons (s := 1) op_29 (OpensF.last (s := 1) op_30 rfl (by kernel_rfl) rfl) rfl (by kernel_rfl)) rfl (by kernel_rfl)) (by kernel_rfl)).iso (fun x => (⟨x.1, x.2.1, x.2.2⟩ : TSky)) (fun _ => rfl) (fun _ h => h)
theorem op_95 : Opens Try.prog 95 (fun (x : (Int × Int)) => [DI x.1, DI x.2]) (fun x : (Int × Int) => (InK .i64 x.1 ∧ InK .i64 x.2)) :=
  (Opens.arr Try.underlying95 (OpensA.cons (s := 1) (Opens.int Try.underlying3) (OpensA.last (s := 1) (Opens.int Try.underlying3) rfl (by kernel_rfl) rfl) rfl (by kernel_rfl)) (by kernel_rfl)).iso (fun x => x) (fun _ => rfl) (fun _ h => h)
end Go.Proofs.Ytdhjccionnbljaa
namespace Go.Proofs.Ytdhjccionnbljaa
open Go Go.Sx
theorem W_id {z : Int} (h : -9223372036854775808 ≤ z ∧ z ≤ 9223372036854775807) : W z = z := w64 h
theorem gcdO : ∀ (n : Nat) (a b : Int), b.natAbs < n → ∃ g : Int, loopO m_moon_gcd_L1 n (a, b) = some (g, 0) ∧ g.natAbs = Nat.gcd a.natAbs b.natAbs
  | 0, a, b, h => by omega
  | n + 1, a, b, h => by
    by_cases hb : b = 0
    · subst hb
      exact ⟨a, by simp [loopO, m_moon_gcd_L1], by simp⟩
    · have hlt : (a.tmod b).natAbs < b.natAbs := by
        rw [Int.natAbs_tmod]
        exact Nat.mod_lt _ (by omega)
      obtain ⟨g, h1, h2⟩ := gcdO n b (a.tmod b) (by omega)
      refine ⟨g, ?_, ?_⟩
      · simp only [loopO, m_moon_gcd_L1]
        simp [hb, gd, h1]
      · rw [h2, Int.natAbs_tmod, Nat.gcd_comm, ← Nat.gcd_rec, Nat.gcd_comm]
theorem gcdF (a b : Int) (h : b.natAbs < FUEL) : ∃ g : Int, loopF m_moon_gcd_L1 (a, b) = some (g, 0) ∧ g.natAbs = Nat.gcd a.natAbs b.natAbs := gcdO FUEL a b h
theorem frac_L1 : m_R02_frac_L1 = m_moon_gcd_L1 := rfl
def rd (n d : Int) : TFrac := ⟨n / (Nat.gcd n.natAbs d.natAbs : Nat), d / (Nat.gcd n.natAbs d.natAbs : Nat)⟩
abbrev I64 (z : Int) : Prop := -9223372036854775808 < z ∧ z ≤ 9223372036854775807
theorem FUEL_lt {z : Int} (h : I64 z) : z.natAbs < FUEL := by unfold FUEL; omega
theorem gcd_pos {n d : Int} (hd : 0 < d) : 0 < Nat.gcd n.natAbs d.natAbs := Nat.gcd_pos_of_pos_right _ (by omega)
theorem gcd_dvd_n (n d : Int) : ((Nat.gcd n.natAbs d.natAbs : Nat) : Int) ∣ n := by
  rw [Int.ofNat_dvd_left]; exact Nat.gcd_dvd_left _ _
theorem gcd_dvd_d (n d : Int) : ((Nat.gcd n.natAbs d.natAbs : Nat) : Int) ∣ d := by
  rw [Int.ofNat_dvd_left]; exact Nat.gcd_dvd_right _ _
theorem gcd_le {n d : Int} (hd : 0 < d) : ((Nat.gcd n.natAbs d.natAbs : Nat) : Int) ≤ d := by
  have := Nat.le_of_dvd (by omega) (Nat.gcd_dvd_right n.natAbs d.natAbs); omega
theorem div_bd {z g : Int} (hz : I64 z) (hg : 0 < g) : I64 (z.tdiv g) ∧ (g ∣ z → z.tdiv g = z / g) := by
  refine ⟨?_, fun h => ?_⟩
  · have h1 : (z.tdiv g).natAbs ≤ z.natAbs := by rw [Int.natAbs_tdiv]; exact Nat.div_le_self _ _
    omega
  · obtain ⟨k, rfl⟩ := h
    rw [Int.mul_tdiv_cancel_left _ (by omega), Int.mul_ediv_cancel_left _ (by omega)]
theorem least_eq {n d : Int} (hn : I64 n) (hd : 0 < d) (hd2 : I64 d) : m_moon_least n d = some (rd n d) := by
  obtain ⟨g, h1, h2⟩ := gcdF n d (FUEL_lt hd2)
  have hp := gcd_pos (n := n) hd
  have hle := gcd_le (n := n) hd
  have hg : (if W (0 - g) > g then W (0 - g) else g) = ((Nat.gcd n.natAbs d.natAbs : Nat) : Int) := by
    have : W (0 - g) = 0 - g := W_id (by omega)
    rw [this]; split <;> omega
  unfold m_moon_least m_moon_gcd
  rw [h1]
  simp only [Option.bind_some, hg]
  have hne : ((Nat.gcd n.natAbs d.natAbs : Nat) : Int) ≠ 0 := by omega
  simp only [gd, if_pos hne]
  obtain ⟨b1, e1⟩ := div_bd hn (g := ((Nat.gcd n.natAbs d.natAbs : Nat) : Int)) (by omega)
  obtain ⟨b2, e2⟩ := div_bd hd2 (g := ((Nat.gcd n.natAbs d.natAbs : Nat) : Int)) (by omega)
  rw [W_id (by omega), W_id (by omega), e1 (gcd_dvd_n _ _), e2 (gcd_dvd_d _ _)]
  rfl
theorem reduced_eq {x : TFrac} (hn : I64 x.Num) (hd : 0 < x.Den) (hd2 : I64 x.Den) : m_moon_reduced x = some (rd x.Num x.Den) := by
  unfold m_moon_reduced; rw [least_eq hn hd hd2]; rfl
theorem frac_eq {n d : Int} (hn : I64 n) (hd : 0 < d) (hd2 : I64 d) : m_R02_frac n d = some (rd n d) := by
  have hp := gcd_pos (n := n) hd
  have hle := gcd_le (n := n) hd
  have key : ∀ m : Int, I64 m → m.natAbs = n.natAbs → 0 ≤ m → ∃ g : Int, loopF m_R02_frac_L1 (m, d) = some (g, 0) ∧ g = ((Nat.gcd n.natAbs d.natAbs : Nat) : Int) := by
    intro m hm he h0
    rw [frac_L1]
    -- the loop's result is not negative: its numbers are not
    have pos : ∀ (k : Nat) (a b : Int), 0 ≤ a → 0 ≤ b → ∀ g, loopO m_moon_gcd_L1 k (a, b) = some (g, 0) → 0 ≤ g := by
      intro k
      induction k with
      | zero => intro a b _ _ g h; cases h
      | succ k ih =>
        intro a b ha hb g h
        simp only [loopO, m_moon_gcd_L1] at h
        by_cases hb0 : b = 0
        · subst hb0; simp at h; omega
        · simp [hb0, gd] at h
          exact ih b (a.tmod b) hb (Int.tmod_nonneg _ ha) g h
    obtain ⟨g, h1, h2⟩ := gcdF m d (FUEL_lt hd2)
    have := pos FUEL m d h0 (by omega) g h1
    exact ⟨g, h1, by rw [he] at h2; omega⟩
  have hne : ((Nat.gcd n.natAbs d.natAbs : Nat) : Int) ≠ 0 := by omega
  have hb0 : (((Nat.gcd n.natAbs d.natAbs : Nat) : Int) == 0) = false := by simpa using hne
  obtain ⟨b1, e1⟩ := div_bd hn (g := ((Nat.gcd n.natAbs d.natAbs : Nat) : Int)) (by omega)
  obtain ⟨b2, e2⟩ := div_bd hd2 (g := ((Nat.gcd n.natAbs d.natAbs : Nat) : Int)) (by omega)
  unfold m_R02_frac
  rw [if_neg (by simp; omega)]
  by_cases hneg : n < 0
  · rw [if_pos (by simpa using hneg)]
    have hw : W (0 - n) = 0 - n := W_id (by omega)
    obtain ⟨g, h1, rfl⟩ := key (0 - n) (by omega) (by omega) (by omega)
    rw [hw, h1]
    simp only [Option.bind_some, hb0, gd, if_pos hne]
    rw [if_neg (by simp), W_id (by omega), W_id (by omega), e1 (gcd_dvd_n _ _), e2 (gcd_dvd_d _ _)]
    rfl
  · rw [if_neg (by simpa using hneg)]
    obtain ⟨g, h1, rfl⟩ := key n hn rfl (by omega)
    rw [h1]
    simp only [Option.bind_some, hb0, gd, if_pos hne]
    rw [if_neg (by simp), W_id (by omega), W_id (by omega), e1 (gcd_dvd_n _ _), e2 (gcd_dvd_d _ _)]
    rfl
theorem rd_spec {n d : Int} (hd : 0 < d) : ∃ g : Int, 0 < g ∧ n = g * (rd n d).Num ∧ d = g * (rd n d).Den ∧ 0 < (rd n d).Den := by
  have hp := gcd_pos (n := n) hd
  refine ⟨((Nat.gcd n.natAbs d.natAbs : Nat) : Int), by omega, ?_, ?_, ?_⟩
  · exact (Int.mul_ediv_cancel' (gcd_dvd_n n d)).symm
  · exact (Int.mul_ediv_cancel' (gcd_dvd_d n d)).symm
  · have h1 : d = ((Nat.gcd n.natAbs d.natAbs : Nat) : Int) * (rd n d).Den := (Int.mul_ediv_cancel' (gcd_dvd_d n d)).symm
    have h2 : 0 < ((Nat.gcd n.natAbs d.natAbs : Nat) : Int) * (rd n d).Den := by omega
    exact Int.pos_of_mul_pos_right h2 (by omega) |> fun h => h
def cmpI (a b : Int) : Int := if a < b then -1 else if a > b then 1 else 0
def fcmp (x y : TFrac) : Int := cmpI (x.Num * y.Den) (y.Num * x.Den)
theorem cmp_eq (a b : Int) : m_cmp_Compare_int a b = some (cmpI a b) := by
  unfold m_cmp_Compare_int m_cmp_isNaN_int cmpI
  simp
  split <;> simp_all
  split <;> simp_all
structure Sm (x : TFrac) : Prop where
  den : 0 < x.Den
  den2 : x.Den ≤ 20000000
  lo : -7200000000 ≤ x.Num
  hi : x.Num ≤ 7200000000
theorem Sm.I {x : TFrac} (h : Sm x) : I64 x.Num ∧ I64 x.Den := by obtain ⟨_, _, _, _⟩ := h; omega
theorem mul_bd {a b A B : Int} (ha : -A ≤ a ∧ a ≤ A) (hb : 0 ≤ b ∧ b ≤ B) : -(A * B) ≤ a * b ∧ a * b ≤ A * B := by
  have hA : 0 ≤ A := by omega
  have h1 : a * b ≤ A * b := Int.mul_le_mul_of_nonneg_right ha.2 hb.1
  have h2 : A * b ≤ A * B := Int.mul_le_mul_of_nonneg_left hb.2 hA
  have h3 : (-A) * b ≤ a * b := Int.mul_le_mul_of_nonneg_right ha.1 hb.1
  rw [Int.neg_mul] at h3
  omega
theorem Sm.prod {x y : TFrac} (hx : Sm x) (hy : Sm y) : I64 (x.Num * y.Den) := by
  have := mul_bd (a := x.Num) (b := y.Den) (A := 7200000000) (B := 20000000) ⟨hx.lo, hx.hi⟩ ⟨by have := hy.den; omega, hy.den2⟩
  omega
theorem compare_eq {x y : TFrac} (hx : Sm x) (hy : Sm y) : m_moon_compare x y = some (fcmp x y) := by
  unfold m_moon_compare
  rw [reduced_eq hx.I.1 hx.den hx.I.2, reduced_eq hy.I.1 hy.den hy.I.2]
  have p1 := hx.prod hy
  have p2 := hy.prod hx
  simp only [Option.bind_some]
  split
  · rename_i h
    simp only [Bool.and_eq_true, beq_iff_eq] at h
    obtain ⟨g, _, h1, h2, _⟩ := rd_spec (n := x.Num) hx.den
    obtain ⟨k, _, h3, h4, _⟩ := rd_spec (n := y.Num) hy.den
    clear p1 p2
    generalize rd x.Num x.Den = p at *
    generalize rd y.Num y.Den = q at *
    have : x.Num * y.Den = y.Num * x.Den := by
      rw [h1, h2, h3, h4, h.1, h.2]; ac_rfl
    unfold fcmp cmpI
    rw [this]; simp
  · rw [W_id (by omega), W_id (by omega), cmp_eq]; rfl
theorem sign_eq {x y : TFrac} (hx : Sm x) (hy : Sm y) : m_R02_sign x y = some (fcmp x y) := by
  have p1 := hx.prod hy
  have p2 := hy.prod hx
  unfold m_R02_sign fcmp cmpI
  rw [W_id (by omega), W_id (by omega)]
  split <;> simp_all
  split <;> simp_all
theorem fcmp_anti (x y : TFrac) : fcmp y x = - fcmp x y := by
  unfold fcmp cmpI; split <;> split <;> (try split) <;> omega
theorem fcmp_le {x y : TFrac} : fcmp x y ≤ 0 ↔ x.Num * y.Den ≤ y.Num * x.Den := by unfold fcmp cmpI; split <;> (try split) <;> omega
theorem fcmp_lt {x y : TFrac} : fcmp x y < 0 ↔ x.Num * y.Den < y.Num * x.Den := by unfold fcmp cmpI; split <;> (try split) <;> omega
theorem frac_trans {x y z : TFrac} (hx : 0 < x.Den) (hy : 0 < y.Den) (hz : 0 < z.Den) (h1 : x.Num * y.Den ≤ y.Num * x.Den) (h2 : y.Num * z.Den ≤ z.Num * y.Den) : x.Num * z.Den ≤ z.Num * x.Den := by
  have a := Int.mul_le_mul_of_nonneg_right h1 (Int.le_of_lt hz)
  have b := Int.mul_le_mul_of_nonneg_right h2 (Int.le_of_lt hx)
  have e1 : x.Num * y.Den * z.Den = x.Num * z.Den * y.Den := by ac_rfl
  have e2 : y.Num * x.Den * z.Den = y.Num * z.Den * x.Den := by ac_rfl
  have e3 : z.Num * y.Den * x.Den = z.Num * x.Den * y.Den := by ac_rfl
  exact Int.le_of_mul_le_mul_right (by omega : x.Num * z.Den * y.Den ≤ z.Num * x.Den * y.Den) hy
theorem frac_trans_lt {x y z : TFrac} (hx : 0 < x.Den) (hy : 0 < y.Den) (hz : 0 < z.Den) (h1 : x.Num * y.Den < y.Num * x.Den) (h2 : y.Num * z.Den ≤ z.Num * y.Den) : x.Num * z.Den < z.Num * x.Den := by
  have a := Int.mul_lt_mul_of_pos_right h1 hz
  have b := Int.mul_le_mul_of_nonneg_right h2 (Int.le_of_lt hx)
  have e1 : x.Num * y.Den * z.Den = x.Num * z.Den * y.Den := by ac_rfl
  have e2 : y.Num * x.Den * z.Den = y.Num * z.Den * x.Den := by ac_rfl
  have e3 : z.Num * y.Den * x.Den = z.Num * x.Den * y.Den := by ac_rfl
  exact Int.lt_of_mul_lt_mul_right (by omega : x.Num * z.Den * y.Den < z.Num * x.Den * y.Den) (Int.le_of_lt hy)
def vf (x : TFrac) (B : Int) : Bool := decide (1 ≤ x.Den) && decide (x.Den ≤ B) && (decide (-(360 * x.Den) ≤ x.Num) && decide (x.Num ≤ 360 * x.Den))
theorem vf_iff {x : TFrac} {B : Int} : vf x B = true ↔ 1 ≤ x.Den ∧ x.Den ≤ B ∧ -(360 * x.Den) ≤ x.Num ∧ x.Num ≤ 360 * x.Den := by unfold vf; simp [and_assoc]
theorem isFrac_eq (x : TFrac) {B : Int} (hB : B ≤ 20000000) : m_moon_isFrac x B = some (vf x B) := by
  unfold m_moon_isFrac m_moon_within vf
  by_cases h1 : 1 ≤ x.Den
  · by_cases h2 : x.Den ≤ B
    · simp only [h1, h2, decide_true, if_true, Option.bind_some, Bool.true_and, Bool.and_self]
      rw [W_id (by omega), W_id (by omega)]
      by_cases h3 : -(360 * x.Den) ≤ x.Num
      · have : (-360) * x.Den ≤ x.Num := by omega
        simp [this, h3]
      · have : ¬ (-360) * x.Den ≤ x.Num := by omega
        simp [this, h3]
    · simp [h1, h2]
  · simp [h1]
theorem risFrac_eq (x : TFrac) {B : Int} (hB : B ≤ 20000000) : m_R02_isFrac x B = some (vf x B) := isFrac_eq x hB
theorem vf_Sm {x : TFrac} {B : Int} (hB : B ≤ 20000000) (h : vf x B = true) : Sm x := by
  obtain ⟨h1, h2, h3, h4⟩ := vf_iff.1 h
  exact ⟨by omega, by omega, by omega, by omega⟩
theorem vf_rd {x : TFrac} {B : Int} (h : vf x B = true) : vf (rd x.Num x.Den) B = true := by
  obtain ⟨h1, h2, h3, h4⟩ := vf_iff.1 h
  obtain ⟨g, hg, e1, e2, hp⟩ := rd_spec (n := x.Num) (d := x.Den) (by omega)
  generalize rd x.Num x.Den = p at *
  refine vf_iff.2 ⟨by omega, ?_, ?_, ?_⟩
  · have : p.Den ≤ g * p.Den := by
      have := Int.mul_le_mul_of_nonneg_right (show (1 : Int) ≤ g by omega) (Int.le_of_lt hp); omega
    omega
  · rw [e1, e2] at h3
    refine Int.le_of_mul_le_mul_left ?_ hg
    have : g * -(360 * p.Den) = -(360 * (g * p.Den)) := by rw [Int.mul_neg]; congr 1; ac_rfl
    rw [this, ← e1, ← e2]; rw [e1, e2]; exact h3
  · rw [e1, e2] at h4
    refine Int.le_of_mul_le_mul_left ?_ hg
    have : g * (360 * p.Den) = 360 * (g * p.Den) := by ac_rfl
    rw [this]; exact h4
end Go.Proofs.Ytdhjccionnbljaa
namespace Go.Proofs.Ytdhjccionnbljaa
open Go Go.Sx
open Classical
theorem loopF_rule {S E : Type} {body : S → Option (Sum S E)} (P : S → Prop) (μ : S → Nat) (Q : E → Prop) (h : ∀ s, P s → (∃ e, body s = some (.inr e) ∧ Q e) ∨ (∃ s', body s = some (.inl s') ∧ P s' ∧ μ s' < μ s)) (s0 : S) (h0 : P s0) (hf : μ s0 < FUEL) : ∃ e, loopF body s0 = some e ∧ Q e := by
  have key : ∀ (n : Nat) (s : S), P s → μ s < n → ∃ e, loopO body n s = some e ∧ Q e := by
    intro n
    induction n with
    | zero => intro s _ hn; omega
    | succ n ih =>
      intro s hs hn
      rcases h s hs with ⟨e, h1, h2⟩ | ⟨s', h1, h2, h3⟩
      · exact ⟨e, by simp only [loopO, h1], h2⟩
      · obtain ⟨e, h4, h5⟩ := ih s' h2 (by omega)
        exact ⟨e, by simp only [loopO, h1, h4], h5⟩
  exact key FUEL s0 h0 hf
theorem lt_FUEL {n : Nat} (h : n ≤ 9223372036854775807) : n < FUEL := by unfold FUEL; omega
theorem idx_nat {α : Type} {l : List α} {k : Nat} (h : k < l.length) : idx l (k : Int) = some l[k] := by
  unfold idx; simp [h]
theorem idx_nat1 {α : Type} {l : List α} {k : Nat} (h : k + 1 < l.length) : idx l ((k : Int) + 1) = some l[k + 1] := by
  have := idx_nat h; simpa using this
theorem W_s {k : Nat} (h : k < 9223372036854775807) : W ((k : Int) + 1) = (k : Int) + 1 := W_id (by omega)
theorem within_eq (n lo hi : Int) : m_moon_within n lo hi = some (decide (lo ≤ n) && decide (n ≤ hi)) := by
  unfold m_moon_within; by_cases h : lo ≤ n <;> simp [h]
theorem In_eq (n lo hi : Int) : m_R02_In n lo hi = some (decide (lo ≤ n) && decide (n ≤ hi)) := within_eq n lo hi
structure VRow (r : TRow) : Prop where
  h : vf r.Height 100 = true
  lo : -(90 * r.Height.Den) ≤ r.Height.Num
  hi : r.Height.Num ≤ 90 * r.Height.Den
  b : vf r.Bearing 100 = true
  b0 : 0 ≤ r.Bearing.Num
  b1 : r.Bearing.Num < 360 * r.Bearing.Den
theorem isRow_eq (r : TRow) : m_moon_isRow r = some (decide (VRow r)) := by
  unfold m_moon_isRow
  rw [isFrac_eq _ (by omega)]
  by_cases h1 : vf r.Height 100 = true
  · have hv := vf_iff.1 h1
    simp only [Option.bind_some, h1, if_true]
    rw [within_eq, W_id (by omega), W_id (by omega)]
    by_cases h2 : -90 * r.Height.Den ≤ r.Height.Num ∧ r.Height.Num ≤ 90 * r.Height.Den
    · simp only [h2.1, h2.2, decide_true, Bool.and_self, Option.bind_some, if_true]
      rw [isFrac_eq _ (by omega)]
      by_cases h3 : vf r.Bearing 100 = true
      · have hb := vf_iff.1 h3
        simp only [Option.bind_some, h3, if_true]
        rw [W_id (by omega)]
        by_cases h4 : 0 ≤ r.Bearing.Num
        · simp only [h4, decide_true, if_true]
          congr 2
          simp only [eq_iff_iff]
          exact ⟨fun h => ⟨h1, by omega, h2.2, h3, h4, h⟩, fun h => h.b1⟩
        · have : ¬ VRow r := fun h => h4 h.b0
          simp [h4, this]
      · have : ¬ VRow r := fun h => h3 h.b
        simp [h3, this]
    · have : ¬ VRow r := fun h => h2 ⟨by have := h.lo; omega, h.hi⟩
      have h3 : (decide (-90 * r.Height.Den ≤ r.Height.Num) && decide (r.Height.Num ≤ 90 * r.Height.Den)) = false := by
        rw [← Bool.not_eq_true]; simpa using h2
      simp [h3, this]
  · have : ¬ VRow r := fun h => h1 h.h
    simp [h1, this]
theorem risRow_eq (r : TRow) : m_R02_isRow r = some (decide ((0 ≤ r.Minute ∧ r.Minute ≤ 1439) ∧ VRow r)) := by
  unfold m_R02_isRow m_R02_isMinute
  rw [In_eq]
  by_cases h0 : 0 ≤ r.Minute ∧ r.Minute ≤ 1439
  · simp only [h0.1, h0.2, decide_true, Bool.and_self, Option.bind_some, Bool.not_true, Bool.false_eq_true, if_false, and_self, true_and]
    rw [risFrac_eq _ (by omega), Option.bind_some]
    by_cases h1 : vf r.Height 100 = true
    · have hv := vf_iff.1 h1
      simp only [h1, Bool.not_true, Bool.false_eq_true, if_false]
      rw [risFrac_eq _ (by omega), Option.bind_some]
      by_cases h3 : vf r.Bearing 100 = true
      · have hb := vf_iff.1 h3
        simp only [h3, Bool.not_true, Bool.false_eq_true, if_false]
        rw [In_eq, W_id (by omega), W_id (by omega)]
        by_cases h2 : -90 * r.Height.Den ≤ r.Height.Num ∧ r.Height.Num ≤ 90 * r.Height.Den
        · simp only [h2.1, h2.2, decide_true, Bool.and_self, Option.bind_some, if_true]
          rw [In_eq, W_id (z := 360 * r.Bearing.Den) (by omega), W_id (by omega)]
          simp only [Option.bind_some]
          congr 1
          rw [← Bool.decide_and]
          congr 1
          simp only [eq_iff_iff]
          exact ⟨fun h => ⟨h1, by omega, h2.2, h3, h.1, by omega⟩, fun h => ⟨h.b0, by have := h.b1; omega⟩⟩
        · have : ¬ VRow r := fun h => h2 ⟨by have := h.lo; omega, h.hi⟩
          have h3 : (decide (-90 * r.Height.Den ≤ r.Height.Num) && decide (r.Height.Num ≤ 90 * r.Height.Den)) = false := by
            rw [← Bool.not_eq_true]; simpa using h2
          simp [h3, this]
      · have : ¬ VRow r := fun h => h3 h.b
        simp [h3, this]
    · have : ¬ VRow r := fun h => h1 h.h
      simp [h1, this]
  · have h3 : (decide (0 ≤ r.Minute) && decide (r.Minute ≤ 1439)) = false := by
      rw [← Bool.not_eq_true]; simpa using h0
    simp [h3]
    try (intro a b; exact absurd ⟨a, b⟩ h0)
def okRow (l : List TRow) (k : Nat) : Prop := ∃ r, l[k]? = some r ∧ VRow r ∧ ∀ p, 0 < k → l[k - 1]? = some p → p.Minute < r.Minute ∧ fcmp p.Bearing r.Bearing ≤ 0
structure VSheet (s : TSheet) : Prop where
  src : 1 ≤ s.Source ∧ s.Source ≤ 99999
  night : 0 ≤ s.Night ∧ s.Night ≤ 100000
  known : 0 ≤ s.Known ∧ s.Known ≤ 100000
  until_ : s.Until = 0 ∨ (s.Known < s.Until ∧ s.Until ≤ 100000)
  len : 2 ≤ s.Rows.length ∧ s.Rows.length ≤ 12
  off : vf s.Off 100 = true
  off0 : 0 ≤ s.Off.Num
  off1 : s.Off.Num ≤ 90 * s.Off.Den
  light : 0 ≤ s.Light.Lo ∧ s.Light.Lo ≤ s.Light.Hi ∧ s.Light.Hi ≤ 1000
  rows : ∀ k, k < s.Rows.length → okRow s.Rows k
  first : ∀ r, s.Rows[0]? = some r → r.Minute = 0
  last : ∀ r, s.Rows[s.Rows.length - 1]? = some r → r.Minute = 1439
theorem VRow.smb {r : TRow} (h : VRow r) : Sm r.Bearing := vf_Sm (by omega) h.b
theorem rows_loop (s : TSheet) (hl : s.Rows.length ≤ 12) : ∃ e, loopF (m_moon_CheckSheet_L1 s) 0 = some e ∧ ((e = .inl (s.Rows.length : Int) ∧ ∀ k, k < s.Rows.length → okRow s.Rows k) ∨ (e = .inr 21 ∧ ∃ k, k < s.Rows.length ∧ ¬ okRow s.Rows k)) := by
  refine loopF_rule (fun i : Int => ∃ k : Nat, i = k ∧ k ≤ s.Rows.length ∧ ∀ j, j < k → okRow s.Rows j) (fun i : Int => s.Rows.length - i.toNat) _ ?_ 0 ⟨0, rfl, by omega, by omega⟩ (lt_FUEL (by omega))
  rintro i ⟨k, rfl, hk, hok⟩
  unfold m_moon_CheckSheet_L1
  by_cases hlt : k < s.Rows.length
  · have h1 : (k : Int) < (s.Rows.length : Int) := by omega
    simp only [h1, decide_true, if_true, idx_nat hlt, Option.bind_some, isRow_eq]
    by_cases hv : VRow s.Rows[k]
    · simp only [hv, decide_true, Bool.not_true, Bool.false_eq_true, if_false]
      by_cases h0 : 0 < k
      · have h2 : (k : Int) > 0 := by omega
        have hw : W ((k : Int) - 1) = ((k - 1 : Nat) : Int) := by rw [W_id (by omega)]; omega
        have hk1 : k - 1 < s.Rows.length := by omega
        simp only [h2, decide_true, if_true, hw, idx_nat hk1, Option.bind_some]
        by_cases hm : s.Rows[k - 1].Minute ≥ s.Rows[k].Minute
        · left
          refine ⟨.inr 21, by simp [hm], .inr ⟨rfl, k, hlt, fun ⟨r, e1, _, e2⟩ => ?_⟩⟩
          rw [List.getElem?_eq_getElem hlt] at e1; cases e1
          have := (e2 _ h0 (List.getElem?_eq_getElem hk1)).1; omega
        · obtain ⟨p, e1, e2, _⟩ := hok (k - 1) (by omega)
          rw [List.getElem?_eq_getElem hk1] at e1; cases e1
          simp only [hm, decide_false, Bool.false_eq_true, if_false]
          rw [compare_eq e2.smb hv.smb, Option.bind_some]
          by_cases hc : fcmp s.Rows[k - 1].Bearing s.Rows[k].Bearing > 0
          · left
            refine ⟨.inr 21, by simp [hc], .inr ⟨rfl, k, hlt, fun ⟨r, e1, _, e2⟩ => ?_⟩⟩
            rw [List.getElem?_eq_getElem hlt] at e1; cases e1
            have := (e2 _ h0 (List.getElem?_eq_getElem hk1)).2; omega
          · right
            refine ⟨W ((k : Int) + 1), by simp [hc], ⟨k + 1, by rw [W_s (by omega)]; rfl, by omega, fun j hj => ?_⟩, by rw [W_s (by omega)]; omega⟩
            by_cases e : j = k
            · subst e
              refine ⟨_, List.getElem?_eq_getElem hlt, hv, fun p hp e3 => ?_⟩
              rw [List.getElem?_eq_getElem hk1] at e3; cases e3
              exact ⟨by omega, by omega⟩
            · exact hok j (by omega)
      · right
        have hk0 : (decide ((k : Int) > 0)) = false := by simp; omega
        refine ⟨W ((k : Int) + 1), by rw [hk0]; simp, ⟨k + 1, by rw [W_s (by omega)]; rfl, by omega, fun j hj => ?_⟩, by rw [W_s (by omega)]; omega⟩
        obtain rfl : j = k := by omega
        exact ⟨_, List.getElem?_eq_getElem hlt, hv, fun p hp => by omega⟩
    · left
      refine ⟨.inr 21, by simp [hv], .inr ⟨rfl, k, hlt, fun ⟨r, e1, e2, _⟩ => ?_⟩⟩
      rw [List.getElem?_eq_getElem hlt] at e1; cases e1; exact hv e2
  · left
    have h1 : ¬ (k : Int) < (s.Rows.length : Int) := by omega
    obtain rfl : k = s.Rows.length := by omega
    exact ⟨.inl _, by simp, .inl ⟨rfl, hok⟩⟩
theorem rrows_loop (s : TSheet) (hl : s.Rows.length ≤ 12) : ∃ e, loopF (m_R02_CheckSheet_L1 s) 0 = some e ∧ ((e = .inl (s.Rows.length : Int) ∧ ∀ k, k < s.Rows.length → okRow s.Rows k ∧ ∃ r, s.Rows[k]? = some r ∧ 0 ≤ r.Minute ∧ r.Minute ≤ 1439) ∨ (e = .inr 21 ∧ ∃ k, k < s.Rows.length ∧ ¬ (okRow s.Rows k ∧ ∃ r, s.Rows[k]? = some r ∧ 0 ≤ r.Minute ∧ r.Minute ≤ 1439))) := by
  refine loopF_rule (fun i : Int => ∃ k : Nat, i = k ∧ k ≤ s.Rows.length ∧ ∀ j, j < k → okRow s.Rows j ∧ ∃ r, s.Rows[j]? = some r ∧ 0 ≤ r.Minute ∧ r.Minute ≤ 1439) (fun i : Int => s.Rows.length - i.toNat) _ ?_ 0 ⟨0, rfl, by omega, by omega⟩ (lt_FUEL (by omega))
  rintro i ⟨k, rfl, hk, hok⟩
  unfold m_R02_CheckSheet_L1
  by_cases hlt : k < s.Rows.length
  · have h1 : (k : Int) < (s.Rows.length : Int) := by omega
    simp only [h1, decide_true, if_true, idx_nat hlt, Option.bind_some, risRow_eq]
    by_cases hv : (0 ≤ s.Rows[k].Minute ∧ s.Rows[k].Minute ≤ 1439) ∧ VRow s.Rows[k]
    · simp only [hv, decide_true, Bool.not_true, Bool.false_eq_true, if_false, and_self]
      by_cases h0 : 0 < k
      · have h2 : (k : Int) > 0 := by omega
        have hw : W ((k : Int) - 1) = ((k - 1 : Nat) : Int) := by rw [W_id (by omega)]; omega
        have hk1 : k - 1 < s.Rows.length := by omega
        simp only [h2, decide_true, if_true, hw, idx_nat hk1, idx_nat hlt, Option.bind_some]
        by_cases hm : s.Rows[k - 1].Minute ≥ s.Rows[k].Minute
        · left
          refine ⟨.inr 21, by simp [hm], .inr ⟨rfl, k, hlt, fun ⟨⟨r, e1, _, e2⟩, _⟩ => ?_⟩⟩
          rw [List.getElem?_eq_getElem hlt] at e1; cases e1
          have := (e2 _ h0 (List.getElem?_eq_getElem hk1)).1; omega
        · obtain ⟨⟨p, e1, e2, _⟩, _⟩ := hok (k - 1) (by omega)
          rw [List.getElem?_eq_getElem hk1] at e1; cases e1
          simp only [hm, decide_false, Bool.false_eq_true, if_false]
          rw [sign_eq e2.smb hv.2.smb, Option.bind_some]
          by_cases hc : fcmp s.Rows[k - 1].Bearing s.Rows[k].Bearing > 0
          · left
            refine ⟨.inr 21, by simp [hc], .inr ⟨rfl, k, hlt, fun ⟨⟨r, e1, _, e2⟩, _⟩ => ?_⟩⟩
            rw [List.getElem?_eq_getElem hlt] at e1; cases e1
            have := (e2 _ h0 (List.getElem?_eq_getElem hk1)).2; omega
          · right
            refine ⟨W ((k : Int) + 1), by simp [hc], ⟨k + 1, by rw [W_s (by omega)]; rfl, by omega, fun j hj => ?_⟩, by rw [W_s (by omega)]; omega⟩
            by_cases e : j = k
            · subst e
              refine ⟨⟨_, List.getElem?_eq_getElem hlt, hv.2, fun p hp e3 => ?_⟩, _, List.getElem?_eq_getElem hlt, hv.1⟩
              rw [List.getElem?_eq_getElem hk1] at e3; cases e3
              exact ⟨by omega, by omega⟩
            · exact hok j (by omega)
      · right
        have hk0 : (decide ((k : Int) > 0)) = false := by simp; omega
        refine ⟨W ((k : Int) + 1), by rw [hk0]; simp, ⟨k + 1, by rw [W_s (by omega)]; rfl, by omega, fun j hj => ?_⟩, by rw [W_s (by omega)]; omega⟩
        obtain rfl : j = k := by omega
        exact ⟨⟨_, List.getElem?_eq_getElem hlt, hv.2, fun p hp => by omega⟩, _, List.getElem?_eq_getElem hlt, hv.1⟩
    · left
      refine ⟨.inr 21, by simp [hv], .inr ⟨rfl, k, hlt, fun ⟨⟨r, e1, e2, _⟩, r', e3, e4⟩ => ?_⟩⟩
      rw [List.getElem?_eq_getElem hlt] at e1 e3; cases e1; cases e3; exact hv ⟨e4, e2⟩
  · left
    have h1 : ¬ (k : Int) < (s.Rows.length : Int) := by omega
    obtain rfl : k = s.Rows.length := by omega
    exact ⟨.inl _, by simp, .inl ⟨rfl, hok⟩⟩
theorem lasts_eq (k u : Int) : m_moon_lasts k u = some (decide ((0 ≤ k ∧ k ≤ 100000) ∧ (u = 0 ∨ (k < u ∧ u ≤ 100000)))) := by
  unfold m_moon_lasts m_moon_isNight
  rw [within_eq]
  by_cases h0 : 0 ≤ k ∧ k ≤ 100000
  · by_cases h1 : u = 0
    · simp [h0, h1]
    · by_cases h2 : k < u
      · rw [within_eq]
        have : 0 ≤ u := by omega
        by_cases h3 : u ≤ 100000 <;> simp [h0, h1, h2, h3, this]
      · simp [h0, h1, h2]
  · have : (decide (0 ≤ k) && decide (k ≤ 100000)) = false := by rw [← Bool.not_eq_true]; simpa using h0
    simp [this]
    try (intro a b; exact absurd ⟨a, b⟩ h0)
theorem areTimes_eq (k u : Int) : m_R02_areTimes k u = some (decide ((0 ≤ k ∧ k ≤ 100000) ∧ (u = 0 ∨ (k < u ∧ u ≤ 100000)))) := by
  unfold m_R02_areTimes m_R02_isNight
  rw [In_eq]
  by_cases h0 : 0 ≤ k ∧ k ≤ 100000
  · by_cases h1 : u = 0
    · simp [h0, h1]
    · by_cases h2 : k < u
      · by_cases h3 : u ≤ 100000 <;> simp [h0, h1, h2, h3]
      · have : ¬ u > k := by omega
        simp [h0, h1, h2]
  · have : (decide (0 ≤ k) && decide (k ≤ 100000)) = false := by rw [← Bool.not_eq_true]; simpa using h0
    simp [this]
    try (intro a b; exact absurd ⟨a, b⟩ h0)
theorem band {p q : Prop} [Decidable p] [Decidable q] : (decide p && decide q) = decide (p ∧ q) := (Bool.decide_and p q).symm
theorem CheckSheet_eq (s : TSheet) : m_moon_CheckSheet s = some (if VSheet s then 0 else 21) := by
  have no : ∀ {P : Prop}, (VSheet s → P) → ¬ P → some (21 : Int) = some (if VSheet s then 0 else 21) := fun h hn => by
    rw [if_neg fun hv => hn (h hv)]
  unfold m_moon_CheckSheet m_moon_isNight
  simp only [within_eq, band, lasts_eq, Option.bind_some]
  by_cases h1 : 1 ≤ s.Source ∧ s.Source ≤ 99999
  rotate_left
  · simp only [h1, decide_false, Bool.not_false, if_true]; exact no (fun h => h.src) h1
  simp only [h1, and_self, decide_true, Bool.not_true, Bool.false_eq_true, if_false]
  by_cases h2 : 0 ≤ s.Night ∧ s.Night ≤ 100000
  rotate_left
  · simp only [h2, decide_false, Bool.not_false, if_true]; exact no (fun h => h.night) h2
  simp only [h2, and_self, decide_true, Bool.not_true, Bool.false_eq_true, if_false]
  by_cases h3 : (0 ≤ s.Known ∧ s.Known ≤ 100000) ∧ (s.Until = 0 ∨ (s.Known < s.Until ∧ s.Until ≤ 100000))
  rotate_left
  · simp only [h3, decide_false, Bool.not_false, if_true]; exact no (fun h => ⟨h.known, h.until_⟩) h3
  simp only [decide_eq_true h3, Bool.not_true, Bool.false_eq_true, if_false]
  by_cases h4 : 2 ≤ s.Rows.length ∧ s.Rows.length ≤ 12
  rotate_left
  · have : ¬ (2 ≤ (s.Rows.length : Int) ∧ (s.Rows.length : Int) ≤ 12) := by omega
    simp only [this, decide_false, Bool.not_false, if_true]; exact no (fun h => h.len) h4
  have h4' : 2 ≤ (s.Rows.length : Int) ∧ (s.Rows.length : Int) ≤ 12 := by omega
  simp only [h4', and_self, decide_true, Bool.not_true, Bool.false_eq_true, if_false]
  rw [isFrac_eq _ (by omega), Option.bind_some]
  by_cases h5 : vf s.Off 100 = true
  rotate_left
  · have h5' : vf s.Off 100 = false := by simpa using h5
    simp only [h5', Bool.not_false, if_true]; exact no (fun h => h.off) h5
  have hv := vf_iff.1 h5
  simp only [h5, Bool.not_true, Bool.false_eq_true, if_false]
  rw [W_id (z := 90 * s.Off.Den) (by omega)]
  by_cases h6 : 0 ≤ s.Off.Num ∧ s.Off.Num ≤ 90 * s.Off.Den
  rotate_left
  · simp only [h6, decide_false, Bool.not_false, if_true]; exact no (fun h => ⟨h.off0, h.off1⟩) h6
  simp only [h6, and_self, decide_true, Bool.not_true, Bool.false_eq_true, if_false]
  by_cases h7 : 0 ≤ s.Light.Lo ∧ s.Light.Lo ≤ s.Light.Hi ∧ s.Light.Hi ≤ 1000
  rotate_left
  · have : ¬ (0 > s.Light.Lo) → ¬ (s.Light.Lo > s.Light.Hi) → s.Light.Hi > 1000 := fun a b => by
      apply Int.lt_of_not_ge; intro c; exact h7 ⟨by omega, by omega, c⟩
    by_cases a : 0 > s.Light.Lo
    · simp only [a, decide_true, if_true]; exact no (fun h => h.light) h7
    · by_cases b : s.Light.Lo > s.Light.Hi
      · simp only [a, b, decide_true, decide_false, Bool.false_eq_true, if_false, if_true]; exact no (fun h => h.light) h7
      · simp only [a, b, this a b, decide_true, decide_false, Bool.false_eq_true, if_false, if_true]; exact no (fun h => h.light) h7
  have a1 : ¬ (0 > s.Light.Lo) := by omega
  have a2 : ¬ (s.Light.Lo > s.Light.Hi) := by omega
  have a3 : ¬ (s.Light.Hi > 1000) := by omega
  simp only [a1, a2, a3, decide_false, Bool.false_eq_true, if_false]
  obtain ⟨e, he, hq⟩ := rows_loop s h4.2
  rw [he, Option.bind_some]
  rcases hq with ⟨rfl, hok⟩ | ⟨rfl, k, hk, hno⟩
  · have hlen : 0 < s.Rows.length := by omega
    have hi0 : idx s.Rows 0 = some s.Rows[0] := idx_nat (k := 0) hlen
    have hw : W ((s.Rows.length : Int) - 1) = ((s.Rows.length - 1 : Nat) : Int) := by rw [W_id (by omega)]; omega
    have hl1 : s.Rows.length - 1 < s.Rows.length := by omega
    simp only [hi0, Option.bind_some, hw, idx_nat hl1]
    by_cases h8 : s.Rows[0].Minute = 0
    rotate_left
    · simp only [bne_iff_ne, ne_eq, h8, not_false_eq_true, if_true]
      exact no (P := s.Rows[0].Minute = 0) (fun h => h.first _ (List.getElem?_eq_getElem hlen)) h8
    by_cases h9 : s.Rows[s.Rows.length - 1].Minute = 1439
    rotate_left
    · simp only [bne_iff_ne, ne_eq, h8, h9, not_false_eq_true, if_true, not_true_eq_false, if_false]
      exact no (P := s.Rows[s.Rows.length - 1].Minute = 1439) (fun h => h.last _ (List.getElem?_eq_getElem hl1)) h9
    simp only [bne_iff_ne, ne_eq, h8, h9, not_true_eq_false, if_false]
    rw [if_pos]
    exact ⟨h1, h2, h3.1, h3.2, h4, h5, h6.1, h6.2, h7, hok, fun r hr => by rw [List.getElem?_eq_getElem hlen] at hr; cases hr; exact h8, fun r hr => by rw [List.getElem?_eq_getElem hl1] at hr; cases hr; exact h9⟩
  · exact no (P := okRow s.Rows k) (fun h => h.rows k hk) hno
theorem row_at {l : List TRow} {k : Nat} (h : k < l.length) (ho : okRow l k) : VRow l[k] ∧ ∀ h0 : 0 < k, l[k - 1].Minute < l[k].Minute ∧ fcmp l[k - 1].Bearing l[k].Bearing ≤ 0 := by
  obtain ⟨r, e1, e2, e3⟩ := ho
  rw [List.getElem?_eq_getElem h] at e1; cases e1
  exact ⟨e2, fun h0 => e3 _ h0 (List.getElem?_eq_getElem (by omega))⟩
theorem rows_mono {l : List TRow} (h : ∀ k, k < l.length → okRow l k) : ∀ (j i : Nat) (hi : i < l.length) (hj : j < l.length), i ≤ j → l[i].Minute ≤ l[j].Minute
  | 0, i, hi, hj, hij => by
    obtain rfl : i = 0 := by omega
    exact Int.le_refl _
  | j + 1, i, hi, hj, hij => by
    by_cases e : i = j + 1
    · subst e; exact Int.le_refl _
    · have h1 := rows_mono h j i hi (by omega) (by omega)
      have h2 := ((row_at hj (h _ hj)).2 (by omega)).1
      simp only [Nat.add_sub_cancel] at h2
      omega
theorem rCheckSheet_eq (s : TSheet) : m_R02_CheckSheet s = some (if VSheet s then 0 else 21) := by
  have no : ∀ {P : Prop}, (VSheet s → P) → ¬ P → some (21 : Int) = some (if VSheet s then 0 else 21) := fun h hn => by
    rw [if_neg fun hv => hn (h hv)]
  unfold m_R02_CheckSheet m_R02_isNight
  simp only [In_eq, band, areTimes_eq, Option.bind_some]
  by_cases h1 : 1 ≤ s.Source ∧ s.Source ≤ 99999
  rotate_left
  · simp only [h1, decide_false, Bool.not_false, if_true]; exact no (fun h => h.src) h1
  simp only [h1, and_self, decide_true, Bool.not_true, Bool.false_eq_true, if_false]
  by_cases h2 : 0 ≤ s.Night ∧ s.Night ≤ 100000
  rotate_left
  · simp only [h2, decide_false, Bool.not_false, if_true]; exact no (fun h => h.night) h2
  simp only [h2, and_self, decide_true, Bool.not_true, Bool.false_eq_true, if_false]
  by_cases h3 : (0 ≤ s.Known ∧ s.Known ≤ 100000) ∧ (s.Until = 0 ∨ (s.Known < s.Until ∧ s.Until ≤ 100000))
  rotate_left
  · simp only [h3, decide_false, Bool.not_false, if_true]; exact no (fun h => ⟨h.known, h.until_⟩) h3
  simp only [decide_eq_true h3, Bool.not_true, Bool.false_eq_true, if_false]
  by_cases h4 : 2 ≤ s.Rows.length ∧ s.Rows.length ≤ 12
  rotate_left
  · have : ¬ (2 ≤ (s.Rows.length : Int) ∧ (s.Rows.length : Int) ≤ 12) := by omega
    simp only [this, decide_false, Bool.not_false, if_true]; exact no (fun h => h.len) h4
  have h4' : 2 ≤ (s.Rows.length : Int) ∧ (s.Rows.length : Int) ≤ 12 := by omega
  simp only [h4', and_self, decide_true, Bool.not_true, Bool.false_eq_true, if_false]
  have hlen : 0 < s.Rows.length := by omega
  have hl1 : s.Rows.length - 1 < s.Rows.length := by omega
  obtain ⟨e, he, hq⟩ := rrows_loop s h4.2
  rw [he, Option.bind_some]
  rcases hq with ⟨rfl, hok⟩ | ⟨rfl, k, hk, hno⟩
  rotate_left
  · refine no (P := okRow s.Rows k ∧ ∃ r, s.Rows[k]? = some r ∧ 0 ≤ r.Minute ∧ r.Minute ≤ 1439) (fun h => ⟨h.rows k hk, _, List.getElem?_eq_getElem hk, ?_, ?_⟩) hno
    · have := rows_mono h.rows k 0 hlen hk (by omega)
      rw [h.first _ (List.getElem?_eq_getElem hlen)] at this; exact this
    · have := rows_mono h.rows (s.Rows.length - 1) k hk hl1 (by omega)
      rw [h.last _ (List.getElem?_eq_getElem hl1)] at this; exact this
  have hi0 : idx s.Rows 0 = some s.Rows[0] := idx_nat (k := 0) hlen
  have hw : W ((s.Rows.length : Int) - 1) = ((s.Rows.length - 1 : Nat) : Int) := by rw [W_id (by omega)]; omega
  simp only [hi0, Option.bind_some, hw, idx_nat hl1]
  by_cases h8 : s.Rows[0].Minute = 0
  rotate_left
  · simp only [bne_iff_ne, ne_eq, h8, not_false_eq_true, if_true]
    exact no (P := s.Rows[0].Minute = 0) (fun h => h.first _ (List.getElem?_eq_getElem hlen)) h8
  by_cases h9 : s.Rows[s.Rows.length - 1].Minute = 1439
  rotate_left
  · simp only [bne_iff_ne, ne_eq, h8, h9, not_false_eq_true, if_true, not_true_eq_false, if_false]
    exact no (P := s.Rows[s.Rows.length - 1].Minute = 1439) (fun h => h.last _ (List.getElem?_eq_getElem hl1)) h9
  simp only [bne_iff_ne, ne_eq, h8, h9, not_true_eq_false, if_false]
  rw [risFrac_eq _ (by omega), Option.bind_some]
  by_cases h5 : vf s.Off 100 = true
  rotate_left
  · have h5' : vf s.Off 100 = false := by simpa using h5
    simp only [h5', Bool.not_false, if_true]; exact no (fun h => h.off) h5
  have hv := vf_iff.1 h5
  simp only [h5, Bool.not_true, Bool.false_eq_true, if_false]
  rw [W_id (z := 90 * s.Off.Den) (by omega)]
  by_cases h6 : 0 ≤ s.Off.Num ∧ s.Off.Num ≤ 90 * s.Off.Den
  rotate_left
  · simp only [h6, decide_false, Bool.not_false, if_true]; exact no (fun h => ⟨h.off0, h.off1⟩) h6
  simp only [h6, and_self, decide_true, Bool.not_true, Bool.false_eq_true, if_false]
  by_cases h7 : 0 ≤ s.Light.Lo ∧ s.Light.Lo ≤ s.Light.Hi ∧ s.Light.Hi ≤ 1000
  rotate_left
  · have : ¬ (s.Light.Lo < 0) → ¬ (s.Light.Lo > s.Light.Hi) → s.Light.Hi > 1000 := fun a b => by
      apply Int.lt_of_not_ge; intro c; exact h7 ⟨by omega, by omega, c⟩
    by_cases a : s.Light.Lo < 0
    · simp only [a, decide_true, if_true]; exact no (fun h => h.light) h7
    · by_cases b : s.Light.Lo > s.Light.Hi
      · simp only [a, b, decide_true, decide_false, Bool.false_eq_true, if_false, if_true]; exact no (fun h => h.light) h7
      · simp only [a, b, this a b, decide_true, decide_false, Bool.false_eq_true, if_false, if_true]; exact no (fun h => h.light) h7
  have a1 : ¬ (s.Light.Lo < 0) := by omega
  have a2 : ¬ (s.Light.Lo > s.Light.Hi) := by omega
  have a3 : ¬ (s.Light.Hi > 1000) := by omega
  simp only [a1, a2, a3, decide_false, Bool.false_eq_true, if_false]
  rw [if_pos]
  exact ⟨h1, h2, h3.1, h3.2, h4, h5, h6.1, h6.2, h7, fun k hk => (hok k hk).1, fun r hr => by rw [List.getElem?_eq_getElem hlen] at hr; cases hr; exact h8, fun r hr => by rw [List.getElem?_eq_getElem hl1] at hr; cases hr; exact h9⟩
end Go.Proofs.Ytdhjccionnbljaa
namespace Go.Proofs.Ytdhjccionnbljaa
open Go Go.Sx
open Classical
structure VRoof (r : TRoof) : Prop where
  a : 0 ≤ r.From
  b : r.From < r.To
  c : r.To ≤ 360
  d : 0 ≤ r.Top
  e : r.Top ≤ 90
theorem CheckRoof_eq (r : TRoof) : m_moon_CheckRoof r = some (if VRoof r then 0 else 22) := by
  unfold m_moon_CheckRoof
  simp only [within_eq, band, Option.bind_some]
  by_cases h : VRoof r
  · obtain ⟨a, b, c, d, e⟩ := id h
    have h1 : ¬ 0 > r.From := by omega
    have h2 : ¬ r.From ≥ r.To := by omega
    have h3 : ¬ r.To > 360 := by omega
    simp [h, h1, h2, h3, d, e]
  · rw [if_neg h]
    by_cases h1 : 0 > r.From
    · simp [h1]
    · by_cases h2 : r.From ≥ r.To
      · simp [h1, h2]
      · by_cases h3 : r.To > 360
        · simp [h1, h2, h3]
        · have : ¬ (0 ≤ r.Top ∧ r.Top ≤ 90) := fun h4 => h ⟨by omega, by omega, by omega, h4.1, h4.2⟩
          simp only [h1, h2, h3, this, decide_false, Bool.not_false, Bool.false_eq_true, if_false, if_true]
theorem roofs_loop (l : List TRoof) (hl : l.length ≤ maxLen) : ∃ e, loopF (m_moon_areRoofs_L1 l) 0 = some e ∧ ((e = .inl (l.length : Int) ∧ ∀ r, r ∈ l → VRoof r) ∨ (e = .inr false ∧ ¬ ∀ r, r ∈ l → VRoof r)) := by
  unfold maxLen at hl
  refine loopF_rule (fun i : Int => ∃ k : Nat, i = k ∧ k ≤ l.length ∧ ∀ j (h : j < l.length), j < k → VRoof l[j]) (fun i : Int => l.length - i.toNat) _ ?_ 0 ⟨0, rfl, by omega, by omega⟩ (lt_FUEL (by omega))
  rintro i ⟨k, rfl, hk, hok⟩
  unfold m_moon_areRoofs_L1
  by_cases hlt : k < l.length
  · have h1 : (k : Int) < (l.length : Int) := by omega
    simp only [h1, decide_true, if_true, idx_nat hlt, Option.bind_some, CheckRoof_eq]
    by_cases hv : VRoof l[k]
    · right
      refine ⟨W ((k : Int) + 1), by simp [hv], ⟨k + 1, by rw [W_s (by omega)]; rfl, by omega, fun j h hj => ?_⟩, by rw [W_s (by omega)]; omega⟩
      by_cases e : j = k
      · subst e; exact hv
      · exact hok j h (by omega)
    · left
      exact ⟨.inr false, by simp [hv], .inr ⟨rfl, fun h => hv (h _ (List.getElem_mem hlt))⟩⟩
  · left
    have h1 : ¬ (k : Int) < (l.length : Int) := by omega
    obtain rfl : k = l.length := by omega
    refine ⟨.inl _, by simp, .inl ⟨rfl, fun r hr => ?_⟩⟩
    obtain ⟨j, hj, rfl⟩ := List.mem_iff_getElem.1 hr
    exact hok j hj hj
structure VRoofs (l : List TRoof) : Prop where
  all : ∀ r, r ∈ l → VRoof r
  len : l.length ≤ 12
theorem areRoofs_eq (l : List TRoof) (hl : l.length ≤ maxLen) : m_moon_areRoofs l = some (decide (VRoofs l)) := by
  unfold m_moon_areRoofs
  obtain ⟨e, he, hq⟩ := roofs_loop l hl
  rw [he, Option.bind_some]
  rcases hq with ⟨rfl, h⟩ | ⟨rfl, h⟩
  · by_cases h12 : l.length ≤ 12
    · have : VRoofs l := ⟨h, h12⟩
      have h' : (l.length : Int) ≤ 12 := by omega
      simp [this, h']
    · have : ¬ VRoofs l := fun h => h12 h.len
      have h' : ¬ (l.length : Int) ≤ 12 := by omega
      simp [this, h']
  · have : ¬ VRoofs l := fun k => h k.all
    simp [this]
theorem rroofs_L1 : m_R02_areRoofs_L1 = m_moon_areRoofs_L1 := rfl
theorem rareRoofs_eq (l : List TRoof) : m_R02_areRoofs l = some (decide (VRoofs l)) := by
  unfold m_R02_areRoofs
  by_cases h12 : l.length ≤ 12
  · have h' : ¬ (l.length : Int) > 12 := by omega
    rw [rroofs_L1]
    obtain ⟨e, he, hq⟩ := roofs_loop l (by unfold maxLen; omega)
    rw [he]
    rcases hq with ⟨rfl, h⟩ | ⟨rfl, h⟩
    · have : VRoofs l := ⟨h, h12⟩
      simp [this, h']
    · have : ¬ VRoofs l := fun k => h k.all
      simp [this, h']
  · have : ¬ VRoofs l := fun h => h12 h.len
    have h' : (l.length : Int) > 12 := by omega
    simp [this, h']
def hzf (g : TFrac) (top : Int) (r : TRoof) : Int := if fcmp ⟨r.From, 1⟩ g ≤ 0 ∧ fcmp ⟨r.To, 1⟩ g > 0 then (if r.Top > top then r.Top else top) else top
def hz (l : List TRoof) (g : TFrac) : Int := l.foldl (hzf g) 0
theorem Sm_whole {n : Int} (h : -360 ≤ n ∧ n ≤ 360) : Sm ⟨n, 1⟩ := ⟨by simp, by simp, by simp; omega, by simp; omega⟩
theorem foldl_drop {α β : Type} {f : β → α → β} {l : List α} {k : Nat} (h : k < l.length) (b : β) : (l.drop k).foldl f b = (l.drop (k + 1)).foldl f (f b l[k]) := by
  rw [List.drop_eq_getElem_cons h]; rfl
theorem horizon_eq {l : List TRoof} (hl : VRoofs l) {g : TFrac} (hg : Sm g) : m_moon_horizon l g = some (hz l g) := by
  unfold m_moon_horizon
  have h12 := hl.len
  obtain ⟨e, he, hq⟩ := loopF_rule (body := m_moon_horizon_L1 l g) (fun s : Int × Int => ∃ k : Nat, s.2 = k ∧ k ≤ l.length ∧ (l.drop k).foldl (hzf g) s.1 = hz l g) (fun s => l.length - s.2.toNat) (fun e => e.1 = hz l g) (by
    rintro ⟨top, i⟩ ⟨k, rfl, hk, hf⟩
    simp only at hf ⊢
    unfold m_moon_horizon_L1
    by_cases hlt : k < l.length
    · have h1 : (k : Int) < (l.length : Int) := by omega
      have hr := hl.all _ (List.getElem_mem hlt)
      have s1 : Sm ⟨l[k].From, 1⟩ := Sm_whole (by have := hr.a; have := hr.b; have := hr.c; omega)
      have s2 : Sm ⟨l[k].To, 1⟩ := Sm_whole (by have := hr.a; have := hr.b; have := hr.c; omega)
      rw [foldl_drop hlt] at hf
      right
      refine ⟨(hzf g top l[k], W ((k : Int) + 1)), ?_, ⟨k + 1, by rw [W_s (by omega)]; rfl, by omega, hf⟩, by simp only; rw [W_s (by omega)]; omega⟩
      simp only [h1, decide_true, if_true, idx_nat hlt, Option.bind_some, m_moon_whole]
      rw [compare_eq s1 hg, Option.bind_some]
      by_cases c1 : fcmp ⟨l[k].From, 1⟩ g ≤ 0
      · simp only [c1, decide_true, if_true]
        rw [compare_eq s2 hg, Option.bind_some]
        by_cases c2 : fcmp ⟨l[k].To, 1⟩ g > 0
        · simp [c2, c1, hzf]
        · simp [c2, c1, hzf]
      · simp [c1, hzf]
    · left
      have h1 : ¬ (k : Int) < (l.length : Int) := by omega
      rw [List.drop_of_length_le (by omega)] at hf
      exact ⟨(top, (k : Int)), by simp [h1], hf⟩) (0, 0) ⟨0, rfl, by omega, rfl⟩ (lt_FUEL (by omega))
  obtain ⟨top, i⟩ := e
  rw [he]; simp only at hq; subst hq; rfl
theorem rhorizon_eq {l : List TRoof} (hl : VRoofs l) {g : TFrac} (hg : Sm g) : m_R02_horizon l g = some (hz l g) := by
  unfold m_R02_horizon
  have h12 := hl.len
  obtain ⟨e, he, hq⟩ := loopF_rule (body := m_R02_horizon_L1 l g) (fun s : Int × Int => ∃ k : Nat, s.2 = k ∧ k ≤ l.length ∧ (l.drop k).foldl (hzf g) s.1 = hz l g) (fun s => l.length - s.2.toNat) (fun e => e.1 = hz l g) (by
    rintro ⟨top, i⟩ ⟨k, rfl, hk, hf⟩
    simp only at hf ⊢
    unfold m_R02_horizon_L1
    by_cases hlt : k < l.length
    · have h1 : (k : Int) < (l.length : Int) := by omega
      have hr := hl.all _ (List.getElem_mem hlt)
      have s1 : Sm ⟨l[k].From, 1⟩ := Sm_whole (by have := hr.a; have := hr.b; have := hr.c; omega)
      have s2 : Sm ⟨l[k].To, 1⟩ := Sm_whole (by have := hr.a; have := hr.b; have := hr.c; omega)
      rw [foldl_drop hlt] at hf
      right
      refine ⟨(hzf g top l[k], W ((k : Int) + 1)), ?_, ⟨k + 1, by rw [W_s (by omega)]; rfl, by omega, hf⟩, by simp only; rw [W_s (by omega)]; omega⟩
      simp only [h1, decide_true, if_true, idx_nat hlt, Option.bind_some, m_R02_whole]
      rw [sign_eq s1 hg, Option.bind_some]
      by_cases c1 : fcmp ⟨l[k].From, 1⟩ g ≤ 0
      · simp only [c1, decide_true, if_true]
        rw [sign_eq hg s2, Option.bind_some]
        have han := fcmp_anti ⟨l[k].To, 1⟩ g
        by_cases c2 : fcmp ⟨l[k].To, 1⟩ g > 0
        · have c3 : fcmp g ⟨l[k].To, 1⟩ < 0 := by omega
          simp [c2, c1, c3, hzf]
        · have c3 : ¬ fcmp g ⟨l[k].To, 1⟩ < 0 := by omega
          simp [c2, c1, c3, hzf]
      · simp [c1, hzf]
    · left
      have h1 : ¬ (k : Int) < (l.length : Int) := by omega
      rw [List.drop_of_length_le (by omega)] at hf
      exact ⟨(top, (k : Int)), by simp [h1], hf⟩) (0, 0) ⟨0, rfl, by omega, rfl⟩ (lt_FUEL (by omega))
  obtain ⟨top, i⟩ := e
  rw [he]; simp only at hq; subst hq; rfl
theorem hz_bd {l : List TRoof} (hl : ∀ r, r ∈ l → VRoof r) (g : TFrac) : 0 ≤ hz l g ∧ hz l g ≤ 90 := by
  have : ∀ (l : List TRoof) (b : Int), (∀ r, r ∈ l → VRoof r) → 0 ≤ b ∧ b ≤ 90 → 0 ≤ l.foldl (hzf g) b ∧ l.foldl (hzf g) b ≤ 90 := by
    intro l
    induction l with
    | nil => intro b _ h; exact h
    | cons r l ih =>
      intro b h hb
      refine ih _ (fun r hr => h r (List.mem_cons_of_mem _ hr)) ?_
      have hr := h r List.mem_cons_self
      have := hr.d; have := hr.e
      unfold hzf; split <;> (try split) <;> omega
  exact this l 0 hl (by omega)
theorem rd_eq {n d n' d' : Int} (hd : 0 < d) (hd' : 0 < d') (h : n * d' = n' * d) : rd n d = rd n' d' := by
  have key : ∀ {n d : Int}, 0 < d → Nat.gcd (rd n d).Num.natAbs (rd n d).Den.natAbs = 1 := by
    intro n d hd
    have hp := gcd_pos (n := n) hd
    have e1 : (rd n d).Num.natAbs = n.natAbs / Nat.gcd n.natAbs d.natAbs := by
      unfold rd; simp only; rw [Int.natAbs_ediv_of_dvd (gcd_dvd_n n d)]; rfl
    have e2 : (rd n d).Den.natAbs = d.natAbs / Nat.gcd n.natAbs d.natAbs := by
      unfold rd; simp only; rw [Int.natAbs_ediv_of_dvd (gcd_dvd_d n d)]; rfl
    rw [e1, e2]
    exact Nat.gcd_div_gcd_div_gcd_of_pos_right (by omega)
  have k1 := key (n := n) hd
  have k2 := key (n := n') hd'
  obtain ⟨g, hg, e1, e2, p1⟩ := rd_spec (n := n) hd
  obtain ⟨g', hg', e3, e4, p2⟩ := rd_spec (n := n') hd'
  generalize rd n d = p at *
  generalize rd n' d' = q at *
  have hx : p.Num * q.Den = q.Num * p.Den := by
    rw [e1, e2, e3, e4] at h
    have h2 : (g * g') * (p.Num * q.Den) = (g * g') * (q.Num * p.Den) := by
      have a : (g * g') * (p.Num * q.Den) = g * p.Num * (g' * q.Den) := by ac_rfl
      have b : (g * g') * (q.Num * p.Den) = g' * q.Num * (g * p.Den) := by ac_rfl
      rw [a, b]; exact h
    exact Int.eq_of_mul_eq_mul_left (by have := Int.mul_pos hg hg'; omega) h2
  have hn : p.Num.natAbs * q.Den.natAbs = q.Num.natAbs * p.Den.natAbs := by
    rw [← Int.natAbs_mul, ← Int.natAbs_mul, hx]
  have d1 : p.Den.natAbs ∣ q.Den.natAbs := by
    have : p.Den.natAbs ∣ p.Num.natAbs * q.Den.natAbs := ⟨q.Num.natAbs, by rw [hn, Nat.mul_comm]⟩
    exact Nat.Coprime.dvd_of_dvd_mul_left (Nat.Coprime.symm k1) this
  have d2 : q.Den.natAbs ∣ p.Den.natAbs := by
    have : q.Den.natAbs ∣ q.Num.natAbs * p.Den.natAbs := ⟨p.Num.natAbs, by rw [← hn, Nat.mul_comm]⟩
    exact Nat.Coprime.dvd_of_dvd_mul_left (Nat.Coprime.symm k2) this
  have hden : p.Den = q.Den := by
    have := Nat.dvd_antisymm d1 d2; omega
  have hnum : p.Num = q.Num := by
    rw [hden] at hx
    exact Int.eq_of_mul_eq_mul_right (by omega) hx
  cases p; cases q; simp_all
def segN (a b : TFrac) (m n t : Int) : Int := a.Num * b.Den * (n - m) + (b.Num * a.Den - a.Num * b.Den) * (t - m)
def segD (a b : TFrac) (m n : Int) : Int := a.Den * b.Den * (n - m)
def seg (a b : TFrac) (m n t : Int) : TFrac := rd (segN a b m n t) (segD a b m n)
structure SegOK (a b : TFrac) (m n t : Int) : Prop where
  va : vf a 100 = true
  vb : vf b 100 = true
  mn : m < n
  mt : m ≤ t
  tn : t ≤ n
  m0 : 0 ≤ m
  n1 : n ≤ 1439
theorem SegOK.facts {a b : TFrac} {m n t : Int} (h : SegOK a b m n t) : (-3600000 ≤ a.Num * b.Den ∧ a.Num * b.Den ≤ 3600000) ∧ (-3600000 ≤ b.Num * a.Den ∧ b.Num * a.Den ≤ 3600000) ∧ (1 ≤ a.Den * b.Den ∧ a.Den * b.Den ≤ 10000) := by
  obtain ⟨a1, a2, a3, a4⟩ := vf_iff.1 h.va
  obtain ⟨b1, b2, b3, b4⟩ := vf_iff.1 h.vb
  have h1 := mul_bd (a := a.Num) (b := b.Den) (A := 36000) (B := 100) (by omega) (by omega)
  have h2 := mul_bd (a := b.Num) (b := a.Den) (A := 36000) (B := 100) (by omega) (by omega)
  have h3 := mul_bd (a := a.Den) (b := b.Den) (A := 100) (B := 100) (by omega) (by omega)
  have h4 : 0 < a.Den * b.Den := Int.mul_pos (by omega) (by omega)
  exact ⟨by omega, by omega, by omega, by omega⟩
theorem SegOK.den {a b : TFrac} {m n t : Int} (h : SegOK a b m n t) : 0 < segD a b m n ∧ segD a b m n ≤ 14390000 := by
  obtain ⟨_, _, h1, h2⟩ := h.facts
  have := h.mn; have := h.m0; have := h.n1
  have h3 := mul_bd (a := a.Den * b.Den) (b := n - m) (A := 10000) (B := 1439) (by omega) (by omega)
  have h4 : 0 < a.Den * b.Den * (n - m) := Int.mul_pos (by omega) (by omega)
  unfold segD; omega
theorem segN_alt (a b : TFrac) (m n t : Int) : segN a b m n t = a.Num * b.Den * (n - t) + b.Num * a.Den * (t - m) := by
  unfold segN
  rw [Int.sub_mul]
  have : a.Num * b.Den * (n - m) = a.Num * b.Den * (n - t) + a.Num * b.Den * (t - m) := by rw [← Int.mul_add]; congr 1; omega
  omega
theorem SegOK.num {a b : TFrac} {m n t : Int} (h : SegOK a b m n t) : -(360 * segD a b m n) ≤ segN a b m n t ∧ segN a b m n t ≤ 360 * segD a b m n := by
  obtain ⟨a1, a2, a3, a4⟩ := vf_iff.1 h.va
  obtain ⟨b1, b2, b3, b4⟩ := vf_iff.1 h.vb
  have := h.mt; have := h.tn
  have p : ∀ {x d e u : Int}, 0 ≤ e → 0 ≤ u → -(360 * d) ≤ x → x ≤ 360 * d → -(360 * (d * e * u)) ≤ x * e * u ∧ x * e * u ≤ 360 * (d * e * u) := by
    intro x d e u he hu h1 h2
    have q1 := Int.mul_le_mul_of_nonneg_right (Int.mul_le_mul_of_nonneg_right h1 he) hu
    have q2 := Int.mul_le_mul_of_nonneg_right (Int.mul_le_mul_of_nonneg_right h2 he) hu
    have e1 : -(360 * d) * e * u = -(360 * (d * e * u)) := by simp only [Int.neg_mul, Int.mul_assoc]
    have e2 : 360 * d * e * u = 360 * (d * e * u) := by simp only [Int.mul_assoc]
    omega
  have p1 := p (x := a.Num) (d := a.Den) (e := b.Den) (u := n - t) (by omega) (by omega) a3 a4
  have p2 := p (x := b.Num) (d := b.Den) (e := a.Den) (u := t - m) (by omega) (by omega) b3 b4
  have e1 : segD a b m n = a.Den * b.Den * (n - t) + b.Den * a.Den * (t - m) := by
    unfold segD
    rw [Int.mul_comm b.Den a.Den, ← Int.mul_add]; congr 1; omega
  rw [segN_alt, e1]
  omega
theorem SegOK.vf {a b : TFrac} {m n t : Int} (h : SegOK a b m n t) : vf (seg a b m n t) 20000000 = true := by
  obtain ⟨h1, h2⟩ := h.den
  obtain ⟨h3, h4⟩ := h.num
  exact vf_rd (x := ⟨segN a b m n t, segD a b m n⟩) (vf_iff.2 ⟨by simp only; omega, by simp only; omega, h3, h4⟩)
theorem SegOK.wraps {a b : TFrac} {m n t : Int} (h : SegOK a b m n t) :
    W (W (W (a.Num * b.Den) * (n - m)) + W (W (W (b.Num * a.Den) - W (a.Num * b.Den)) * (t - m))) = segN a b m n t ∧ W (W (a.Den * b.Den) * (n - m)) = segD a b m n := by
  obtain ⟨f1, f2, f3⟩ := h.facts
  have := h.mn; have := h.mt; have := h.tn; have := h.m0; have := h.n1
  have p1 := mul_bd (a := a.Num * b.Den) (b := n - m) (A := 3600000) (B := 1439) (by omega) (by omega)
  have p2 := mul_bd (a := b.Num * a.Den - a.Num * b.Den) (b := t - m) (A := 7200000) (B := 1439) (by omega) (by omega)
  have p3 := mul_bd (a := a.Den * b.Den) (b := n - m) (A := 10000) (B := 1439) (by omega) (by omega)
  rw [W_id (z := a.Num * b.Den) (by omega), W_id (z := b.Num * a.Den) (by omega), W_id (z := a.Den * b.Den) (by omega), W_id (z := b.Num * a.Den - a.Num * b.Den) (by omega),
    W_id (z := a.Num * b.Den * (n - m)) (by omega), W_id (z := (b.Num * a.Den - a.Num * b.Den) * (t - m)) (by omega), W_id (z := a.Den * b.Den * (n - m)) (by omega), W_id (by omega)]
  exact ⟨rfl, rfl⟩
theorem SegOK.I {a b : TFrac} {m n t : Int} (h : SegOK a b m n t) : I64 (segN a b m n t) ∧ I64 (segD a b m n) := by
  obtain ⟨h1, h2⟩ := h.den
  obtain ⟨h3, h4⟩ := h.num
  omega
theorem between_eq {a b : TFrac} {m n t : Int} (h : SegOK a b m n t) : m_moon_between a b (W (t - m)) (W (n - m)) = some (seg a b m n t) := by
  have := h.mn; have := h.mt; have := h.tn; have := h.m0; have := h.n1
  unfold m_moon_between
  rw [W_id (z := t - m) (by omega), W_id (z := n - m) (by omega), h.wraps.1, h.wraps.2, least_eq h.I.1 h.den.1 h.I.2]
  rfl
theorem rbetween_eq {a b : TFrac} {m n t : Int} (h : SegOK a b m n t) : m_R02_between a b (m, n, t) = some (seg a b m n t) := by
  have := h.mn; have := h.mt; have := h.tn; have := h.m0; have := h.n1
  unfold m_R02_between
  simp only
  rw [W_id (z := t - m) (by omega), W_id (z := n - m) (by omega), h.wraps.1, h.wraps.2, frac_eq h.I.1 h.den.1 h.I.2]
  rfl
theorem seg_end {a b : TFrac} {m n : Int} (h : SegOK a b m n n) : seg a b m n n = rd b.Num b.Den := by
  obtain ⟨b1, _⟩ := vf_iff.1 h.vb
  refine rd_eq h.den.1 (by omega) ?_
  rw [segN_alt]; unfold segD
  rw [Int.sub_self, Int.mul_zero, Int.zero_add]; ac_rfl
theorem seg_start {a b : TFrac} {m n : Int} (h : SegOK a b m n m) : seg a b m n m = rd a.Num a.Den := by
  obtain ⟨a1, _⟩ := vf_iff.1 h.va
  refine rd_eq h.den.1 (by omega) ?_
  rw [segN_alt]; unfold segD
  rw [Int.sub_self, Int.mul_zero, Int.add_zero]; ac_rfl
end Go.Proofs.Ytdhjccionnbljaa
namespace Go.Proofs.Ytdhjccionnbljaa
open Go Go.Sx
open Classical
theorem VSheet.pos {s : TSheet} (hs : VSheet s) : 0 < s.Rows.length := by have := hs.len; omega
theorem VSheet.row {s : TSheet} (hs : VSheet s) {k : Nat} (h : k < s.Rows.length) : VRow s.Rows[k] := (row_at h (hs.rows k h)).1
theorem VSheet.step {s : TSheet} (hs : VSheet s) {k : Nat} (h : k + 1 < s.Rows.length) : s.Rows[k].Minute < s.Rows[k + 1].Minute := by
  have := ((row_at h (hs.rows _ h)).2 (by omega)).1
  simpa using this
theorem VSheet.mono {s : TSheet} (hs : VSheet s) {i j : Nat} (hi : i < s.Rows.length) (hj : j < s.Rows.length) (h : i ≤ j) : s.Rows[i].Minute ≤ s.Rows[j].Minute := rows_mono hs.rows j i hi hj h
theorem VSheet.first0 {s : TSheet} (hs : VSheet s) : (s.Rows[0]'hs.pos).Minute = 0 := hs.first _ (List.getElem?_eq_getElem hs.pos)
theorem VSheet.last0 {s : TSheet} (hs : VSheet s) : (s.Rows[s.Rows.length - 1]'(by have := hs.pos; omega)).Minute = 1439 := hs.last _ (List.getElem?_eq_getElem (by have := hs.pos; omega))
theorem VSheet.bd {s : TSheet} (hs : VSheet s) {k : Nat} (h : k < s.Rows.length) : 0 ≤ s.Rows[k].Minute ∧ s.Rows[k].Minute ≤ 1439 := by
  have h1 := hs.mono hs.pos h (by omega)
  have h2 := hs.mono h (by have := hs.pos; omega : s.Rows.length - 1 < s.Rows.length) (by omega)
  rw [hs.first0] at h1; rw [hs.last0] at h2
  exact ⟨h1, h2⟩
theorem VSheet.segH {s : TSheet} (hs : VSheet s) {k : Nat} (h : k + 1 < s.Rows.length) {t : Int} (h1 : s.Rows[k].Minute ≤ t) (h2 : t ≤ s.Rows[k + 1].Minute) : SegOK s.Rows[k].Height s.Rows[k + 1].Height s.Rows[k].Minute s.Rows[k + 1].Minute t :=
  ⟨(hs.row (by omega)).h, (hs.row h).h, hs.step h, h1, h2, (hs.bd (by omega)).1, (hs.bd h).2⟩
theorem VSheet.segB {s : TSheet} (hs : VSheet s) {k : Nat} (h : k + 1 < s.Rows.length) {t : Int} (h1 : s.Rows[k].Minute ≤ t) (h2 : t ≤ s.Rows[k + 1].Minute) : SegOK s.Rows[k].Bearing s.Rows[k + 1].Bearing s.Rows[k].Minute s.Rows[k + 1].Minute t :=
  ⟨(hs.row (by omega)).b, (hs.row h).b, hs.step h, h1, h2, (hs.bd (by omega)).1, (hs.bd h).2⟩
theorem at_loop {s : TSheet} (hs : VSheet s) {t : Int} (h0 : 0 ≤ t) (h1 : t ≤ 1439) : ∃ k : Nat, loopF (m_moon_at__moon_heightOf_L1 s t) 0 = some (k : Int) ∧ ∃ h : k + 1 < s.Rows.length, t ≤ s.Rows[k + 1].Minute ∧ s.Rows[k].Minute ≤ t ∧ (0 < k → s.Rows[k].Minute < t) := by
  obtain ⟨e, he, k, rfl, hk⟩ := loopF_rule (body := m_moon_at__moon_heightOf_L1 s t) (fun i : Int => ∃ k : Nat, i = k ∧ ∃ h : k + 1 < s.Rows.length, s.Rows[k].Minute ≤ t ∧ (0 < k → s.Rows[k].Minute < t)) (fun i : Int => s.Rows.length - i.toNat)
    (fun e => ∃ k : Nat, e = k ∧ ∃ h : k + 1 < s.Rows.length, t ≤ s.Rows[k + 1].Minute ∧ s.Rows[k].Minute ≤ t ∧ (0 < k → s.Rows[k].Minute < t)) (by
    rintro i ⟨k, rfl, h, h2, h3⟩
    have hl := hs.len
    unfold m_moon_at__moon_heightOf_L1
    rw [W_s (by omega), idx_nat1 h, Option.bind_some]
    by_cases hc : s.Rows[k + 1].Minute < t
    · right
      have hk2 : k + 1 + 1 < s.Rows.length := by
        apply Nat.lt_of_not_le; intro hn
        have : s.Rows[s.Rows.length - 1]'(by omega) = s.Rows[k + 1] := by congr 1; omega
        have h4 := hs.last0
        rw [this] at h4; omega
      exact ⟨(k : Int) + 1, by simp [hc], ⟨k + 1, rfl, hk2, by omega, fun _ => hc⟩, by omega⟩
    · left
      exact ⟨(k : Int), by simp [hc], k, rfl, h, by omega, h2, h3⟩) 0 ⟨0, rfl, by have := hs.len; omega, by have := hs.first0; omega, by omega⟩ (lt_FUEL (by have := hs.len; omega))
  exact ⟨k, he, hk⟩
theorem atB_L1 : m_moon_at__moon_bearingOf_L1 = m_moon_at__moon_heightOf_L1 := rfl
theorem place_loop {s : TSheet} (hs : VSheet s) {t : Int} (h0 : 0 ≤ t) (h1 : t ≤ 1439) : ∃ k : Nat, loopF (m_R02_place_L1 s t) 0 = some (k : Int) ∧ ∃ h : k + 1 < s.Rows.length, s.Rows[k].Minute ≤ t ∧ (k + 2 < s.Rows.length → t < s.Rows[k + 1].Minute) := by
  obtain ⟨e, he, k, rfl, hk⟩ := loopF_rule (body := m_R02_place_L1 s t) (fun i : Int => ∃ k : Nat, i = k ∧ ∃ h : k + 1 < s.Rows.length, s.Rows[k].Minute ≤ t) (fun i : Int => s.Rows.length - i.toNat)
    (fun e => ∃ k : Nat, e = k ∧ ∃ h : k + 1 < s.Rows.length, s.Rows[k].Minute ≤ t ∧ (k + 2 < s.Rows.length → t < s.Rows[k + 1].Minute)) (by
    rintro i ⟨k, rfl, h, h2⟩
    have hl := hs.len
    unfold m_R02_place_L1
    rw [W_id (z := (k : Int) + 2) (by omega), W_s (by omega)]
    by_cases hc : k + 2 < s.Rows.length
    · have hc' : (k : Int) + 2 < (s.Rows.length : Int) := by omega
      simp only [hc', decide_true, if_true]
      rw [idx_nat1 h, Option.bind_some]
      by_cases hm : s.Rows[k + 1].Minute ≤ t
      · right
        exact ⟨(k : Int) + 1, by simp [hm], ⟨k + 1, rfl, hc, hm⟩, by omega⟩
      · left
        exact ⟨(k : Int), by simp [hm], k, rfl, h, h2, fun _ => by omega⟩
    · left
      have hc' : ¬ (k : Int) + 2 < (s.Rows.length : Int) := by omega
      exact ⟨(k : Int), by simp [hc'], k, rfl, h, h2, fun h => absurd h hc⟩) 0 ⟨0, rfl, by have := hs.len; omega, by have := hs.first0; omega⟩ (lt_FUEL (by have := hs.len; omega))
  exact ⟨k, he, hk⟩
structure At (s : TSheet) (t : Int) (h g : TFrac) : Prop where
  ex : ∃ (k : Nat) (hk : k + 1 < s.Rows.length), s.Rows[k].Minute ≤ t ∧ t ≤ s.Rows[k + 1].Minute ∧ h = seg s.Rows[k].Height s.Rows[k + 1].Height s.Rows[k].Minute s.Rows[k + 1].Minute t ∧ g = seg s.Rows[k].Bearing s.Rows[k + 1].Bearing s.Rows[k].Minute s.Rows[k + 1].Minute t
theorem at_ex {s : TSheet} (hs : VSheet s) {t : Int} (h0 : 0 ≤ t) (h1 : t ≤ 1439) : ∃ h g, At s t h g ∧ m_moon_at__moon_heightOf s t = some h ∧ m_moon_at__moon_bearingOf s t = some g ∧ m_R02_place s t = some (h, g) := by
  obtain ⟨k, ek, hk, a1, a2, a3⟩ := at_loop hs h0 h1
  obtain ⟨j, ej, hj, b1, b2⟩ := place_loop hs h0 h1
  have hl := hs.len
  have sh := hs.segH hk a2 a1
  have sb := hs.segB hk a2 a1
  refine ⟨_, _, ⟨k, hk, a2, a1, rfl, rfl⟩, ?_, ?_, ?_⟩
  · unfold m_moon_at__moon_heightOf m_moon_heightOf
    rw [ek, Option.bind_some, idx_nat (by omega), Option.bind_some, W_s (by omega), idx_nat1 hk]
    simp only [Option.bind_some]
    rw [between_eq sh]; rfl
  · unfold m_moon_at__moon_bearingOf m_moon_bearingOf
    rw [atB_L1, ek, Option.bind_some, idx_nat (by omega), Option.bind_some, W_s (by omega), idx_nat1 hk]
    simp only [Option.bind_some]
    rw [between_eq sb]; rfl
  · unfold m_R02_place
    rw [ej, Option.bind_some, idx_nat (by omega), Option.bind_some, W_s (by omega), idx_nat1 hj, Option.bind_some]
    have b3 : t ≤ s.Rows[j + 1].Minute := by
      by_cases h : j + 2 < s.Rows.length
      · have := b2 h; omega
      · have : s.Rows[s.Rows.length - 1]'(by omega) = s.Rows[j + 1] := by congr 1; omega
        have h4 := hs.last0
        rw [this] at h4; omega
    rw [rbetween_eq (hs.segH hj b1 b3), Option.bind_some, rbetween_eq (hs.segB hj b1 b3), Option.bind_some]
    -- the same pair of rows, or the next one at its first minute
    rcases Nat.lt_trichotomy j k with h | h | h
    · exfalso
      have := b2 (by omega)
      have h5 := hs.mono (i := j + 1) (j := k) (by omega) (by omega) (by omega)
      omega
    · subst h; rfl
    · have h5 := hs.mono (i := k + 1) (j := j) (by omega) (by omega) (by omega)
      have hjk : j = k + 1 := by
        apply Nat.le_antisymm _ h
        apply Nat.le_of_not_lt; intro hlt
        have h6 := hs.step (k := k + 1) (by omega)
        have h7 := hs.mono (i := k + 1 + 1) (j := j) (by omega) (by omega) (by omega)
        omega
      subst hjk
      obtain rfl : t = s.Rows[k + 1].Minute := by omega
      rw [seg_start (hs.segH hj b1 b3), seg_start (hs.segB hj b1 b3), seg_end sh, seg_end sb]
theorem At.vh {s : TSheet} (hs : VSheet s) {t : Int} {h g : TFrac} (ha : At s t h g) : vf h 20000000 = true := by
  obtain ⟨k, hk, a1, a2, rfl, rfl⟩ := ha.ex
  exact (hs.segH hk a1 a2).vf
theorem At.vg {s : TSheet} (hs : VSheet s) {t : Int} {h g : TFrac} (ha : At s t h g) : vf g 20000000 = true := by
  obtain ⟨k, hk, a1, a2, rfl, rfl⟩ := ha.ex
  exact (hs.segB hk a1 a2).vf
def lessF (h : TFrac) (n : Int) : TFrac := rd (h.Num - n * h.Den) h.Den
theorem less_bd {h : TFrac} (hv : vf h 20000000 = true) {n : Int} (hn : 0 ≤ n ∧ n ≤ 90) : I64 (h.Num - n * h.Den) ∧ I64 h.Den ∧ 0 < h.Den ∧ W (h.Num - W (n * h.Den)) = h.Num - n * h.Den := by
  obtain ⟨h1, h2, h3, h4⟩ := vf_iff.1 hv
  have p := mul_bd (a := n) (b := h.Den) (A := 90) (B := 20000000) (by omega) (by omega)
  refine ⟨by omega, by omega, by omega, ?_⟩
  rw [W_id (z := n * h.Den) (by omega), W_id (by omega)]
theorem margin_ex {s : TSheet} (hs : VSheet s) {l : List TRoof} (hl : VRoofs l) {t : Int} (h0 : 0 ≤ t) (h1 : t ≤ 1439) : ∃ h g, At s t h g ∧ m_moon_margin s l t = some (lessF h (hz l g)) ∧ m_R02_margin s l t = some (lessF h (hz l g)) := by
  obtain ⟨h, g, ha, e1, e2, e3⟩ := at_ex hs h0 h1
  have vh := ha.vh hs
  have vg := ha.vg hs
  have sg := vf_Sm (Int.le_refl _) vg
  obtain ⟨b1, b2, b3, b4⟩ := less_bd vh (hz_bd hl.all g)
  refine ⟨h, g, ha, ?_, ?_⟩
  · unfold m_moon_margin
    rw [e1, Option.bind_some, e2, Option.bind_some, horizon_eq hl sg, Option.bind_some, b4, least_eq b1 b3 b2]; rfl
  · unfold m_R02_margin m_R02_less
    rw [e3]
    simp only [Option.bind_some]
    rw [rhorizon_eq hl sg, Option.bind_some, b4, frac_eq b1 b3 b2]; rfl
theorem isMinute_eq (t : Int) : m_moon_isMinute t = some (decide (0 ≤ t ∧ t ≤ 1439)) := by
  unfold m_moon_isMinute; rw [within_eq, band]; rfl
theorem risMinute_eq (t : Int) : m_R02_isMinute t = some (decide (0 ≤ t ∧ t ≤ 1439)) := by
  unfold m_R02_isMinute; rw [In_eq, band]; rfl
end Go.Proofs.Ytdhjccionnbljaa
namespace Go.Proofs.Ytdhjccionnbljaa
open Go Go.Sx
open Classical
structure VSight (x : TSighting) : Prop where
  src : 1 ≤ x.Source ∧ x.Source ≤ 99999
  night : 0 ≤ x.Night ∧ x.Night ≤ 100000
  min : 0 ≤ x.Minute ∧ x.Minute ≤ 1439
  known : 0 ≤ x.Known ∧ x.Known ≤ 100000
  until_ : x.Until = 0 ∨ (x.Known < x.Until ∧ x.Until ≤ 100000)
theorem isNight_eq (n : Int) : m_moon_isNight n = some (decide (0 ≤ n ∧ n ≤ 100000)) := by
  unfold m_moon_isNight; rw [within_eq, band]; rfl
theorem CheckSighting_eq (x : TSighting) : m_moon_CheckSighting x = some (if VSight x then 0 else 23) := by
  have no : ∀ {P : Prop}, (VSight x → P) → ¬ P → some (23 : Int) = some (if VSight x then 0 else 23) := fun h hn => by
    rw [if_neg fun hv => hn (h hv)]
  unfold m_moon_CheckSighting
  simp only [within_eq, band, lasts_eq, isNight_eq, isMinute_eq, Option.bind_some]
  by_cases h1 : 1 ≤ x.Source ∧ x.Source ≤ 99999
  rotate_left
  · simp only [h1, decide_false, Bool.not_false, if_true]; exact no (fun h => h.src) h1
  by_cases h2 : 0 ≤ x.Night ∧ x.Night ≤ 100000
  rotate_left
  · simp only [h1, h2, and_self, decide_true, decide_false, Bool.not_true, Bool.not_false, Bool.false_eq_true, if_false, if_true]; exact no (fun h => h.night) h2
  by_cases h3 : 0 ≤ x.Minute ∧ x.Minute ≤ 1439
  rotate_left
  · simp only [h1, h2, h3, and_self, decide_true, decide_false, Bool.not_true, Bool.not_false, Bool.false_eq_true, if_false, if_true]; exact no (fun h => h.min) h3
  by_cases h4 : (0 ≤ x.Known ∧ x.Known ≤ 100000) ∧ (x.Until = 0 ∨ (x.Known < x.Until ∧ x.Until ≤ 100000))
  rotate_left
  · simp only [h1, h2, h3, h4, and_self, decide_true, decide_false, Bool.not_true, Bool.not_false, Bool.false_eq_true, if_false, if_true]; exact no (fun h => ⟨h.known, h.until_⟩) h4
  have hv : VSight x := ⟨h1, h2, h3, h4.1, h4.2⟩
  simp only [decide_eq_true h1, decide_eq_true h2, decide_eq_true h3, decide_eq_true h4, Bool.not_true, Bool.false_eq_true, if_false, if_pos hv]
def okSheet (l : List TSheet) (k : Nat) : Prop := ∃ x, l[k]? = some x ∧ VSheet x ∧ ∀ p, 0 < k → l[k - 1]? = some p → p.Source < x.Source
def okSight (l : List TSighting) (k : Nat) : Prop := ∃ x, l[k]? = some x ∧ VSight x ∧ ∀ p, 0 < k → l[k - 1]? = some p → p.Source < x.Source
structure VSky (s : TSky) : Prop where
  n1 : s.Sheets.length ≤ 60
  n2 : s.Sightings.length ≤ 60
  roofs : VRoofs s.Roofs
  sheets : ∀ k, k < s.Sheets.length → okSheet s.Sheets k
  sights : ∀ k, k < s.Sightings.length → okSight s.Sightings k
theorem sheets_loop (s : TSky) (hl : s.Sheets.length ≤ 60) : ∃ e, loopF (m_moon_Check_L1 s) 0 = some e ∧ ((e = .inl (s.Sheets.length : Int) ∧ ∀ k, k < s.Sheets.length → okSheet s.Sheets k) ∨ (e = .inr 24 ∧ ∃ k, k < s.Sheets.length ∧ ¬ okSheet s.Sheets k)) := by
  refine loopF_rule (fun i : Int => ∃ k : Nat, i = k ∧ k ≤ s.Sheets.length ∧ ∀ j, j < k → okSheet s.Sheets j) (fun i : Int => s.Sheets.length - i.toNat) _ ?_ 0 ⟨0, rfl, by omega, by omega⟩ (lt_FUEL (by omega))
  rintro i ⟨k, rfl, hk, hok⟩
  unfold m_moon_Check_L1
  by_cases hlt : k < s.Sheets.length
  · have h1 : (k : Int) < (s.Sheets.length : Int) := by omega
    simp only [h1, decide_true, if_true, idx_nat hlt, Option.bind_some, CheckSheet_eq]
    by_cases hv : VSheet s.Sheets[k]
    · simp only [hv, if_true, bne_self_eq_false, Bool.false_eq_true, if_false]
      by_cases h0 : 0 < k
      · have h2 : (k : Int) > 0 := by omega
        have hw : W ((k : Int) - 1) = ((k - 1 : Nat) : Int) := by rw [W_id (by omega)]; omega
        have hk1 : k - 1 < s.Sheets.length := by omega
        simp only [h2, decide_true, if_true, hw, idx_nat hk1, Option.bind_some]
        by_cases hm : s.Sheets[k - 1].Source ≥ s.Sheets[k].Source
        · left
          refine ⟨.inr 24, by simp [hm], .inr ⟨rfl, k, hlt, fun ⟨r, e1, _, e2⟩ => ?_⟩⟩
          rw [List.getElem?_eq_getElem hlt] at e1; cases e1
          have := e2 _ h0 (List.getElem?_eq_getElem hk1); omega
        · right
          refine ⟨W ((k : Int) + 1), by simp [hm], ⟨k + 1, by rw [W_s (by omega)]; rfl, by omega, fun j hj => ?_⟩, by rw [W_s (by omega)]; omega⟩
          by_cases e : j = k
          · subst e
            refine ⟨_, List.getElem?_eq_getElem hlt, hv, fun p hp e3 => ?_⟩
            rw [List.getElem?_eq_getElem hk1] at e3; cases e3
            omega
          · exact hok j (by omega)
      · right
        have hk0 : (decide ((k : Int) > 0)) = false := by simp; omega
        refine ⟨W ((k : Int) + 1), by rw [hk0]; simp, ⟨k + 1, by rw [W_s (by omega)]; rfl, by omega, fun j hj => ?_⟩, by rw [W_s (by omega)]; omega⟩
        obtain rfl : j = k := by omega
        exact ⟨_, List.getElem?_eq_getElem hlt, hv, fun p hp => by omega⟩
    · left
      refine ⟨.inr 24, by simp [hv], .inr ⟨rfl, k, hlt, fun ⟨r, e1, e2, _⟩ => ?_⟩⟩
      rw [List.getElem?_eq_getElem hlt] at e1; cases e1; exact hv e2
  · left
    have h1 : ¬ (k : Int) < (s.Sheets.length : Int) := by omega
    obtain rfl : k = s.Sheets.length := by omega
    exact ⟨.inl _, by simp, .inl ⟨rfl, hok⟩⟩
theorem sights_loop (s : TSky) (hl : s.Sightings.length ≤ 60) : ∃ e, loopF (m_moon_Check_L2 s) 0 = some e ∧ ((e = .inl (s.Sightings.length : Int) ∧ ∀ k, k < s.Sightings.length → okSight s.Sightings k) ∨ (e = .inr 24 ∧ ∃ k, k < s.Sightings.length ∧ ¬ okSight s.Sightings k)) := by
  refine loopF_rule (fun i : Int => ∃ k : Nat, i = k ∧ k ≤ s.Sightings.length ∧ ∀ j, j < k → okSight s.Sightings j) (fun i : Int => s.Sightings.length - i.toNat) _ ?_ 0 ⟨0, rfl, by omega, by omega⟩ (lt_FUEL (by omega))
  rintro i ⟨k, rfl, hk, hok⟩
  unfold m_moon_Check_L2
  by_cases hlt : k < s.Sightings.length
  · have h1 : (k : Int) < (s.Sightings.length : Int) := by omega
    simp only [h1, decide_true, if_true, idx_nat hlt, Option.bind_some, CheckSighting_eq]
    by_cases hv : VSight s.Sightings[k]
    · simp only [hv, if_true, bne_self_eq_false, Bool.false_eq_true, if_false]
      by_cases h0 : 0 < k
      · have h2 : (k : Int) > 0 := by omega
        have hw : W ((k : Int) - 1) = ((k - 1 : Nat) : Int) := by rw [W_id (by omega)]; omega
        have hk1 : k - 1 < s.Sightings.length := by omega
        simp only [h2, decide_true, if_true, hw, idx_nat hk1, Option.bind_some]
        by_cases hm : s.Sightings[k - 1].Source ≥ s.Sightings[k].Source
        · left
          refine ⟨.inr 24, by simp [hm], .inr ⟨rfl, k, hlt, fun ⟨r, e1, _, e2⟩ => ?_⟩⟩
          rw [List.getElem?_eq_getElem hlt] at e1; cases e1
          have := e2 _ h0 (List.getElem?_eq_getElem hk1); omega
        · right
          refine ⟨W ((k : Int) + 1), by simp [hm], ⟨k + 1, by rw [W_s (by omega)]; rfl, by omega, fun j hj => ?_⟩, by rw [W_s (by omega)]; omega⟩
          by_cases e : j = k
          · subst e
            refine ⟨_, List.getElem?_eq_getElem hlt, hv, fun p hp e3 => ?_⟩
            rw [List.getElem?_eq_getElem hk1] at e3; cases e3
            omega
          · exact hok j (by omega)
      · right
        have hk0 : (decide ((k : Int) > 0)) = false := by simp; omega
        refine ⟨W ((k : Int) + 1), by rw [hk0]; simp, ⟨k + 1, by rw [W_s (by omega)]; rfl, by omega, fun j hj => ?_⟩, by rw [W_s (by omega)]; omega⟩
        obtain rfl : j = k := by omega
        exact ⟨_, List.getElem?_eq_getElem hlt, hv, fun p hp => by omega⟩
    · left
      refine ⟨.inr 24, by simp [hv], .inr ⟨rfl, k, hlt, fun ⟨r, e1, e2, _⟩ => ?_⟩⟩
      rw [List.getElem?_eq_getElem hlt] at e1; cases e1; exact hv e2
  · left
    have h1 : ¬ (k : Int) < (s.Sightings.length : Int) := by omega
    obtain rfl : k = s.Sightings.length := by omega
    exact ⟨.inl _, by simp, .inl ⟨rfl, hok⟩⟩
theorem Check_eq (s : TSky) (hr : s.Roofs.length ≤ maxLen) : m_moon_Check s = some (if VSky s then 0 else 24) := by
  have no : ∀ {P : Prop}, (VSky s → P) → ¬ P → some (24 : Int) = some (if VSky s then 0 else 24) := fun h hn => by
    rw [if_neg fun hv => hn (h hv)]
  unfold m_moon_Check
  by_cases h1 : s.Sheets.length ≤ 60
  rotate_left
  · have : (s.Sheets.length : Int) > 60 := by omega
    simp only [this, decide_true, if_true]; exact no (fun h => h.n1) h1
  by_cases h2 : s.Sightings.length ≤ 60
  rotate_left
  · have a : ¬ (s.Sheets.length : Int) > 60 := by omega
    have b : (s.Sightings.length : Int) > 60 := by omega
    simp only [a, b, decide_true, decide_false, Bool.false_eq_true, if_false, if_true]; exact no (fun h => h.n2) h2
  have a : ¬ (s.Sheets.length : Int) > 60 := by omega
  have b : ¬ (s.Sightings.length : Int) > 60 := by omega
  simp only [a, b, decide_false, Bool.false_eq_true, if_false]
  rw [areRoofs_eq _ hr, Option.bind_some]
  by_cases h3 : VRoofs s.Roofs
  rotate_left
  · simp only [h3, decide_false, Bool.not_false, if_true]; exact no (fun h => h.roofs) h3
  simp only [h3, decide_true, Bool.not_true, Bool.false_eq_true, if_false]
  obtain ⟨e, he, hq⟩ := sheets_loop s h1
  rw [he, Option.bind_some]
  rcases hq with ⟨rfl, hok⟩ | ⟨rfl, k, hk, hno⟩
  rotate_left
  · exact no (P := okSheet s.Sheets k) (fun h => h.sheets k hk) hno
  obtain ⟨e, he, hq⟩ := sights_loop s h2
  simp only
  rw [he, Option.bind_some]
  rcases hq with ⟨rfl, hok2⟩ | ⟨rfl, k, hk, hno⟩
  rotate_left
  · exact no (P := okSight s.Sightings k) (fun h => h.sights k hk) hno
  have hv : VSky s := ⟨h1, h2, h3, hok, hok2⟩
  simp [hv]
theorem VSky.sheet {s : TSky} (h : VSky s) {x : TSheet} (hx : x ∈ s.Sheets) : VSheet x := by
  obtain ⟨k, hk, rfl⟩ := List.mem_iff_getElem.1 hx
  obtain ⟨y, e1, e2, _⟩ := h.sheets k hk
  rw [List.getElem?_eq_getElem hk] at e1; cases e1; exact e2
theorem VSky.sight {s : TSky} (h : VSky s) {x : TSighting} (hx : x ∈ s.Sightings) : VSight x := by
  obtain ⟨k, hk, rfl⟩ := List.mem_iff_getElem.1 hx
  obtain ⟨y, e1, e2, _⟩ := h.sights k hk
  rw [List.getElem?_eq_getElem hk] at e1; cases e1; exact e2
def cnt (f u k : Int) : Bool := decide (f ≤ k ∧ (u = 0 ∨ k < u))
theorem counts_eq (f u k : Int) : m_moon_counts f u k = some (cnt f u k) := by
  unfold m_moon_counts cnt
  by_cases h : f ≤ k
  · by_cases h2 : u = 0 <;> simp [h, h2]
  · simp [h]
theorem rcounts_eq (f u k : Int) : m_R02_counts f u k = some (cnt f u k) := counts_eq f u k
def inFs (night as_ : Int) (acc : Option TSheet) (x : TSheet) : Option TSheet :=
  if x.Night = night ∧ cnt x.Known x.Until as_ = true then (match acc with | none => some x | some y => if x.Known ≥ y.Known then some x else some y) else acc
def inF (l : List TSheet) (night as_ : Int) : Option TSheet := l.foldl (inFs night as_) none
def zeroSheet : TSheet := ⟨0, 0, 0, 0, [], ⟨0, 0⟩, ⟨0, 0⟩⟩
theorem inForce_eq (s : TSky) (hl : s.Sheets.length ≤ 60) (night as_ : Int) : m_moon_inForce s night as_ = some ((inF s.Sheets night as_).getD zeroSheet, (inF s.Sheets night as_).isSome) := by
  unfold m_moon_inForce
  obtain ⟨e, he, hq⟩ := loopF_rule (body := m_moon_inForce_L1 s night as_) (fun st => ∃ (k : Nat) (acc : Option TSheet), k ≤ s.Sheets.length ∧ (s.Sheets.drop k).foldl (inFs night as_) acc = inF s.Sheets night as_ ∧
      st = (acc.isSome, (k : Int), (acc.getD zeroSheet).Source, (acc.getD zeroSheet).Night, (acc.getD zeroSheet).Known, (acc.getD zeroSheet).Until, (acc.getD zeroSheet).Rows, (acc.getD zeroSheet).Off.Num, (acc.getD zeroSheet).Off.Den, (acc.getD zeroSheet).Light.Lo, (acc.getD zeroSheet).Light.Hi))
    (fun st => s.Sheets.length - st.2.1.toNat) (fun st => ∃ k : Int, st = ((inF s.Sheets night as_).isSome, k, ((inF s.Sheets night as_).getD zeroSheet).Source, ((inF s.Sheets night as_).getD zeroSheet).Night, ((inF s.Sheets night as_).getD zeroSheet).Known, ((inF s.Sheets night as_).getD zeroSheet).Until, ((inF s.Sheets night as_).getD zeroSheet).Rows, ((inF s.Sheets night as_).getD zeroSheet).Off.Num, ((inF s.Sheets night as_).getD zeroSheet).Off.Den, ((inF s.Sheets night as_).getD zeroSheet).Light.Lo, ((inF s.Sheets night as_).getD zeroSheet).Light.Hi)) (by
    rintro st ⟨k, acc, hk, hf, rfl⟩
    unfold m_moon_inForce_L1
    by_cases hlt : k < s.Sheets.length
    · right
      have h1 : (k : Int) < (s.Sheets.length : Int) := by omega
      rw [foldl_drop hlt] at hf
      refine ⟨_, ?_, ⟨k + 1, inFs night as_ acc s.Sheets[k], by omega, hf, rfl⟩, by simp only; omega⟩
      simp only [h1, decide_true, if_true, idx_nat hlt, Option.bind_some, counts_eq]
      have hw : W ((k : Int) + 1) = ((k + 1 : Nat) : Int) := by rw [W_s (by omega)]; rfl
      rw [hw]
      by_cases hn : s.Sheets[k].Night = night
      · by_cases hc : cnt s.Sheets[k].Known s.Sheets[k].Until as_ = true
        · cases acc with
          | none => simp [hn, hc, inFs]
          | some y =>
            by_cases hy : s.Sheets[k].Known ≥ y.Known
            · simp [hn, hc, inFs, hy]
            · simp [hn, hc, inFs, hy]
        · simp [hn, hc, inFs]
      · simp [hn, inFs]
    · left
      have h1 : ¬ (k : Int) < (s.Sheets.length : Int) := by omega
      rw [List.drop_of_length_le (by omega)] at hf
      simp only [List.foldl_nil] at hf
      subst hf
      exact ⟨_, by simp only [h1, decide_false, Bool.false_eq_true, if_false], k, rfl⟩) (false, 0, 0, 0, 0, 0, [], 0, 0, 0, 0) ⟨0, none, by omega, rfl, rfl⟩ (lt_FUEL (by first | omega | (simp only; omega)))
  obtain ⟨k, rfl⟩ := hq
  rw [he]
  rfl
theorem inF_mem {l : List TSheet} {night as_ : Int} {x : TSheet} (h : inF l night as_ = some x) : x ∈ l ∧ x.Night = night ∧ cnt x.Known x.Until as_ = true := by
  have : ∀ (l : List TSheet) (acc : Option TSheet) (x : TSheet), l.foldl (inFs night as_) acc = some x → (acc = some x) ∨ (x ∈ l ∧ x.Night = night ∧ cnt x.Known x.Until as_ = true) := by
    intro l
    induction l with
    | nil => intro acc x h; exact .inl h
    | cons y l ih =>
      intro acc x h
      rcases ih _ _ h with h | ⟨h1, h2⟩
      · unfold inFs at h
        split at h
        · rename_i hc
          cases acc with
          | none => simp only [Option.some.injEq] at h; subst h; exact .inr ⟨List.mem_cons_self, hc⟩
          | some z =>
            simp only at h
            split at h
            · simp only [Option.some.injEq] at h; subst h; exact .inr ⟨List.mem_cons_self, hc⟩
            · exact .inl h
        · exact .inl h
      · exact .inr ⟨List.mem_cons_of_mem _ h1, h2⟩
  rcases this l none x h with h | h
  · cases h
  · exact h
def sgf (night as_ : Int) (x : TSighting) : Bool := decide (x.Night = night) && cnt x.Known x.Until as_
def sg (l : List TSighting) (night as_ : Int) : List TSighting := l.filter (sgf night as_)
theorem sighted1_eq (x : TSighting) (a b : Int) : m_moon_sighted_1 x a b = some (!sgf a b x) := by
  unfold m_moon_sighted_1 sgf
  rw [counts_eq]
  by_cases h : x.Night = a <;> simp [h]
theorem del1_eq (l : List TSighting) (a b : Int) : m_slices_DeleteFunc_api_Sighting_api_Sighting__moon_sighted_1 l a b = delF (fun x => m_moon_sighted_1 x a b) l := rfl
theorem sighted_eq (s : TSky) (hl : s.Sightings.length ≤ 60) (night as_ : Int) : m_moon_sighted s night as_ = some (sg s.Sightings night as_) := by
  unfold m_moon_sighted m_slices_Clone_api_Sighting_api_Sighting
  rw [gd, if_pos (by omega), Option.bind_some, del1_eq, delF_eq (p := fun x => !sgf night as_ x) _ _ (fun x _ => sighted1_eq x night as_) (by omega)]
  simp [sg]
end Go.Proofs.Ytdhjccionnbljaa
namespace Go.Proofs.Ytdhjccionnbljaa
open Go Go.Sx
open Classical
theorem rd_pos {n d : Int} (hd : 0 < d) : 0 < (rd n d).Den := (rd_spec hd).choose_spec.2.2.2
theorem rd_idem {n d : Int} (hd : 0 < d) : rd (rd n d).Num (rd n d).Den = rd n d := by
  obtain ⟨g, hg, e1, e2, hp⟩ := rd_spec (n := n) hd
  refine rd_eq hp hd ?_
  generalize rd n d = p at *
  rw [e1, e2]; ac_rfl
theorem rd_neg {n d : Int} : rd (-n) d = ⟨-(rd n d).Num, (rd n d).Den⟩ := by
  unfold rd
  rw [Int.natAbs_neg]
  simp only [TFrac.mk.injEq, and_true]
  exact Int.neg_ediv_of_dvd (gcd_dvd_n n d)
theorem rd_le {n d : Int} (hd : 0 < d) : (rd n d).Den ≤ d := by
  obtain ⟨g, hg, e1, e2, hp⟩ := rd_spec (n := n) hd
  generalize rd n d = p at *
  have := Int.mul_le_mul_of_nonneg_right (show (1 : Int) ≤ g by omega) (Int.le_of_lt hp)
  omega
theorem rd_bd {n d B : Int} (hd : 0 < d) (h : -(B * d) ≤ n ∧ n ≤ B * d) : -(B * (rd n d).Den) ≤ (rd n d).Num ∧ (rd n d).Num ≤ B * (rd n d).Den := by
  obtain ⟨g, hg, e1, e2, hp⟩ := rd_spec (n := n) hd
  generalize rd n d = p at *
  rw [e1, e2] at h
  have a : B * (g * p.Den) = g * (B * p.Den) := by ac_rfl
  rw [a] at h
  constructor
  · refine Int.le_of_mul_le_mul_left ?_ hg
    rw [Int.mul_neg]; exact h.1
  · exact Int.le_of_mul_le_mul_left h.2 hg
structure Edge (e : TFrac) : Prop where
  den : 0 < e.Den
  den2 : e.Den ≤ 14390000
  lo : -(450 * e.Den) ≤ e.Num
  hi : e.Num ≤ 450 * e.Den
  red : rd e.Num e.Den = e
theorem Edge.sm {e : TFrac} (h : Edge e) : Sm e := by obtain ⟨_, _, _, _, _⟩ := h; exact ⟨by omega, by omega, by omega, by omega⟩
def neg (e : TFrac) : TFrac := ⟨-e.Num, e.Den⟩
theorem Edge.neg {e : TFrac} (h : Edge e) : Edge (neg e) := by
  obtain ⟨h1, h2, h3, h4, h5⟩ := h
  refine ⟨h1, h2, ?_, ?_, ?_⟩
  · show -(450 * e.Den) ≤ -e.Num; omega
  · show -e.Num ≤ 450 * e.Den; omega
  · show rd (-e.Num) e.Den = _
    rw [rd_neg, h5]; rfl
theorem less_edge {s : TSheet} (hs : VSheet s) {t : Int} {h g : TFrac} (ha : At s t h g) {n : Int} (hn : 0 ≤ n ∧ n ≤ 90) : Edge (lessF h n) := by
  obtain ⟨k, hk, a1, a2, rfl, rfl⟩ := ha.ex
  have so := hs.segH hk a1 a2
  have hv := so.vf
  obtain ⟨v1, v2, v3, v4⟩ := vf_iff.1 hv
  have hd : (seg s.Rows[k].Height s.Rows[k + 1].Height s.Rows[k].Minute s.Rows[k + 1].Minute t).Den ≤ 14390000 := Int.le_trans (rd_le so.den.1) so.den.2
  generalize seg s.Rows[k].Height s.Rows[k + 1].Height s.Rows[k].Minute s.Rows[k + 1].Minute t = p at *
  have p1 : n * p.Den ≤ 90 * p.Den := Int.mul_le_mul_of_nonneg_right hn.2 (by omega)
  have p2 : 0 ≤ n * p.Den := Int.mul_nonneg hn.1 (by omega)
  have hb := rd_bd (n := p.Num - n * p.Den) (d := p.Den) (B := 450) (by omega) ⟨by omega, by omega⟩
  exact ⟨rd_pos (by omega), Int.le_trans (rd_le (by omega)) hd, hb.1, hb.2, rd_idem (by omega)⟩
def mg (s : TSheet) (l : List TRoof) (t : Int) : TFrac := (m_moon_margin s l t).getD ⟨0, 1⟩
theorem mg_eq {s : TSheet} (hs : VSheet s) {l : List TRoof} (hl : VRoofs l) {t : Int} (ht : 0 ≤ t ∧ t ≤ 1439) : m_moon_margin s l t = some (mg s l t) ∧ m_R02_margin s l t = some (mg s l t) ∧ Edge (mg s l t) ∧ ∃ h g, At s t h g ∧ mg s l t = lessF h (hz l g) := by
  obtain ⟨h, g, ha, e1, e2⟩ := margin_ex hs hl ht.1 ht.2
  have : mg s l t = lessF h (hz l g) := by unfold mg; rw [e1]; rfl
  rw [this]
  exact ⟨e1, e2, less_edge hs ha (hz_bd hl.all g), h, g, ha, rfl⟩
def eg (s : TSheet) (l : List TRoof) (t : Int) : TFrac := neg (mg s l t)
theorem minus_eq {e : TFrac} (h : I64 e.Num) : m_moon_minus e = some (neg e) := by
  unfold m_moon_minus; rw [W_id (by omega)]; simp [neg]
theorem rminus_eq {e : TFrac} (h : I64 e.Num) : m_R02_minus e = some (neg e) := minus_eq h
theorem Edge.reduced {e : TFrac} (h : Edge e) : m_moon_reduced e = some e := by
  rw [reduced_eq h.sm.I.1 h.den h.sm.I.2, h.red]
theorem edge_eq {k : Tknown} (hs : VSheet k.Sheet) (hl : VRoofs k.roofs) {t : Int} (ht : 0 ≤ t ∧ t ≤ 1439) : m_moon_known_edge k t = some (eg k.Sheet k.roofs t) ∧ Edge (eg k.Sheet k.roofs t) := by
  obtain ⟨e1, _, he, _⟩ := mg_eq hs hl ht
  refine ⟨?_, he.neg⟩
  unfold m_moon_known_edge
  rw [e1, Option.bind_some, minus_eq he.sm.I.1, Option.bind_some, he.neg.reduced]; rfl
def slS (x : TSheet) (l : List TRoof) (sl : TSlip) (y : TSighting) : TSlip :=
  if y.Above = true ∧ fcmp (eg x l y.Minute) sl.Lo ≥ 0 then ⟨eg x l y.Minute, true, sl.Hi⟩
  else if ¬ y.Above = true ∧ fcmp (eg x l y.Minute) sl.Hi < 0 then ⟨sl.Lo, sl.Open, eg x l y.Minute⟩ else sl
def off (x : TSheet) : TFrac := rd x.Off.Num x.Off.Den
def slip0 (x : TSheet) : TSlip := ⟨neg (off x), false, off x⟩
def slp (x : TSheet) (l : List TRoof) (ys : List TSighting) : TSlip := ys.foldl (slS x l) (slip0 x)
structure ESlip (s : TSlip) : Prop where
  lo : Edge s.Lo
  hi : Edge s.Hi
theorem off_edge {x : TSheet} (h : VSheet x) : Edge (off x) := by
  obtain ⟨v1, v2, v3, v4⟩ := vf_iff.1 h.off
  have hb := rd_bd (n := x.Off.Num) (d := x.Off.Den) (B := 450) (by omega) ⟨by omega, by omega⟩
  exact ⟨rd_pos (by omega), Int.le_trans (rd_le (by omega)) (by omega), hb.1, hb.2, rd_idem (by omega)⟩
theorem slS_ok {x : TSheet} (hs : VSheet x) {l : List TRoof} (hl : VRoofs l) {sl : TSlip} (h : ESlip sl) {y : TSighting} (hy : 0 ≤ y.Minute ∧ y.Minute ≤ 1439) : ESlip (slS x l sl y) := by
  have he := (mg_eq hs hl hy).2.2.1.neg
  unfold slS
  split
  · exact ⟨he, h.hi⟩
  · split
    · exact ⟨h.lo, he⟩
    · exact h
theorem slip0_ok {x : TSheet} (hs : VSheet x) : ESlip (slip0 x) := ⟨(off_edge hs).neg, off_edge hs⟩
theorem slp_ok {x : TSheet} (hs : VSheet x) {l : List TRoof} (hl : VRoofs l) {ys : List TSighting} (hy : ∀ y, y ∈ ys → 0 ≤ y.Minute ∧ y.Minute ≤ 1439) : ESlip (slp x l ys) := by
  have : ∀ (ys : List TSighting) (sl : TSlip), (∀ y, y ∈ ys → 0 ≤ y.Minute ∧ y.Minute ≤ 1439) → ESlip sl → ESlip (ys.foldl (slS x l) sl) := by
    intro ys
    induction ys with
    | nil => intro sl _ h; exact h
    | cons y ys ih => intro sl hy h; exact ih _ (fun z hz => hy z (List.mem_cons_of_mem _ hz)) (slS_ok hs hl h (hy y List.mem_cons_self))
  exact this ys _ hy (slip0_ok hs)
theorem slipOf_eq {k : Tknown} (hs : VSheet k.Sheet) (hl : VRoofs k.roofs) {ys : List TSighting} (hy : ∀ y, y ∈ ys → 0 ≤ y.Minute ∧ y.Minute ≤ 1439) (hn : ys.length ≤ 60) : m_moon_known_slipOf k ys = some (slp k.Sheet k.roofs ys) := by
  obtain ⟨v1, v2, v3, v4⟩ := vf_iff.1 hs.off
  unfold m_moon_known_slipOf
  rw [minus_eq (by omega), Option.bind_some, reduced_eq (x := neg k.Sheet.Off) (by show I64 (-k.Sheet.Off.Num); omega) (by show 0 < k.Sheet.Off.Den; omega) (by show I64 k.Sheet.Off.Den; omega), Option.bind_some,
    reduced_eq (by omega) (by omega) (by omega), Option.bind_some]
  have e0 : rd (neg k.Sheet.Off).Num (neg k.Sheet.Off).Den = neg (off k.Sheet) := rd_neg
  rw [e0]
  obtain ⟨e, he, hq⟩ := loopF_rule (body := m_moon_known_slipOf_L1 k ys) (fun st => ∃ (j : Nat) (sl : TSlip), j ≤ ys.length ∧ ESlip sl ∧ (ys.drop j).foldl (slS k.Sheet k.roofs) sl = slp k.Sheet k.roofs ys ∧ st = ((j : Int), sl.Lo.Num, sl.Lo.Den, sl.Open, sl.Hi.Num, sl.Hi.Den))
    (fun st => ys.length - st.1.toNat) (fun st => ∃ j : Int, st = (j, (slp k.Sheet k.roofs ys).Lo.Num, (slp k.Sheet k.roofs ys).Lo.Den, (slp k.Sheet k.roofs ys).Open, (slp k.Sheet k.roofs ys).Hi.Num, (slp k.Sheet k.roofs ys).Hi.Den)) (by
    rintro st ⟨j, sl, hj, hes, hf, rfl⟩
    unfold m_moon_known_slipOf_L1
    by_cases hlt : j < ys.length
    · right
      have h1 : (j : Int) < (ys.length : Int) := by omega
      rw [foldl_drop hlt] at hf
      have hm := hy _ (List.getElem_mem hlt)
      obtain ⟨e1, _, hE, _⟩ := mg_eq hs hl hm
      refine ⟨_, ?_, ⟨j + 1, slS k.Sheet k.roofs sl ys[j], by omega, slS_ok hs hl hes hm, hf, rfl⟩, by simp only; omega⟩
      have hw : W ((j : Int) + 1) = ((j + 1 : Nat) : Int) := by rw [W_s (by omega)]; rfl
      simp only [h1, decide_true, if_true, idx_nat hlt, Option.bind_some, hw]
      rw [e1, Option.bind_some, minus_eq hE.sm.I.1, Option.bind_some, hE.neg.reduced, Option.bind_some]
      have c1 := compare_eq (x := eg k.Sheet k.roofs ys[j].Minute) (y := ⟨sl.Lo.Num, sl.Lo.Den⟩) hE.neg.sm hes.lo.sm
      have c2 := compare_eq (x := eg k.Sheet k.roofs ys[j].Minute) (y := ⟨sl.Hi.Num, sl.Hi.Den⟩) hE.neg.sm hes.hi.sm
      have eeq : neg (mg k.Sheet k.roofs ys[j].Minute) = eg k.Sheet k.roofs ys[j].Minute := rfl
      simp only [eeq, c1, c2, Option.bind_some]
      unfold slS
      by_cases ha : ys[j].Above = true
      · by_cases hc : fcmp (eg k.Sheet k.roofs ys[j].Minute) sl.Lo ≥ 0
        · simp [ha, hc]
        · simp [ha, hc]
      · by_cases hc : fcmp (eg k.Sheet k.roofs ys[j].Minute) sl.Hi < 0
        · simp [ha, hc]
        · simp [ha, hc]
    · left
      have h1 : ¬ (j : Int) < (ys.length : Int) := by omega
      rw [List.drop_of_length_le (by omega)] at hf
      simp only [List.foldl_nil] at hf
      subst hf
      exact ⟨_, by simp only [h1, decide_false, Bool.false_eq_true, if_false], j, rfl⟩) (0, (neg (off k.Sheet)).Num, (neg (off k.Sheet)).Den, false, (off k.Sheet).Num, (off k.Sheet).Den) ⟨0, slip0 k.Sheet, by omega, slip0_ok hs, rfl, rfl⟩ (lt_FUEL (by first | omega | (simp only; omega)))
  obtain ⟨j, rfl⟩ := hq
  have e1 : rd k.Sheet.Off.Num k.Sheet.Off.Den = off k.Sheet := rfl
  rw [e1, he]
  rfl
def emp (s : TSlip) : Bool := decide (fcmp s.Lo s.Hi > 0 ∨ (fcmp s.Lo s.Hi = 0 ∧ s.Open = true))
theorem isEmpty_eq {s : TSlip} (h : ESlip s) : m_moon_isEmpty s = some (emp s) := by
  unfold m_moon_isEmpty emp
  rw [compare_eq h.lo.sm h.hi.sm, Option.bind_some]
  by_cases h1 : fcmp s.Lo s.Hi > 0
  · simp [h1]
  · by_cases h2 : fcmp s.Lo s.Hi = 0
    · cases hO : s.Open <;> simp [h2]
    · simp [h1, h2]
def minsOK (l : List Int) : Prop := ∀ k (h : k < l.length), (0 ≤ l[k] ∧ l[k] ≤ 1439) ∧ ∀ h0 : 0 < k, l[k - 1] ≤ l[k]
theorem mins_loop (l : List Int) (hl : l.length ≤ 1000) : ∃ e, loopF (m_moon_look_L1 l) 0 = some e ∧ ((e = .inl (l.length : Int) ∧ minsOK l) ∨ (e = .inr (none, 1) ∧ ¬ minsOK l)) := by
  refine loopF_rule (fun i : Int => ∃ k : Nat, i = k ∧ k ≤ l.length ∧ ∀ j (h : j < l.length), j < k → (0 ≤ l[j] ∧ l[j] ≤ 1439) ∧ ∀ h0 : 0 < j, l[j - 1] ≤ l[j]) (fun i : Int => l.length - i.toNat) _ ?_ 0 ⟨0, rfl, by omega, by omega⟩ (lt_FUEL (by omega))
  rintro i ⟨k, rfl, hk, hok⟩
  unfold m_moon_look_L1
  by_cases hlt : k < l.length
  · have h1 : (k : Int) < (l.length : Int) := by omega
    simp only [h1, decide_true, if_true, idx_nat hlt, Option.bind_some, isMinute_eq]
    by_cases hv : 0 ≤ l[k] ∧ l[k] ≤ 1439
    · simp only [hv, and_self, decide_true, Bool.not_true, Bool.false_eq_true, if_false]
      by_cases h0 : 0 < k
      · have h2 : (k : Int) > 0 := by omega
        have hw : W ((k : Int) - 1) = ((k - 1 : Nat) : Int) := by rw [W_id (by omega)]; omega
        have hk1 : k - 1 < l.length := by omega
        simp only [h2, decide_true, if_true, hw, idx_nat hk1, Option.bind_some]
        by_cases hm : l[k - 1] > l[k]
        · left
          refine ⟨.inr (none, 1), by simp [hm], .inr ⟨rfl, fun h => ?_⟩⟩
          have := (h k hlt).2 h0; omega
        · right
          refine ⟨W ((k : Int) + 1), by simp [hm], ⟨k + 1, by rw [W_s (by omega)]; rfl, by omega, fun j hj hjk => ?_⟩, by rw [W_s (by omega)]; omega⟩
          by_cases e : j = k
          · subst e; exact ⟨hv, fun _ => by omega⟩
          · exact hok j hj (by omega)
      · right
        have hk0 : (decide ((k : Int) > 0)) = false := by simp; omega
        refine ⟨W ((k : Int) + 1), by rw [hk0]; simp, ⟨k + 1, by rw [W_s (by omega)]; rfl, by omega, fun j hj hjk => ?_⟩, by rw [W_s (by omega)]; omega⟩
        obtain rfl : j = k := by omega
        exact ⟨hv, fun h => by omega⟩
    · left
      refine ⟨.inr (none, 1), by simp only [hv, decide_false, Bool.not_false, if_true], .inr ⟨rfl, fun h => hv (h k hlt).1⟩⟩
  · left
    have h1 : ¬ (k : Int) < (l.length : Int) := by omega
    obtain rfl : k = l.length := by omega
    exact ⟨.inl _, by simp, .inl ⟨rfl, fun j hj => hok j hj hj⟩⟩
noncomputable def lookP (s : TSky) (n a : Int) (mins : List Int) : Option Tknown × Int :=
  if ¬ VSky s then (none, 24) else if ¬ (0 ≤ n ∧ n ≤ 100000) then (none, 6) else if ¬ (0 ≤ a ∧ a ≤ 100000) then (none, 6) else if ¬ minsOK mins then (none, 1) else
  match inF s.Sheets n a with
  | none => (none, 25)
  | some x => (some ⟨x, s.Roofs, sg s.Sightings n a, slp x s.Roofs (sg s.Sightings n a)⟩, 0)
theorem sg_mem {l : List TSighting} {n a : Int} {y : TSighting} (h : y ∈ sg l n a) : y ∈ l := (List.mem_filter.1 h).1
theorem look_eq (s : TSky) (hr : s.Roofs.length ≤ maxLen) (n a : Int) (mins : List Int) (hl : mins.length ≤ 1000) : m_moon_look s n a mins = some (lookP s n a mins) := by
  unfold m_moon_look lookP
  rw [Check_eq s hr, Option.bind_some]
  by_cases h1 : VSky s
  rotate_left
  · simp [h1]
  simp only [h1, not_true_eq_false, if_false, if_true, bne_self_eq_false, Bool.false_eq_true, isNight_eq, Option.bind_some]
  by_cases h2 : 0 ≤ n ∧ n ≤ 100000
  rotate_left
  · simp only [h2, decide_false, Bool.not_false, if_true, not_false_eq_true]
  by_cases h3 : 0 ≤ a ∧ a ≤ 100000
  rotate_left
  · simp only [h2, h3, and_self, decide_true, decide_false, Bool.not_true, Bool.not_false, Bool.false_eq_true, if_false, if_true, not_false_eq_true, not_true_eq_false]
  simp only [h2, h3, and_self, decide_true, Bool.not_true, Bool.false_eq_true, if_false, not_true_eq_false]
  obtain ⟨e, he, hq⟩ := mins_loop mins hl
  rw [he, Option.bind_some]
  rcases hq with ⟨rfl, hok⟩ | ⟨rfl, hno⟩
  rotate_left
  · simp [hno]
  simp only [hok, not_true_eq_false, if_false]
  rw [inForce_eq s h1.n1]
  cases hx : inF s.Sheets n a with
  | none => simp
  | some x =>
    have vx := h1.sheet (inF_mem hx).1
    have hmin : ∀ y, y ∈ sg s.Sightings n a → 0 ≤ y.Minute ∧ y.Minute ≤ 1439 := fun y hy => (h1.sight (sg_mem hy)).min
    have hlen : (sg s.Sightings n a).length ≤ 60 := Nat.le_trans (List.length_filter_le _ _) h1.n2
    simp only [Option.bind_some, Option.isSome_some, Option.getD_some, Bool.not_true, Bool.false_eq_true, if_false]
    rw [sighted_eq s h1.n2, Option.bind_some, slipOf_eq (k := ⟨x, s.Roofs, sg s.Sightings n a, ⟨⟨0, 0⟩, false, ⟨0, 0⟩⟩⟩) vx h1.roofs hmin hlen]
    rfl
structure KOK (k : Tknown) : Prop where
  sh : VSheet k.Sheet
  rf : VRoofs k.roofs
  sl : ESlip k.slip
  sg : ∀ y, y ∈ k.sightings → 0 ≤ y.Minute ∧ y.Minute ≤ 1439
  n : k.sightings.length ≤ 60
theorem lookP_ok {s : TSky} {n a : Int} {mins : List Int} {k : Tknown} {e : Int} (h : lookP s n a mins = (some k, e)) : e = 0 ∧ KOK k ∧ VSky s ∧ minsOK mins ∧ ∃ x, inF s.Sheets n a = some x ∧ k = ⟨x, s.Roofs, sg s.Sightings n a, slp x s.Roofs (sg s.Sightings n a)⟩ := by
  unfold lookP at h
  split at h
  · cases h
  · rename_i h1
    have h1 := Classical.not_not.1 h1
    split at h
    · cases h
    · split at h
      · cases h
      · split at h
        · cases h
        · rename_i hm
          split at h
          · cases h
          · rename_i x hx
            have vx := h1.sheet (inF_mem hx).1
            have hmin : ∀ y, y ∈ sg s.Sightings n a → 0 ≤ y.Minute ∧ y.Minute ≤ 1439 := fun y hy => (h1.sight (sg_mem hy)).min
            cases h
            exact ⟨rfl, ⟨vx, h1.roofs, slp_ok vx h1.roofs hmin, hmin, Nat.le_trans (List.length_filter_le _ _) h1.n2⟩, h1, Classical.not_not.1 hm, x, hx, rfl⟩
theorem lookP_none {s : TSky} {n a : Int} {mins : List Int} {e : Int} (h : lookP s n a mins = (none, e)) : (e != 0) = true := by
  unfold lookP at h
  split at h
  · cases h; rfl
  · split at h
    · cases h; rfl
    · split at h
      · cases h; rfl
      · split at h
        · cases h; rfl
        · split at h
          · cases h; rfl
          · cases h
noncomputable def clearP (s : TSky) (n a : Int) (mins : List Int) : Option Tknown × Int :=
  match lookP s n a mins with
  | (none, e) => (none, e)
  | (some k, _) => if emp k.slip = true then (none, 26) else (some k, 0)
theorem clearly_eq (s : TSky) (hr : s.Roofs.length ≤ maxLen) (n a : Int) (mins : List Int) (hl : mins.length ≤ 1000) : m_moon_clearly s n a mins = some (clearP s n a mins) := by
  unfold m_moon_clearly clearP
  rw [look_eq s hr n a mins hl]
  cases hk : lookP s n a mins with
  | mk o e =>
    cases o with
    | none =>
      have h := lookP_none hk
      simp only [bne_iff_ne, ne_eq] at h
      simp [optM, h]
    | some k =>
      obtain ⟨rfl, hok, _⟩ := lookP_ok hk
      simp only [Option.bind_some, optM, bne_self_eq_false, Bool.false_eq_true, if_false]
      rw [isEmpty_eq hok.sl, Option.bind_some]
      cases emp k.slip <;> rfl
theorem clearP_ok {s : TSky} {n a : Int} {mins : List Int} {k : Tknown} {e : Int} (h : clearP s n a mins = (some k, e)) : e = 0 ∧ lookP s n a mins = (some k, 0) ∧ emp k.slip = false := by
  unfold clearP at h
  split at h
  · cases h
  · rename_i k' e' hk
    obtain ⟨rfl, _⟩ := lookP_ok hk
    split at h
    · cases h
    · rename_i hn; cases h; exact ⟨rfl, hk, by simpa using hn⟩
noncomputable def abP (k : Tknown) (t : Int) : Int :=
  if fcmp k.slip.Lo (eg k.Sheet k.roofs t) > 0 ∨ (fcmp k.slip.Lo (eg k.Sheet k.roofs t) = 0 ∧ k.slip.Open = true) then 1
  else if fcmp k.slip.Hi (eg k.Sheet k.roofs t) ≤ 0 then 0 else 2
theorem above_eq {k : Tknown} (hk : KOK k) {t : Int} (ht : 0 ≤ t ∧ t ≤ 1439) : m_moon_known_above k t = some (abP k t) := by
  obtain ⟨e1, hE⟩ := edge_eq hk.sh hk.rf ht
  unfold m_moon_known_above abP
  rw [e1, Option.bind_some, compare_eq hk.sl.lo.sm hE.sm, Option.bind_some, compare_eq hk.sl.hi.sm hE.sm]
  by_cases h1 : fcmp k.slip.Lo (eg k.Sheet k.roofs t) > 0
  · simp [h1]
  · by_cases h2 : fcmp k.slip.Lo (eg k.Sheet k.roofs t) = 0
    · cases hO : k.slip.Open
      · by_cases h3 : fcmp k.slip.Hi (eg k.Sheet k.roofs t) ≤ 0 <;> simp [h2, h3]
      · simp [h2]
    · by_cases h3 : fcmp k.slip.Hi (eg k.Sheet k.roofs t) ≤ 0 <;> simp [h1, h2, h3]
end Go.Proofs.Ytdhjccionnbljaa
namespace Go.Proofs.Ytdhjccionnbljaa
open Go Go.Sx
open Classical
theorem VSheet.strict {s : TSheet} (hs : VSheet s) {i j : Nat} (hi : i < s.Rows.length) (hj : j < s.Rows.length) (h : i < j) : s.Rows[i].Minute < s.Rows[j].Minute := by
  have a := hs.step (k := i) (by omega)
  have b := hs.mono (i := i + 1) (j := j) (by omega) hj (by omega)
  omega
theorem At.row {s : TSheet} (hs : VSheet s) {t : Int} {h g : TFrac} (ha : At s t h g) {i : Nat} (hi : i + 1 < s.Rows.length) (h1 : s.Rows[i].Minute ≤ t) (h2 : t ≤ s.Rows[i + 1].Minute) : h = seg s.Rows[i].Height s.Rows[i + 1].Height s.Rows[i].Minute s.Rows[i + 1].Minute t ∧ g = seg s.Rows[i].Bearing s.Rows[i + 1].Bearing s.Rows[i].Minute s.Rows[i + 1].Minute t := by
  obtain ⟨k, hk, a1, a2, rfl, rfl⟩ := ha.ex
  have key : ∀ (i k : Nat) (hi : i + 1 < s.Rows.length) (hk : k + 1 < s.Rows.length), s.Rows[i].Minute ≤ t → t ≤ s.Rows[i + 1].Minute → s.Rows[k].Minute ≤ t → t ≤ s.Rows[k + 1].Minute → k < i → seg s.Rows[k].Height s.Rows[k + 1].Height s.Rows[k].Minute s.Rows[k + 1].Minute t = seg s.Rows[i].Height s.Rows[i + 1].Height s.Rows[i].Minute s.Rows[i + 1].Minute t ∧ seg s.Rows[k].Bearing s.Rows[k + 1].Bearing s.Rows[k].Minute s.Rows[k + 1].Minute t = seg s.Rows[i].Bearing s.Rows[i + 1].Bearing s.Rows[i].Minute s.Rows[i + 1].Minute t := by
    intro i k hi hk h1 h2 a1 a2 hlt
    obtain rfl : i = k + 1 := by
      rcases Nat.lt_or_ge (k + 1) i with hc | hc
      · have := hs.strict (i := k + 1) (j := i) (by omega) (by omega) hc; omega
      · omega
    obtain rfl : t = s.Rows[k + 1].Minute := by omega
    have p1 := hs.segH hk a1 a2
    have p2 := hs.segB hk a1 a2
    have p3 := hs.segH hi h1 h2
    have p4 := hs.segB hi h1 h2
    rw [seg_end p1, seg_end p2, seg_start p3, seg_start p4]; exact ⟨rfl, rfl⟩
  rcases Nat.lt_trichotomy k i with hc | rfl | hc
  · exact key i k hi hk h1 h2 a1 a2 hc
  · exact ⟨rfl, rfl⟩
  · obtain ⟨e1, e2⟩ := key k i hk hi a1 a2 h1 h2 hc
    exact ⟨e1.symm, e2.symm⟩
end Go.Proofs.Ytdhjccionnbljaa
namespace Go.Proofs.Ytdhjccionnbljaa
open Go Go.Sx
open Classical
theorem Same_refl (a : List Int) (h : a.length ≤ maxLen) : m_R02_Same a a = some true := by
  obtain ⟨e, he, i, rfl⟩ := loopF_rule (body := m_R02_Same_L1 a a) (fun i => ∃ k : Nat, i = k ∧ k ≤ a.length) (fun i => a.length - i.toNat) (fun e => ∃ i, e = .inl i) (by
    rintro i ⟨k, rfl, hk⟩
    unfold m_R02_Same_L1
    by_cases h1 : (k : Int) < (a.length : Int)
    · right
      have hkl : k < a.length := by omega
      have hm : k < 9223372036854775807 := by unfold maxLen at h; omega
      refine ⟨((k + 1 : Nat) : Int), ?_, ⟨k + 1, rfl, by omega⟩, by omega⟩
      simp only [h1, decide_true, if_true, idx_nat hkl, Option.bind_some, bne_self_eq_false, Bool.false_eq_true, if_false, W_s hm]; rfl
    · left
      exact ⟨.inl (k : Int), by simp only [h1, decide_false, Bool.false_eq_true, if_false], _, rfl⟩) 0 ⟨0, rfl, by omega⟩ (lt_FUEL (by unfold maxLen at h; omega))
  unfold m_R02_Same
  simp only [bne_self_eq_false, Bool.false_eq_true, if_false, he, Option.bind_some]
theorem sheets_pair {l : List TSheet} : (∀ k, k < l.length → okSheet l k) ↔ (∀ x, x ∈ l → VSheet x) ∧ l.Pairwise (fun a b => a.Source < b.Source) := by
  constructor
  · intro h
    have at_ : ∀ k (hk : k < l.length), VSheet l[k] ∧ ∀ h0 : 0 < k, l[k - 1].Source < l[k].Source := by
      intro k hk
      obtain ⟨x, hx, v, hp⟩ := h k hk
      rw [List.getElem?_eq_getElem hk] at hx
      rw [Option.some.inj hx]
      exact ⟨v, fun h0 => hp _ h0 (List.getElem?_eq_getElem (by omega))⟩
    refine ⟨fun x hx => ?_, List.pairwise_iff_getElem.2 ?_⟩
    · obtain ⟨k, hk, rfl⟩ := List.getElem_of_mem hx
      exact (at_ k hk).1
    · intro i j hi hj hij
      induction j with
      | zero => omega
      | succ j ih =>
        have h1 := (at_ (j + 1) hj).2 (by omega)
        have h1 : l[j].Source < l[j + 1].Source := h1
        rcases Nat.lt_or_ge i j with hc | hc
        · exact Int.lt_trans (ih (by omega) hc) h1
        · obtain rfl : i = j := by omega
          exact h1
  · rintro ⟨hv, hp⟩ k hk
    refine ⟨l[k], List.getElem?_eq_getElem hk, hv _ (List.getElem_mem hk), fun p h0 hp' => ?_⟩
    rw [List.getElem?_eq_getElem (by omega)] at hp'
    rw [← Option.some.inj hp']
    exact List.pairwise_iff_getElem.1 hp _ _ _ _ (by omega)
theorem sights_pair {l : List TSighting} : (∀ k, k < l.length → okSight l k) ↔ (∀ x, x ∈ l → VSight x) ∧ l.Pairwise (fun a b => a.Source < b.Source) := by
  constructor
  · intro h
    have at_ : ∀ k (hk : k < l.length), VSight l[k] ∧ ∀ h0 : 0 < k, l[k - 1].Source < l[k].Source := by
      intro k hk
      obtain ⟨x, hx, v, hp⟩ := h k hk
      rw [List.getElem?_eq_getElem hk] at hx
      rw [Option.some.inj hx]
      exact ⟨v, fun h0 => hp _ h0 (List.getElem?_eq_getElem (by omega))⟩
    refine ⟨fun x hx => ?_, List.pairwise_iff_getElem.2 ?_⟩
    · obtain ⟨k, hk, rfl⟩ := List.getElem_of_mem hx
      exact (at_ k hk).1
    · intro i j hi hj hij
      induction j with
      | zero => omega
      | succ j ih =>
        have h1 := (at_ (j + 1) hj).2 (by omega)
        have h1 : l[j].Source < l[j + 1].Source := h1
        rcases Nat.lt_or_ge i j with hc | hc
        · exact Int.lt_trans (ih (by omega) hc) h1
        · obtain rfl : i = j := by omega
          exact h1
  · rintro ⟨hv, hp⟩ k hk
    refine ⟨l[k], List.getElem?_eq_getElem hk, hv _ (List.getElem_mem hk), fun p h0 hp' => ?_⟩
    rw [List.getElem?_eq_getElem (by omega)] at hp'
    rw [← Option.some.inj hp']
    exact List.pairwise_iff_getElem.1 hp _ _ _ _ (by omega)
theorem VSky.part {s : TSky} (h : VSky s) (p : TSheet → Bool) (q : TSighting → Bool) : VSky ⟨s.Sheets.filter p, s.Roofs, s.Sightings.filter q⟩ := by
  obtain ⟨n1, n2, hr, h1, h2⟩ := h
  rw [sheets_pair] at h1
  rw [sights_pair] at h2
  refine ⟨Nat.le_trans (List.length_filter_le _ _) n1, Nat.le_trans (List.length_filter_le _ _) n2, hr, sheets_pair.2 ⟨fun x hx => h1.1 x (List.mem_filter.1 hx).1, h1.2.filter _⟩, sights_pair.2 ⟨fun x hx => h2.1 x (List.mem_filter.1 hx).1, h2.2.filter _⟩⟩
end Go.Proofs.Ytdhjccionnbljaa
namespace Go.Proofs.Ytdhjccionnbljaa
open Go Go.Sx
open Classical
theorem abP_3 (k : Tknown) (t : Int) : abP k t = 0 ∨ abP k t = 1 ∨ abP k t = 2 := by
  unfold abP; split
  · exact .inr (.inl rfl)
  · split
    · exact .inl rfl
    · exact .inr (.inr rfl)
end Go.Proofs.Ytdhjccionnbljaa
namespace Go.Proofs.Ytdhjccionnbljaa
open Go Go.Sx
open Classical
theorem rinForce_eq (s : TSky) (hl : s.Sheets.length ≤ 60) (n a : Int) : ∃ j : Int, m_R02_inForce s n a = some j ∧ ((j < 0 ∧ inF s.Sheets n a = none) ∨ ∃ (q : Nat) (h : q < s.Sheets.length), j = q ∧ inF s.Sheets n a = some s.Sheets[q]) := by
  obtain ⟨e, he, i, j, hj, rfl⟩ := loopF_rule (body := m_R02_inForce_L1 s n a) (fun st => ∃ (k : Nat) (j : Int) (acc : Option TSheet), k ≤ s.Sheets.length ∧ ((j < 0 ∧ acc = none) ∨ ∃ (q : Nat) (h : q < s.Sheets.length), j = q ∧ acc = some s.Sheets[q]) ∧ (s.Sheets.drop k).foldl (inFs n a) acc = inF s.Sheets n a ∧ st = (j, (k : Int))) (fun st => s.Sheets.length - st.2.toNat) (fun st => ∃ (i j : Int), ((j < 0 ∧ inF s.Sheets n a = none) ∨ ∃ (q : Nat) (h : q < s.Sheets.length), j = q ∧ inF s.Sheets n a = some s.Sheets[q]) ∧ st = (j, i)) (by
    rintro st ⟨k, j, acc, hk, hj, hf, rfl⟩
    unfold m_R02_inForce_L1
    by_cases h1 : (k : Int) < (s.Sheets.length : Int)
    rotate_left
    · left
      rw [List.drop_of_length_le (by omega)] at hf
      simp only [List.foldl_nil] at hf
      subst hf
      exact ⟨(j, (k : Int)), by simp only [h1, decide_false, Bool.false_eq_true, if_false], (k : Int), j, hj, rfl⟩
    right
    have hkl : k < s.Sheets.length := by omega
    have w7 : W ((k : Int) + 1) = ((k + 1 : Nat) : Int) := by rw [W_s (by omega)]; rfl
    rw [foldl_drop hkl] at hf
    simp only [h1, decide_true, if_true, idx_nat hkl, Option.bind_some, rcounts_eq, w7]
    have go : ∀ (j' : Int) (acc' : Option TSheet), ((j' < 0 ∧ acc' = none) ∨ ∃ (q : Nat) (h : q < s.Sheets.length), j' = q ∧ acc' = some s.Sheets[q]) → inFs n a acc s.Sheets[k] = acc' → ∃ s', some (Sum.inl (j', ((k + 1 : Nat) : Int)) : Sum (Int × Int) (Int × Int)) = some (.inl s') ∧ (∃ (k : Nat) (j : Int) (acc : Option TSheet), k ≤ s.Sheets.length ∧ ((j < 0 ∧ acc = none) ∨ ∃ (q : Nat) (h : q < s.Sheets.length), j = q ∧ acc = some s.Sheets[q]) ∧ (s.Sheets.drop k).foldl (inFs n a) acc = inF s.Sheets n a ∧ s' = (j, (k : Int))) ∧ s.Sheets.length - s'.2.toNat < s.Sheets.length - k := by
      intro j' acc' hj' ha
      rw [ha] at hf
      exact ⟨_, rfl, ⟨k + 1, j', acc', by omega, hj', hf, rfl⟩, by simp only; omega⟩
    by_cases c1 : s.Sheets[k].Night = n
    · by_cases c2 : cnt s.Sheets[k].Known s.Sheets[k].Until a = true
      · simp only [c1, beq_self_eq_true, if_true, c2]
        rcases hj with ⟨hj, rfl⟩ | ⟨q, hq, rfl, rfl⟩
        · simp only [hj, decide_true, if_true]
          exact go _ _ (.inr ⟨k, hkl, rfl, rfl⟩) (by unfold inFs; rw [if_pos ⟨c1, c2⟩])
        · have hn : ¬ (q : Int) < 0 := by omega
          have h0 : (if (0 : Int) > (q : Int) then 0 else (q : Int)) = (q : Int) := by rw [if_neg]; omega
          simp only [hn, decide_false, Bool.false_eq_true, if_false, h0, idx_nat hq, Option.bind_some]
          by_cases c3 : s.Sheets[k].Known ≥ s.Sheets[q].Known
          · simp only [c3, decide_true, if_true]
            exact go _ _ (.inr ⟨k, hkl, rfl, rfl⟩) (by unfold inFs; rw [if_pos ⟨c1, c2⟩]; simp only [c3, if_true])
          · simp only [c3, decide_false, Bool.false_eq_true, if_false]
            exact go _ _ (.inr ⟨q, hq, rfl, rfl⟩) (by unfold inFs; rw [if_pos ⟨c1, c2⟩]; simp only [c3, if_false])
      · have c2' : cnt s.Sheets[k].Known s.Sheets[k].Until a = false := by simpa using c2
        simp only [c1, beq_self_eq_true, if_true, c2', Bool.false_eq_true, if_false]
        exact go _ _ hj (by unfold inFs; rw [if_neg (fun h => c2 h.2)])
    · have c1' : (s.Sheets[k].Night == n) = false := beq_false_of_ne c1
      simp only [c1', Bool.false_eq_true, if_false]
      exact go _ _ hj (by unfold inFs; rw [if_neg (fun h => c1 h.1)])) (-1, 0) ⟨0, -1, none, by omega, .inl ⟨by omega, rfl⟩, rfl, rfl⟩ (lt_FUEL (by simp only; omega))
  refine ⟨j, ?_, hj⟩
  unfold m_R02_inForce
  rw [he]; rfl
structure InSl (sl : TSlip) (d : TFrac) : Prop where
  lo : fcmp sl.Lo d < 0 ∨ (fcmp sl.Lo d = 0 ∧ sl.Open = false)
  hi : fcmp d sl.Hi ≤ 0
theorem abP_one_iff {k : Tknown} {t : Int} : abP k t = 1 ↔ (fcmp k.slip.Lo (eg k.Sheet k.roofs t) > 0 ∨ (fcmp k.slip.Lo (eg k.Sheet k.roofs t) = 0 ∧ k.slip.Open = true)) := by
  unfold abP
  constructor
  · intro h
    split at h
    · assumption
    · split at h <;> simp at h
  · intro h; rw [if_pos h]
theorem abP_zero_hi {k : Tknown} {t : Int} (h : abP k t = 0) : fcmp k.slip.Hi (eg k.Sheet k.roofs t) ≤ 0 := by
  unfold abP at h
  split at h
  · simp at h
  · split at h
    · assumption
    · simp at h
theorem abP_true {k : Tknown} (hk : KOK k) {t : Int} (ht : 0 ≤ t ∧ t ≤ 1439) {d : TFrac} (hd : 0 < d.Den) (h : InSl k.slip d) : (abP k t = 1 → fcmp d (eg k.Sheet k.roofs t) > 0) ∧ (abP k t = 0 → ¬ fcmp d (eg k.Sheet k.roofs t) > 0) := by
  have de : 0 < (eg k.Sheet k.roofs t).Den := (edge_eq hk.sh hk.rf ht).2.den
  have dl := hk.sl.lo.den
  have dh := hk.sl.hi.den
  constructor
  · intro h1
    rcases abP_one_iff.1 h1 with h1 | ⟨h1, h2⟩
    · have a : fcmp (eg k.Sheet k.roofs t) k.slip.Lo < 0 := by rw [fcmp_anti]; omega
      have b : fcmp k.slip.Lo d ≤ 0 := by rcases h.lo with h | ⟨h, _⟩ <;> omega
      have := fcmp_lt.2 (frac_trans_lt de dl hd (fcmp_lt.1 a) (fcmp_le.1 b))
      rw [fcmp_anti]; omega
    · have a : fcmp k.slip.Lo d < 0 := by
        rcases h.lo with h | ⟨_, h⟩
        · exact h
        · rw [h2] at h; cases h
      refine Int.not_le.1 fun hc => ?_
      have b : fcmp (eg k.Sheet k.roofs t) k.slip.Lo ≤ 0 := by rw [fcmp_anti]; omega
      have c := frac_trans hd de dl (fcmp_le.1 hc) (fcmp_le.1 b)
      have := fcmp_lt.1 a
      omega
  · intro h0 hc
    have a := abP_zero_hi h0
    have := fcmp_le.2 (frac_trans hd dh de (fcmp_le.1 h.hi) (fcmp_le.1 a))
    omega
end Go.Proofs.Ytdhjccionnbljaa
namespace Go.Proofs.Ytdhjccionnbljaa
open Go Go.Sx
open Classical
theorem rCheckSighting_eq (x : TSighting) : m_R02_CheckSighting x = m_moon_CheckSighting x := by
  unfold m_R02_CheckSighting m_moon_CheckSighting
  have a : m_R02_areTimes x.Known x.Until = m_moon_lasts x.Known x.Until := by rw [areTimes_eq, lasts_eq]
  have b : m_R02_isNight x.Night = m_moon_isNight x.Night := rfl
  have c : m_R02_isMinute x.Minute = m_moon_isMinute x.Minute := by rw [risMinute_eq, isMinute_eq]
  have d : m_R02_In x.Source 1 99999 = m_moon_within x.Source 1 99999 := rfl
  rw [a, b, c, d]
theorem rC1 (s : TSky) : m_R02_Check_L1 s = m_moon_Check_L1 s := by
  funext i
  unfold m_R02_Check_L1 m_moon_Check_L1
  cases h : idx s.Sheets i with
  | none => rfl
  | some e => simp only [Option.bind_some, CheckSheet_eq, rCheckSheet_eq]
theorem rC2 (s : TSky) : m_R02_Check_L2 s = m_moon_Check_L2 s := by
  funext i
  unfold m_R02_Check_L2 m_moon_Check_L2
  cases h : idx s.Sightings i with
  | none => rfl
  | some e => simp only [Option.bind_some, rCheckSighting_eq]
theorem rCheck_eq (s : TSky) (hr : s.Roofs.length ≤ maxLen) : m_R02_Check s = some (if VSky s then 0 else 24) := by
  rw [← Check_eq s hr]
  unfold m_R02_Check m_moon_Check
  rw [rC1, rC2, rareRoofs_eq, areRoofs_eq _ hr] <;> rfl
end Go.Proofs.Ytdhjccionnbljaa
namespace Go.Proofs.Ytdhjccionnbljaa
open Go Go.Sx
open Classical
noncomputable def shP (k : Tknown) (t : Int) (above : Bool) : TFrac × Int :=
  if above = true then (if fcmp k.slip.Hi (eg k.Sheet k.roofs t) ≤ 0 then (⟨0, 0⟩, 3) else (k.slip.Hi, 0))
  else if fcmp (eg k.Sheet k.roofs t) k.slip.Hi > 0 then (if InSl k.slip k.slip.Hi then (k.slip.Hi, 0) else (⟨0, 0⟩, 3))
  else if InSl k.slip (eg k.Sheet k.roofs t) then (eg k.Sheet k.roofs t, 0) else (⟨0, 0⟩, 3)
end Go.Proofs.Ytdhjccionnbljaa
namespace Go.Proofs.Ytdhjccionnbljaa
open Go Go.Sx
open Classical
theorem InSl.top {sl : TSlip} (hs : ESlip sl) {d : TFrac} (hd : 0 < d.Den) (h : InSl sl d) : InSl sl sl.Hi := by
  have hh := fcmp_le.1 h.hi
  refine ⟨?_, fcmp_le.2 (Int.le_refl _)⟩
  rcases h.lo with h1 | ⟨h1, h2⟩
  · exact .inl (fcmp_lt.2 (frac_trans_lt hs.lo.den hd hs.hi.den (fcmp_lt.1 h1) hh))
  · have := fcmp_le.2 (frac_trans hs.lo.den hd hs.hi.den (fcmp_le.1 (by omega)) hh)
    rcases Int.lt_or_eq_of_le this with h | h
    · exact .inl h
    · exact .inr ⟨h, h2⟩
theorem fpos {x y : TFrac} : fcmp x y > 0 ↔ fcmp y x < 0 := by rw [fcmp_anti y x]; omega
structure ShownAt (k : Tknown) (t : Int) : Prop where
  hi : fcmp k.slip.Hi (eg k.Sheet k.roofs t) > 0 ↔ abP k t ≠ 0
  lo : fcmp k.slip.Lo (eg k.Sheet k.roofs t) > 0 → abP k t = 1
  lo' : k.slip.Open = false → abP k t = 1 → fcmp k.slip.Lo (eg k.Sheet k.roofs t) > 0
  yes : (shP k t true).2 = 0 ↔ abP k t ≠ 0
  no : (shP k t false).2 = 0 ↔ abP k t ≠ 1
  yes' : abP k t ≠ 0 → InSl k.slip (shP k t true).1 ∧ Edge (shP k t true).1 ∧ fcmp (shP k t true).1 (eg k.Sheet k.roofs t) > 0
  no' : abP k t ≠ 1 → InSl k.slip (shP k t false).1 ∧ Edge (shP k t false).1 ∧ ¬ fcmp (shP k t false).1 (eg k.Sheet k.roofs t) > 0
theorem shown_at {k : Tknown} (hk : KOK k) {d : TFrac} (hd : 0 < d.Den) (h : InSl k.slip d) {t : Int} (ht : 0 ≤ t ∧ t ≤ 1439) : ShownAt k t := by
  have hE := (edge_eq hk.sh hk.rf ht).2
  have top := h.top hk.sl hd
  have dl := hk.sl.lo.den
  have dh := hk.sl.hi.den
  have hhi : fcmp k.slip.Hi (eg k.Sheet k.roofs t) > 0 ↔ abP k t ≠ 0 := by
    constructor
    · intro h1 h0; have := abP_zero_hi h0; omega
    · intro h0
      by_cases h1 : abP k t = 1
      · exact (abP_true hk ht dh top).1 h1
      · by_cases c1 : fcmp k.slip.Lo (eg k.Sheet k.roofs t) > 0 ∨ (fcmp k.slip.Lo (eg k.Sheet k.roofs t) = 0 ∧ k.slip.Open = true)
        · exact absurd (abP_one_iff.2 c1) h1
        · refine Int.not_le.1 fun c2 => h0 ?_
          unfold abP; rw [if_neg c1, if_pos c2]
  have hyes : shP k t true = if fcmp k.slip.Hi (eg k.Sheet k.roofs t) ≤ 0 then (⟨0, 0⟩, 3) else (k.slip.Hi, 0) := by unfold shP; simp
  have hno : shP k t false = if fcmp (eg k.Sheet k.roofs t) k.slip.Hi > 0 then (if InSl k.slip k.slip.Hi then (k.slip.Hi, 0) else (⟨0, 0⟩, 3)) else if InSl k.slip (eg k.Sheet k.roofs t) then (eg k.Sheet k.roofs t, 0) else (⟨0, 0⟩, 3) := by unfold shP; simp
  have hself : fcmp (eg k.Sheet k.roofs t) (eg k.Sheet k.roofs t) = 0 := by unfold fcmp cmpI; simp
  have nos : (abP k t ≠ 1 → (shP k t false).2 = 0 ∧ InSl k.slip (shP k t false).1 ∧ Edge (shP k t false).1 ∧ ¬ fcmp (shP k t false).1 (eg k.Sheet k.roofs t) > 0) ∧ (abP k t = 1 → (shP k t false).2 ≠ 0) := by
    rw [hno]
    by_cases c1 : fcmp (eg k.Sheet k.roofs t) k.slip.Hi > 0
    · have c2 := fpos.1 c1
      rw [if_pos c1, if_pos top]
      refine ⟨fun _ => ⟨rfl, top, hk.sl.hi, by show ¬ fcmp k.slip.Hi _ > 0; omega⟩, fun h1 => ?_⟩
      have := hhi.2 (by omega)
      omega
    · rw [if_neg c1]
      by_cases c2 : InSl k.slip (eg k.Sheet k.roofs t)
      · rw [if_pos c2]
        refine ⟨fun _ => ⟨rfl, c2, hE, by show ¬ fcmp (eg k.Sheet k.roofs t) _ > 0; omega⟩, fun h1 => ?_⟩
        rcases abP_one_iff.1 h1 with h1 | ⟨h1, h2⟩
        · rcases c2.lo with h | ⟨h, _⟩ <;> omega
        · rcases c2.lo with h | ⟨_, h⟩
          · omega
          · rw [h2] at h; cases h
      · rw [if_neg c2]
        refine ⟨fun h1 => absurd ?_ c2, fun _ => by simp⟩
        refine ⟨?_, by omega⟩
        by_cases c3 : fcmp k.slip.Lo (eg k.Sheet k.roofs t) < 0
        · exact .inl c3
        · by_cases c4 : fcmp k.slip.Lo (eg k.Sheet k.roofs t) = 0
          · cases hO : k.slip.Open
            · exact .inr ⟨c4, rfl⟩
            · exact absurd (abP_one_iff.2 (.inr ⟨c4, hO⟩)) h1
          · exact absurd (abP_one_iff.2 (.inl (by omega))) h1
  refine ⟨hhi, fun h => abP_one_iff.2 (.inl h), fun ho h1 => ?_, ?_, ?_, fun h0 => ?_, fun h1 => (nos.1 h1).2⟩
  · rcases abP_one_iff.1 h1 with h | ⟨_, h⟩
    · exact h
    · rw [ho] at h; cases h
  · rw [hyes, ← hhi]
    by_cases c : fcmp k.slip.Hi (eg k.Sheet k.roofs t) ≤ 0
    · rw [if_pos c]; simp; omega
    · rw [if_neg c]; simp; omega
  · constructor
    · intro h h1; exact nos.2 h1 h
    · intro h; exact (nos.1 h).1
  · have c := hhi.2 h0
    rw [hyes, if_neg (by omega)]
    exact ⟨top, hk.sl.hi, c⟩
end Go.Proofs.Ytdhjccionnbljaa
namespace Go.Proofs.Ytdhjccionnbljaa
open Go Go.Sx
open Classical
theorem rsg_ex (s : TSky) (hl : s.Sightings.length ≤ 60) (n a : Int) : ∃ L : List Nat, m_R02_sightings s (n, a) = some (L.map fun i : Nat => (i : Int)) ∧ L.length ≤ 60 ∧ (L.map fun i => s.Sightings[i]?) = (sg s.Sightings n a).map some := by
  obtain ⟨e, he, L, i, rfl, hL, hq⟩ := loopF_rule (body := m_R02_sightings_L1 s (n, a)) (fun st => ∃ (k : Nat) (L : List Nat), k ≤ s.Sightings.length ∧ L.length ≤ k ∧ (L.map fun i => s.Sightings[i]?) = (sg (s.Sightings.take k) n a).map some ∧ st = (L.map fun i : Nat => (i : Int), (k : Int)))
    (fun st => s.Sightings.length - st.2.toNat) (fun e => ∃ (L : List Nat) (i : Int), e = (L.map fun i : Nat => (i : Int), i) ∧ L.length ≤ 60 ∧ (L.map fun i => s.Sightings[i]?) = (sg s.Sightings n a).map some) (by
    rintro st ⟨k, L, hk, hn, hf, rfl⟩
    unfold m_R02_sightings_L1
    by_cases h1 : (k : Int) < (s.Sightings.length : Int)
    rotate_left
    · left
      rw [List.take_of_length_le (by omega)] at hf
      exact ⟨_, by simp only [h1, decide_false, Bool.false_eq_true, if_false], L, (k : Int), rfl, by omega, hf⟩
    right
    have hkl : k < s.Sightings.length := by omega
    have w1 : W ((k : Int) + 1) = ((k + 1 : Nat) : Int) := by rw [W_s (by omega)]; rfl
    have ht : sg (s.Sightings.take (k + 1)) n a = sg (s.Sightings.take k) n a ++ (if sgf n a s.Sightings[k] = true then [s.Sightings[k]] else []) := by
      unfold sg
      rw [List.take_succ_eq_append_getElem hkl, List.filter_append]
      congr 1
      by_cases c : sgf n a s.Sightings[k] = true <;> simp [c]
    simp only [h1, decide_true, if_true, idx_nat hkl, Option.bind_some, rcounts_eq, w1]
    by_cases c1 : s.Sightings[k].Night = n
    · by_cases c2 : cnt s.Sightings[k].Known s.Sightings[k].Until a = true
      · have hs : sgf n a s.Sightings[k] = true := by unfold sgf; simp [c1, c2]
        simp only [c1, beq_self_eq_true, if_true, c2]
        refine ⟨_, by unfold gd; rw [if_pos (by simp only [List.length_map, List.length_singleton]; omega)], ⟨k + 1, L ++ [k], by omega, by simp; omega, ?_, by simp⟩, by simp only; omega⟩
        rw [ht, if_pos hs]
        rw [List.map_append, List.map_append, hf]; simp [hkl]
      · have hs : ¬ sgf n a s.Sightings[k] = true := by unfold sgf; simp [c1, c2]
        rw [if_neg hs, List.append_nil] at ht
        have c2' : cnt s.Sightings[k].Known s.Sightings[k].Until a = false := by simpa using c2
        simp only [c1, beq_self_eq_true, if_true, c2', Bool.false_eq_true, if_false]
        exact ⟨_, rfl, ⟨k + 1, L, by omega, by omega, by rw [ht]; exact hf, rfl⟩, by simp only; omega⟩
    · have hs : ¬ sgf n a s.Sightings[k] = true := by unfold sgf; simp [c1]
      rw [if_neg hs, List.append_nil] at ht
      have c1' : (s.Sightings[k].Night == n) = false := beq_false_of_ne c1
      simp only [c1', Bool.false_eq_true, if_false]
      exact ⟨_, rfl, ⟨k + 1, L, by omega, by omega, by rw [ht]; exact hf, rfl⟩, by simp only; omega⟩) ([], 0) ⟨0, [], by omega, by simp, by simp [sg], rfl⟩ (lt_FUEL (by simp only; omega))
  refine ⟨L, ?_, hL, hq⟩
  unfold m_R02_sightings
  rw [he]; rfl
theorem F2_get {α β : Type} {f : α → Option β} {l : List α} {m : List β} (h : l.map f = m.map some) : l.length = m.length ∧ ∀ j (h : j < l.length) (h' : j < m.length), f l[j] = some m[j] := by
  have hl : l.length = m.length := by simpa using congrArg List.length h
  refine ⟨hl, fun j h1 h2 => ?_⟩
  have := congrArg (fun q => q[j]?) h
  simpa [h1, h2] using this
def zeroSlip : TSlip := ⟨⟨0, 0⟩, false, ⟨0, 0⟩⟩
theorem rslip_eq {s : TSky} {x : TSheet} (hs : VSheet x) (hl : VRoofs s.Roofs) {L : List Nat} {ys : List TSighting} (hL : L.length ≤ 60) (h2 : (L.map fun i => s.Sightings[i]?) = ys.map some) (hy : ∀ y, y ∈ ys → 0 ≤ y.Minute ∧ y.Minute ≤ 1439) :
    m_R02_slip s x (L.map fun i : Nat => (i : Int)) = some (if emp (slp x s.Roofs ys) = true then (zeroSlip, false) else (slp x s.Roofs ys, true)) := by
  obtain ⟨hlen, hget⟩ := F2_get h2
  have hnum : I64 x.Off.Num := by have := hs.off0; have := hs.off1; have := vf_iff.1 hs.off; constructor <;> omega
  have hden := (vf_iff.1 hs.off).1
  have hden2 := (vf_iff.1 hs.off).2.1
  have e0 : W (0 - x.Off.Num) = -x.Off.Num := by rw [W_id (by have := hs.off0; have := hs.off1; omega)]; omega
  have f1 : m_R02_frac (W (0 - x.Off.Num)) x.Off.Den = some (neg (off x)) := by
    rw [e0, frac_eq (by have := hs.off0; have := hs.off1; constructor <;> omega) (by omega) (by constructor <;> omega), rd_neg]; rfl
  have f2 : m_R02_frac x.Off.Num x.Off.Den = some (off x) := frac_eq hnum (by omega) (by constructor <;> omega)
  obtain ⟨e, he, i, rfl⟩ := loopF_rule (body := m_R02_slip_L1 s x (L.map fun i : Nat => (i : Int))) (fun st => ∃ (k : Nat) (sl : TSlip), k ≤ ys.length ∧ ESlip sl ∧ (ys.drop k).foldl (slS x s.Roofs) sl = slp x s.Roofs ys ∧ st = ((k : Int), sl.Lo.Num, sl.Lo.Den, sl.Open, sl.Hi.Num, sl.Hi.Den))
    (fun st => ys.length - st.1.toNat) (fun e => ∃ i : Int, e = (i, (slp x s.Roofs ys).Lo.Num, (slp x s.Roofs ys).Lo.Den, (slp x s.Roofs ys).Open, (slp x s.Roofs ys).Hi.Num, (slp x s.Roofs ys).Hi.Den)) (by
    rintro st ⟨j, sl, hj, hes, hf, rfl⟩
    unfold m_R02_slip_L1
    by_cases hlt : j < ys.length
    · right
      have h1 : (j : Int) < ((L.map fun i : Nat => (i : Int)).length : Int) := by rw [List.length_map]; omega
      rw [foldl_drop hlt] at hf
      have hm := hy _ (List.getElem_mem hlt)
      obtain ⟨_, e1, hE, _⟩ := mg_eq hs hl hm
      refine ⟨_, ?_, ⟨j + 1, slS x s.Roofs sl ys[j], by omega, slS_ok hs hl hes hm, hf, rfl⟩, by simp only; omega⟩
      have hw : W ((j : Int) + 1) = ((j + 1 : Nat) : Int) := by rw [W_s (by omega)]; rfl
      have i1 : idx (L.map fun i : Nat => (i : Int)) (j : Int) = some (L[j] : Int) := by
        have := idx_nat (l := L.map fun i : Nat => (i : Int)) (k := j) (by simp; omega)
        simpa using this
      have i2 : idx s.Sightings (L[j] : Int) = some ys[j] := by
        have h := hget j (by omega) hlt
        unfold idx; simpa using h
      simp only [h1, decide_true, if_true, i1, i2, Option.bind_some, hw]
      rw [e1, Option.bind_some, rminus_eq hE.sm.I.1, Option.bind_some]
      have c1 := sign_eq (x := eg x s.Roofs ys[j].Minute) (y := ⟨sl.Lo.Num, sl.Lo.Den⟩) hE.neg.sm hes.lo.sm
      have c2 := sign_eq (x := eg x s.Roofs ys[j].Minute) (y := ⟨sl.Hi.Num, sl.Hi.Den⟩) hE.neg.sm hes.hi.sm
      have eeq : neg (mg x s.Roofs ys[j].Minute) = eg x s.Roofs ys[j].Minute := rfl
      simp only [eeq, c1, c2, Option.bind_some]
      have ge0 : fcmp (eg x s.Roofs ys[j].Minute) sl.Lo ≥ 0 ↔ fcmp (eg x s.Roofs ys[j].Minute) sl.Lo > 0 ∨ fcmp (eg x s.Roofs ys[j].Minute) sl.Lo = 0 := by omega
      unfold slS
      simp only [ge0]
      by_cases ha : ys[j].Above = true
      · by_cases hc : fcmp (eg x s.Roofs ys[j].Minute) sl.Lo > 0
        · simp [ha, hc]
        · by_cases hd : fcmp (eg x s.Roofs ys[j].Minute) sl.Lo = 0
          · simp [ha, hd]
          · simp [ha, hc, hd]
      · by_cases hc : fcmp (eg x s.Roofs ys[j].Minute) sl.Hi < 0
        · simp [ha, hc]
        · simp [ha, hc]
    · left
      have h1 : ¬ (j : Int) < ((L.map fun i : Nat => (i : Int)).length : Int) := by rw [List.length_map]; omega
      rw [List.drop_of_length_le (by omega)] at hf
      simp only [List.foldl_nil] at hf
      subst hf
      exact ⟨_, by simp only [h1, decide_false, Bool.false_eq_true, if_false], j, rfl⟩) (0, (neg (off x)).Num, (neg (off x)).Den, false, (off x).Num, (off x).Den) ⟨0, slip0 x, by omega, slip0_ok hs, rfl, rfl⟩ (lt_FUEL (by first | omega | (simp only; omega)))
  have hes := slp_ok hs hl hy
  unfold m_R02_slip
  simp only [f1, f2, Option.bind_some, he]
  rw [sign_eq (x := ⟨(slp x s.Roofs ys).Lo.Num, (slp x s.Roofs ys).Lo.Den⟩) (y := ⟨(slp x s.Roofs ys).Hi.Num, (slp x s.Roofs ys).Hi.Den⟩) hes.lo.sm hes.hi.sm, Option.bind_some]
  unfold emp
  by_cases h1 : fcmp (slp x s.Roofs ys).Lo (slp x s.Roofs ys).Hi > 0
  · simp [h1, zeroSlip]
  · by_cases h3 : fcmp (slp x s.Roofs ys).Lo (slp x s.Roofs ys).Hi = 0
    · cases hO : (slp x s.Roofs ys).Open
      · simp [h3, hO]; cases hQ : slp x s.Roofs ys; rw [hQ] at hO; simp at hO ⊢; exact hO.symm ▸ rfl
      · simp [h3, zeroSlip]
    · simp [h1, h3]
theorem rslipOf_eq {s : TSky} {n a : Int} {mins : List Int} {k : Tknown} (hk : lookP s n a mins = (some k, 0)) : m_R02_slipOf s (n, a) = some (if emp k.slip = true then (zeroSlip, k.Sheet, 26) else (k.slip, k.Sheet, 0)) := by
  obtain ⟨_, hok, hv, _, x, hx, rfl⟩ := lookP_ok hk
  obtain ⟨j, ej, hj⟩ := rinForce_eq s hv.n1 n a
  obtain ⟨L, eL, hL, h2⟩ := rsg_ex s hv.n2 n a
  unfold m_R02_slipOf
  simp only [ej, Option.bind_some]
  rcases hj with ⟨_, h0⟩ | ⟨q, hq, rfl, h0⟩
  · rw [h0] at hx; cases hx
  · rw [h0] at hx; cases hx
    rw [idx_nat hq, Option.bind_some, eL, Option.bind_some, rslip_eq hok.sh hv.roofs hL h2 hok.sg, Option.bind_some]
    by_cases he : emp (slp s.Sheets[q] s.Roofs (sg s.Sightings n a)) = true
    · simp [he, zeroSlip]
    · simp [he]
theorem emp_in {sl : TSlip} (hs : ESlip sl) (h : emp sl = false) : InSl sl sl.Hi := by
  unfold emp at h
  have h := of_decide_eq_false h
  have hd := hs.hi.den
  refine ⟨?_, by unfold fcmp cmpI; simp⟩
  by_cases h1 : fcmp sl.Lo sl.Hi < 0
  · exact .inl h1
  · by_cases h2 : fcmp sl.Lo sl.Hi = 0
    · cases hO : sl.Open
      · exact .inr ⟨h2, rfl⟩
      · exact absurd (.inr ⟨h2, hO⟩) h
    · exact absurd (.inl (by omega)) h
theorem rabove_eq {k : Tknown} (hk : KOK k) (he : emp k.slip = false) {t : Int} (ht : 0 ≤ t ∧ t ≤ 1439) : m_R02_above k.slip (mg k.Sheet k.roofs t) = some (abP k t) := by
  obtain ⟨_, _, mE, _⟩ := mg_eq hk.sh hk.rf ht
  have at_ := shown_at hk hk.sl.hi.den (emp_in hk.sl he) ht
  have eeq : neg (mg k.Sheet k.roofs t) = eg k.Sheet k.roofs t := rfl
  have eE : Edge (eg k.Sheet k.roofs t) := mE.neg
  unfold m_R02_above
  rw [rminus_eq mE.sm.I.1, Option.bind_some, eeq, sign_eq hk.sl.hi.sm eE.sm, Option.bind_some]
  by_cases h0 : fcmp k.slip.Hi (eg k.Sheet k.roofs t) ≤ 0
  · have : abP k t = 0 := by
      by_cases c : abP k t = 0
      · exact c
      · have := at_.hi.2 c; omega
    simp [h0, this]
  · have hn0 : abP k t ≠ 0 := at_.hi.1 (by omega)
    rw [sign_eq hk.sl.lo.sm eE.sm]
    simp only [h0, decide_false, Bool.false_eq_true, if_false, Option.bind_some]
    unfold abP
    by_cases h1 : fcmp k.slip.Lo (eg k.Sheet k.roofs t) > 0
    · simp [h1]
    · by_cases h2 : fcmp k.slip.Lo (eg k.Sheet k.roofs t) = 0
      · cases hO : k.slip.Open <;> simp [h2, h0]
      · simp [h1, h2, h0]
end Go.Proofs.Ytdhjccionnbljaa
namespace Go.Proofs.Ytdhjccionnbljaa
open Go Go.Sx
set_option maxRecDepth 1000000 in
theorem pl_sane : m_L02_sane = some true := by decide +kernel
end Go.Proofs.Ytdhjccionnbljaa
namespace Go.Proofs.Ytdhjccionnbljaa
open Go Go.Sx
open Classical
theorem gd_t {α : Type} {p : Prop} [Decidable p] {k : Option α} (h : p) : gd p k = k := by unfold gd; rw [if_pos h]
def runL {α σ R : Type} (f : σ → α → Sum σ R) : List α → σ → Sum σ R
  | [], s => .inl s
  | x :: l, s => match f s x with | .inl s' => runL f l s' | .inr r => .inr r
theorem runL_foldl {α σ R : Type} (f : σ → α → σ) (l : List α) (s : σ) : runL (R := R) (fun s x => .inl (f s x)) l s = .inl (l.foldl f s) := by
  induction l generalizing s with
  | nil => rfl
  | cons x l ih => exact ih (f s x)
theorem loop_list {α σ S E R : Type} {body : S → Option (Sum S E)} (l : List α) (hl : l.length ≤ 9223372036854775807) (enc : Nat → σ → S) (f : σ → α → Sum σ R) (out : R → E) (fin : σ → E) (P : List α → σ → Prop)
    (h : ∀ pre x post s, l = pre ++ x :: post → P pre s → body (enc pre.length s) = some (match f s x with | .inl s' => .inl (enc (pre.length + 1) s') | .inr r => .inr (out r)) ∧ ∀ s', f s x = .inl s' → P (pre ++ [x]) s')
    (he : ∀ s, P l s → body (enc l.length s) = some (.inr (fin s))) (s0 : σ) (h0 : P [] s0) :
    loopF body (enc 0 s0) = some (match runL f l s0 with | .inl s => fin s | .inr r => out r) := by
  have key : ∀ (post pre : List α) (s : σ) (n : Nat), l = pre ++ post → P pre s → post.length < n → loopO body n (enc pre.length s) = some (match runL f post s with | .inl s => fin s | .inr r => out r) := by
    intro post
    induction post with
    | nil =>
      intro pre s n hp hs hn
      cases n with
      | zero => omega
      | succ n =>
        simp only [List.append_nil] at hp
        subst hp
        simp only [loopO, he s hs, runL]
    | cons x post ih =>
      intro pre s n hp hs hn
      cases n with
      | zero => omega
      | succ n =>
        obtain ⟨h1, h2⟩ := h pre x post s hp hs
        simp only [loopO, h1, runL]
        cases hf : f s x with
        | inl s' =>
          have := ih (pre ++ [x]) s' n (by simp [hp]) (h2 s' hf) (by simp at hn; omega)
          simpa using this
        | inr r => rfl
  exact key l [] s0 FUEL rfl h0 (by unfold FUEL; omega)
@[irreducible] def nums (n : Nat) : List Int := (List.range n).map fun k : Nat => (k : Int)
theorem nums_len (n : Nat) : (nums n).length = n := by unfold nums; rw [List.length_map, List.length_range]
theorem nums_get {n : Nat} {pre post : List Int} {x : Int} (h : nums n = pre ++ x :: post) : x = (pre.length : Int) ∧ pre.length < n := by
  have hx : (nums n)[pre.length]? = some x := by rw [h]; simp
  have hl : pre.length < n := by have := congrArg List.length h; rw [nums_len] at this; simp at this; omega
  unfold nums at hx
  rw [List.getElem?_map, List.getElem?_range hl] at hx
  simp only [Option.map_some, Option.some.injEq] at hx
  exact ⟨hx.symm, hl⟩
theorem pick_fold (l o : List Int) (p : Int → Bool) : l.foldl (fun o x => if p x = true then o ++ [x] else o) o = o ++ l.filter p := by
  induction l generalizing o with
  | nil => simp
  | cons x l ih =>
    simp only [List.foldl_cons, List.filter_cons, ih]
    by_cases h : p x = true <;> simp [h]
theorem pick_loop {S : Type} {body : S → Option (Sum S S)} (enc : Nat → List Int → S) (n : Nat) (hn : n ≤ 1440) (p : Int → Bool)
    (h : ∀ (k : Nat) (o : List Int), k < n → o.length ≤ 1440 → body (enc k o) = some (.inl (enc (k + 1) (if p k = true then o ++ [(k : Int)] else o))))
    (he : ∀ o, body (enc n o) = some (.inr (enc n o))) : loopF body (enc 0 []) = some (enc n ((nums n).filter p)) := by
  have hr := loop_list (body := body) (R := S) (nums n) (by rw [nums_len]; omega) enc (fun o x => .inl (if p x = true then o ++ [x] else o)) id (fun o => enc n o) (fun pre o => o.length ≤ pre.length)
    (fun pre x post o hp ho => by
      obtain ⟨rfl, hl⟩ := nums_get hp
      exact ⟨h _ _ hl (by omega), fun s' hs' => by cases hs'; split <;> simp <;> omega⟩) (fun o _ => by rw [nums_len]; exact he o) [] (by simp)
  rw [hr, runL_foldl, pick_fold]; rfl
theorem fill_loop {body : (Int × List Int) → Option (Sum (Int × List Int) (Int × List Int))} (n : Nat) (hn : n ≤ 1440) (f : Int → Int) {z N : List Int} (hz : List.replicate n 0 = z) (hN : nums n = N)
    (h : ∀ (k : Nat) (v : List Int), k < n → v.length = n → body ((k : Int), v) = some (.inl (((k + 1 : Nat) : Int), v.set k (f k))))
    (he : ∀ v : List Int, v.length = n → body ((n : Int), v) = some (.inr ((n : Int), v))) : loopF body (0, z) = some ((n : Int), N.map f) := by
  subst hz hN
  have hr := loop_list (body := body) (R := Int × List Int) (nums n) (by rw [nums_len]; omega) (fun k (v : List Int) => ((k : Int), v)) (fun v x => .inl (v.set x.toNat (f x))) id (fun v => ((n : Int), v)) (fun pre v => v = pre.map f ++ List.replicate (n - pre.length) 0 ∧ pre.length ≤ n)
    (fun pre x post v hp hv => by
      obtain ⟨rfl, hl⟩ := nums_get hp
      obtain ⟨rfl, _⟩ := hv
      have e : n - pre.length = (n - (pre.length + 1)) + 1 := by omega
      refine ⟨h _ _ hl (by simp; omega), fun s' hs' => ?_⟩
      cases hs'
      refine ⟨?_, by simp; omega⟩
      rw [Int.toNat_natCast, List.set_append_right _ _ (by simp), e, List.replicate_succ]
      simp) (fun v hv => by
      obtain ⟨rfl, _⟩ := hv
      rw [nums_len]
      exact he _ (by simp [nums_len])) (List.replicate n 0) ⟨by simp, by simp⟩
  have h0 : ((0 : Nat) : Int) = 0 := rfl
  simp only [h0] at hr
  rw [hr, runL_foldl]
  have key : ∀ (post pre : List Int), nums n = pre ++ post → post.foldl (fun (v : List Int) x => v.set x.toNat (f x)) (pre.map f ++ List.replicate (n - pre.length) 0) = (nums n).map f := by
    intro post
    induction post with
    | nil =>
      intro pre hp
      have : pre.length = n := by have := congrArg List.length hp; rw [nums_len] at this; simpa using this.symm
      rw [hp, this]; simp
    | cons x post ih =>
      intro pre hp
      obtain ⟨hx, hl⟩ := nums_get hp
      have e : n - pre.length = (n - (pre.length + 1)) + 1 := by omega
      have := ih (pre ++ [x]) (by simp [hp])
      rw [← this, List.foldl_cons]
      congr 1
      rw [hx, Int.toNat_natCast, List.set_append_right _ _ (by simp), e, List.replicate_succ]
      simp
  have := key (nums n) [] rfl
  simp only [List.map_nil, List.nil_append, List.length_nil, Nat.sub_zero] at this
  rw [this]
noncomputable def toldF (s : TSky) (n a t : Int) : Int := match clearP s n a [] with | (none, e) => e | (some k, _) => abP k t
theorem told_err {s : TSky} (hs : VSky s) {n a : Int} (hn : 0 ≤ n ∧ n ≤ 100000) (ha : 0 ≤ a ∧ a ≤ 100000) {e : Int} (h : clearP s n a [] = (none, e)) : e = 25 ∨ e = 26 := by
  have hm : minsOK [] := fun k hk => absurd hk (by simp)
  unfold clearP lookP at h
  simp only [hs, hn, ha, hm, and_self, not_true_eq_false, if_false] at h
  cases hx : inF s.Sheets n a with
  | none => rw [hx] at h; simp at h; omega
  | some x =>
    rw [hx] at h
    simp only at h
    split at h
    · cases h; exact .inr rfl
    · cases h
theorem told_of {s : TSky} {n a q : Int} {sl : TSlip} {x : TSheet} {e t : Int} {v : List Int} (h1 : m_R02_inForce s n a = some q) (h2 : ¬ q < 0) (h3 : m_R02_slipOf s (n, a) = some (sl, x, e))
    (h4 : ∀ z, List.replicate 1440 (0 : Int) = z → loopF (m_R02_told_L2 s sl x e) (0, z) = some (t, v)) : m_R02_told s (n, a) = some v := by
  unfold m_R02_told
  generalize hz : List.replicate 1440 (0 : Int) = z
  simp only [h1, h2, h3, h4 z hz, Option.bind_some, decide_false, Bool.false_eq_true, if_false]
theorem told_no {s : TSky} {n a q : Int} {t : Int} {v : List Int} (h1 : m_R02_inForce s n a = some q) (h2 : q < 0)
    (h4 : ∀ z, List.replicate 1440 (0 : Int) = z → loopF m_R02_told_L1 (0, z) = some (t, v)) : m_R02_told s (n, a) = some v := by
  unfold m_R02_told
  generalize hz : List.replicate 1440 (0 : Int) = z
  rw [h1]
  show (if decide (q < 0) = true then Option.bind (loopF m_R02_told_L1 (0, z)) (fun x => some x.2) else _) = _
  rw [if_pos (by simpa using h2), h4 z hz]
  rfl
theorem told_L2_err {s : TSky} {sl : TSlip} {x : TSheet} {e : Int} (he : e ≠ 0) {N z : List Int} (hz : List.replicate 1440 (0 : Int) = z) (hN : nums 1440 = N) : loopF (m_R02_told_L2 s sl x e) (0, z) = some (((1440 : Nat) : Int), N.map fun _ => e) :=
  fill_loop 1440 (by omega) (fun _ => e) hz hN (fun k v hk hv => by
    unfold m_R02_told_L2
    have c : (k : Int) < (v.length : Int) := by omega
    have hkv : k < v.length := by omega
    have e26 : (e != 0) = true := by simpa using he
    simp only [c, decide_true, if_true, e26, idx_nat hkv, Option.bind_some, Int.toNat_natCast, W_s (k := k) (by omega)]
    rfl) (fun v hv => by unfold m_R02_told_L2; simp [hv])
theorem told_eq {s : TSky} (hs : VSky s) {n a : Int} (hn : 0 ≤ n ∧ n ≤ 100000) (ha : 0 ≤ a ∧ a ≤ 100000) {N : List Int} (hN : nums 1440 = N) : m_R02_told s (n, a) = some (N.map (toldF s n a)) := by
  have hm : minsOK [] := fun k hk => absurd hk (by simp)
  obtain ⟨j, ej, hj⟩ := rinForce_eq s hs.n1 n a
  have look : lookP s n a [] = match inF s.Sheets n a with | none => (none, 25) | some x => (some ⟨x, s.Roofs, sg s.Sightings n a, slp x s.Roofs (sg s.Sightings n a)⟩, 0) := by
    unfold lookP
    simp only [hs, hn, ha, hm, and_self, not_true_eq_false, if_false]
    try rfl
  have hmap : ∀ f : Int → Int, (∀ t, f t = toldF s n a t) → some (N.map f) = some (N.map (toldF s n a)) := fun f h => by rw [funext h]
  rcases hj with ⟨hj, hx⟩ | ⟨q, hq, rfl, hx⟩
  · have hc : clearP s n a [] = (none, 25) := by unfold clearP; rw [look, hx]
    refine (told_no ej hj fun z hz => fill_loop (body := m_R02_told_L1) 1440 (by omega) (fun _ => 25) hz hN (fun k v hk hv => by
      unfold m_R02_told_L1
      have c : (k : Int) < (v.length : Int) := by omega
      have hkv : k < v.length := by omega
      simp only [c, decide_true, if_true, idx_nat hkv, Option.bind_some, Int.toNat_natCast, W_s (k := k) (by omega)]
      rfl) (fun v hv => by unfold m_R02_told_L1; simp [hv])).trans (hmap _ fun t => by unfold toldF; rw [hc])
  · have hnl : ¬ (q : Int) < 0 := by omega
    rw [hx] at look
    simp only at look
    obtain ⟨_, hok, _⟩ := lookP_ok look
    generalize hk : (⟨s.Sheets[q], s.Roofs, sg s.Sightings n a, slp s.Sheets[q] s.Roofs (sg s.Sightings n a)⟩ : Tknown) = k at *
    have hR : k.roofs = s.Roofs := by rw [← hk]
    have hsl := rslipOf_eq look
    cases he : emp k.slip
    · have hc : clearP s n a [] = (some k, 0) := by unfold clearP; rw [look]; simp [he]
      rw [he, if_neg Bool.false_ne_true] at hsl
      refine (told_of ej hnl hsl fun z hz => fill_loop (body := m_R02_told_L2 s k.slip k.Sheet 0) 1440 (by omega) (fun t => abP k t) hz hN (fun j v hj hv => by
        unfold m_R02_told_L2
        have c : (j : Int) < (v.length : Int) := by omega
        have hkv : j < v.length := by omega
        have ht : 0 ≤ (j : Int) ∧ (j : Int) ≤ 1439 := by omega
        have hm2 := (mg_eq hok.sh hok.rf ht).2.1
        have ha2 := rabove_eq hok he ht
        rw [hR] at hm2 ha2
        simp only [c, decide_true, if_true, bne_self_eq_false, Bool.false_eq_true, if_false, hm2, ha2, idx_nat hkv, Option.bind_some, Int.toNat_natCast, W_s (k := j) (by omega)]
        rfl) (fun v hv => by unfold m_R02_told_L2; simp [hv])).trans (hmap _ fun t => by unfold toldF; rw [hc])
    · have hc : clearP s n a [] = (none, 26) := by unfold clearP; rw [look]; simp [he]
      rw [he, if_pos rfl] at hsl
      exact (told_of ej hnl hsl fun z hz => told_L2_err (by decide) hz hN).trans (hmap _ fun t => by unfold toldF; rw [hc])
end Go.Proofs.Ytdhjccionnbljaa
namespace Go.Proofs.Ytdhjccionnbljaa
open Go Go.Sx
open Classical
theorem nums_idx {n : Nat} {f : Int → Int} {N : List Int} (hN : nums n = N) {k : Nat} (hk : k < n) : idx (N.map f) (k : Int) = some (f k) := by
  subst hN
  unfold nums idx
  simp [hk]
theorem clone_eq {s : TSky} (hs : VSky s) : m_IN_moon_copied_1 s = some (s.Sightings, s.Sheets, s.Roofs) := by
  have hr : s.Roofs.length ≤ 12 := hs.roofs.len
  have g1 := hs.n1
  have g2 := hs.n2
  unfold m_IN_moon_copied_1 m_slices_Clone_api_Roof_api_Roof m_slices_Clone_api_Sighting_api_Sighting
  rw [gd_t (by omega), gd_t (by omega)]
  have hl := loop_list (body := m_IN_moon_copied_1_L1 s) (R := Int × List TSheet) s.Sheets (by omega) (fun k (o : List TSheet) => ((k : Int), o)) (fun o x => .inl (o ++ [x])) id (fun o => ((s.Sheets.length : Int), o)) (fun pre o => o.length = pre.length)
    (fun pre x post o hp ho => by
      refine ⟨?_, fun s' hs' => by cases hs'; simp [ho]⟩
      have hlen : pre.length < s.Sheets.length := by rw [hp]; simp
      have hx : x ∈ s.Sheets := by rw [hp]; simp
      have hrow := (hs.sheet hx).len
      have hidx : idx s.Sheets (pre.length : Int) = some x := by rw [hp]; unfold idx; simp
      have c : (pre.length : Int) < (s.Sheets.length : Int) := by omega
      unfold m_IN_moon_copied_1_L1 m_slices_Clone_api_Row_api_Row
      have g : x.Rows.length * 40 ≤ 140737488355328 ∧ x.Rows.length ≤ 9223372036854775807 := by omega
      simp only [c, decide_true, if_true, hidx, Option.bind_some, gd_t g, W_s (k := pre.length) (by omega)]
      rw [gd_t (by simp; omega)]
      rfl) (fun o _ => by unfold m_IN_moon_copied_1_L1; simp) [] rfl
  have h0 : ((0 : Nat) : Int) = 0 := rfl
  simp only [h0] at hl
  rw [Option.bind_some, Option.bind_some, hl, runL_foldl]
  have key : ∀ (l o : List TSheet), l.foldl (fun o x => o ++ [x]) o = o ++ l := by
    intro l
    induction l with
    | nil => simp
    | cons x l ih => intro o; simp [ih]
  rw [key]; rfl
def noS (src : Int) (x : TSheet) : Bool := !(x.Source == src)
def noG (src : Int) (x : TSighting) : Bool := !(x.Source == src)
theorem delS_eq (l : List TSheet) (hl : l.length ≤ 60) (src : Int) : m_slices_DeleteFunc_api_Sheet_api_Sheet__moon_Moved_1 l src = some (l.filter (noS src)) :=
  delF_eq (fun x => m_moon_Moved_1 x src) (p := fun x => x.Source == src) l (fun _ _ => rfl) (by omega)
theorem delG_eq (l : List TSighting) (hl : l.length ≤ 60) (src : Int) : m_slices_DeleteFunc_api_Sighting_api_Sighting__moon_Moved_2 l src = some (l.filter (noG src)) :=
  delF_eq (fun x => m_moon_Moved_2 x src) (p := fun x => x.Source == src) l (fun _ _ => rfl) (by omega)
def lessS (s : TSky) (src : Int) : TSky := ⟨s.Sheets.filter (noS src), s.Roofs, s.Sightings.filter (noG src)⟩
noncomputable def movedP (s : TSky) (src n a t : Int) : Bool := decide (toldF s n a t ≠ toldF (lessS s src) n a t)
theorem gd8 {o : List Int} (ho : o.length ≤ 1440) (x : Int) {α : Type} {k : Option α} : gd ((o.length + ([x] : List Int).length) * 8 ≤ 140737488355328 ∧ o.length + ([x] : List Int).length ≤ 9223372036854775807) k = k := gd_t (by simp; omega)
theorem W_k {k : Nat} (h : k < 1440) : W ((k : Int) + 1) = ((k + 1 : Nat) : Int) := W_s (by omega)
theorem moved_L1 {s : TSky} {src n a : Int} {e f : Int} {A : Option Tknown} (hs : VSky s) (hn : 0 ≤ n ∧ n ≤ 100000) (ha : 0 ≤ a ∧ a ≤ 100000) (h1 : clearP s n a [] = (none, e)) (h2 : clearP (lessS s src) n a [] = (A, f)) {N : List Int} (hN : nums 1440 = N) :
    loopF (m_moon_Moved_L1 e f) ([], 0) = some (N.filter (movedP s src n a), ((1440 : Nat) : Int)) := by
  subst hN
  have he := told_err hs hn ha h1
  have hls : VSky (lessS s src) := hs.part _ _
  refine pick_loop (fun k o => (o, (k : Int))) 1440 (by omega) (movedP s src n a) (fun k o hk ho => ?_) (fun o => by unfold m_moon_Moved_L1; simp)
  have c : (k : Int) < 1440 := by omega
  have e0 : (e == 0) = false := by rcases he with rfl | rfl <;> rfl
  unfold m_moon_Moved_L1
  simp only [c, decide_true, if_true, gd8 ho, W_k hk, e0]
  have hm : movedP s src n a k = (e != f) := by
    unfold movedP toldF
    rw [h1, h2]
    cases A with
    | none =>
      simp only
      by_cases h : e = f <;> simp [h]
    | some q =>
      obtain ⟨rfl, _⟩ := clearP_ok h2
      simp only
      have h3 := abP_3 q k
      have : e ≠ abP q k := by omega
      have h4 : e ≠ 0 := by omega
      simp [this, h4]
  rw [hm]
  by_cases h : (e != f) = true
  · simp only [h, if_true]
  · simp only [h, Bool.false_eq_true, if_false]
theorem moved_L3 {s : TSky} {src n a : Int} {f : Int} {k0 : Tknown} (hs : VSky s) (hn : 0 ≤ n ∧ n ≤ 100000) (ha : 0 ≤ a ∧ a ≤ 100000) (h1 : clearP s n a [] = (some k0, 0)) (h2 : clearP (lessS s src) n a [] = (none, f)) {N : List Int} (hN : nums 1440 = N) :
    loopF (m_moon_Moved_L3 0 k0 f) ([], 0) = some (N.filter (movedP s src n a), ((1440 : Nat) : Int)) := by
  subst hN
  have hls : VSky (lessS s src) := hs.part _ _
  have he := told_err hls hn ha h2
  refine pick_loop (fun k o => (o, (k : Int))) 1440 (by omega) (movedP s src n a) (fun k o hk ho => ?_) (fun o => by unfold m_moon_Moved_L3; simp)
  have c : (k : Int) < 1440 := by omega
  have e0 : ((0 : Int) != f) = true := by rcases he with rfl | rfl <;> rfl
  unfold m_moon_Moved_L3
  simp only [c, decide_true, if_true, gd8 ho, W_k hk, e0]
  have hm : movedP s src n a k = true := by
    unfold movedP toldF
    rw [h1, h2]
    simp only
    have h3 := abP_3 k0 k
    have : abP k0 k ≠ f := by omega
    simp [this]
  rw [hm]; rfl
theorem moved_L4 {s : TSky} {src n a : Int} {k0 k1 : Tknown} (h1 : clearP s n a [] = (some k0, 0)) (h2 : clearP (lessS s src) n a [] = (some k1, 0)) {N : List Int} (hN : nums 1440 = N) :
    loopF (m_moon_Moved_L4 0 k0 0 k1) ([], 0, []) = some ([], ((1440 : Nat) : Int), N.filter (movedP s src n a)) := by
  subst hN
  obtain ⟨_, l1, _⟩ := clearP_ok h1
  obtain ⟨_, l2, _⟩ := clearP_ok h2
  have o1 := (lookP_ok l1).2.1
  have o2 := (lookP_ok l2).2.1
  refine pick_loop (fun k o => (([] : List Int), (k : Int), o)) 1440 (by omega) (movedP s src n a) (fun k o hk ho => ?_) (fun o => by unfold m_moon_Moved_L4; simp)
  have c : (k : Int) < 1440 := by omega
  have ht : 0 ≤ (k : Int) ∧ (k : Int) ≤ 1439 := by omega
  unfold m_moon_Moved_L4
  simp only [c, decide_true, if_true, gd8 ho, W_k hk, bne_self_eq_false, Bool.false_eq_true, if_false, beq_self_eq_true, above_eq o1 ht, above_eq o2 ht, Option.bind_some]
  have hm : movedP s src n a k = (abP k0 k != abP k1 k) := by
    unfold movedP toldF
    rw [h1, h2]
    simp only
    by_cases h : abP k0 k = abP k1 k <;> simp [h]
  rw [hm]
  by_cases h : (abP k0 k != abP k1 k) = true
  · simp only [h, if_true]
  · simp only [h, Bool.false_eq_true, if_false]
theorem rMoved_L1_eq (s : TSky) (hl : s.Sheets.length ≤ 60) (src : Int) : loopF (m_R02_Moved_L1 s src) (0, []) = some ((s.Sheets.length : Int), s.Sheets.filter (noS src)) := by
  have hr := loop_list (body := m_R02_Moved_L1 s src) (R := Int × List TSheet) s.Sheets (by omega) (fun k (o : List TSheet) => ((k : Int), o)) (fun o x => .inl (if noS src x = true then o ++ [x] else o)) id (fun o => ((s.Sheets.length : Int), o)) (fun pre o => o.length ≤ pre.length)
    (fun pre x post o hp ho => by
      have hlen : pre.length < s.Sheets.length := by rw [hp]; simp
      refine ⟨?_, fun s' hs' => by cases hs'; split <;> simp <;> omega⟩
      have hidx : idx s.Sheets (pre.length : Int) = some x := by rw [hp]; unfold idx; simp
      have c : (pre.length : Int) < (s.Sheets.length : Int) := by omega
      unfold m_R02_Moved_L1 noS
      simp only [c, decide_true, if_true, hidx, Option.bind_some, W_s (k := pre.length) (by omega)]
      rw [gd_t (by simp; omega)]
      by_cases h : x.Source = src <;> simp [h]) (fun o _ => by unfold m_R02_Moved_L1; simp) [] (by simp)
  have h0 : ((0 : Nat) : Int) = 0 := rfl
  simp only [h0] at hr
  rw [hr, runL_foldl]
  have key : ∀ (l o : List TSheet), l.foldl (fun o x => if noS src x = true then o ++ [x] else o) o = o ++ l.filter (noS src) := by
    intro l
    induction l with
    | nil => simp
    | cons x l ih =>
      intro o
      simp only [List.foldl_cons, List.filter_cons, ih]
      by_cases h : noS src x = true <;> simp [h]
  rw [key]; rfl
theorem rMoved_L2_eq (s : TSky) (hl : s.Sightings.length ≤ 60) (src : Int) : loopF (m_R02_Moved_L2 s src) (0, []) = some ((s.Sightings.length : Int), s.Sightings.filter (noG src)) := by
  have hr := loop_list (body := m_R02_Moved_L2 s src) (R := Int × List TSighting) s.Sightings (by omega) (fun k (o : List TSighting) => ((k : Int), o)) (fun o x => .inl (if noG src x = true then o ++ [x] else o)) id (fun o => ((s.Sightings.length : Int), o)) (fun pre o => o.length ≤ pre.length)
    (fun pre x post o hp ho => by
      have hlen : pre.length < s.Sightings.length := by rw [hp]; simp
      refine ⟨?_, fun s' hs' => by cases hs'; split <;> simp <;> omega⟩
      have hidx : idx s.Sightings (pre.length : Int) = some x := by rw [hp]; unfold idx; simp
      have c : (pre.length : Int) < (s.Sightings.length : Int) := by omega
      unfold m_R02_Moved_L2 noG
      simp only [c, decide_true, if_true, hidx, Option.bind_some, W_s (k := pre.length) (by omega)]
      rw [gd_t (by simp; omega)]
      by_cases h : x.Source = src <;> simp [h]) (fun o _ => by unfold m_R02_Moved_L2; simp) [] (by simp)
  have h0 : ((0 : Nat) : Int) = 0 := rfl
  simp only [h0] at hr
  rw [hr, runL_foldl]
  have key : ∀ (l o : List TSighting), l.foldl (fun o x => if noG src x = true then o ++ [x] else o) o = o ++ l.filter (noG src) := by
    intro l
    induction l with
    | nil => simp
    | cons x l ih =>
      intro o
      simp only [List.foldl_cons, List.filter_cons, ih]
      by_cases h : noG src x = true <;> simp [h]
  rw [key]; rfl
theorem rMoved_L3_eq (s : TSky) (src n a : Int) {N : List Int} (hN : nums 1440 = N) : loopF (m_R02_Moved_L3 (N.map (toldF s n a)) (N.map (toldF (lessS s src) n a))) ([], 0) = some (N.filter (movedP s src n a), ((1440 : Nat) : Int)) := by
  have hlen : N.length = 1440 := by rw [← hN, nums_len]
  have h := pick_loop (body := m_R02_Moved_L3 (N.map (toldF s n a)) (N.map (toldF (lessS s src) n a))) (fun k o => (o, (k : Int))) 1440 (by omega) (movedP s src n a) (fun k o hk ho => by
    have c : (k : Int) < ((N.map (toldF s n a)).length : Int) := by rw [List.length_map, hlen]; omega
    unfold m_R02_Moved_L3
    simp only [c, decide_true, if_true, nums_idx hN hk, Option.bind_some, gd8 ho, W_k hk]
    unfold movedP
    by_cases h : toldF s n a k = toldF (lessS s src) n a k <;> simp [h]) (fun o => by unfold m_R02_Moved_L3; simp [hlen])
  rw [hN] at h
  exact h
noncomputable def movF (s : TSky) (src n a : Int) (N : List Int) : List Int × Int := if (lessS s src).Sheets.length = s.Sheets.length ∧ (lessS s src).Sightings.length = s.Sightings.length then ([], 3) else (N.filter (movedP s src n a), 0)
theorem Moved_ok {s : TSky} (hr : s.Roofs.length ≤ maxLen) (hs : VSky s) {src n a : Int} (hn : 0 ≤ n ∧ n ≤ 100000) (ha : 0 ≤ a ∧ a ≤ 100000) {N : List Int} (hN : nums 1440 = N) : m_moon_Moved s src n a = some (movF s src n a N) := by
  unfold m_moon_Moved movF
  rw [Check_eq s hr, clone_eq hs]
  have en : m_moon_isNight n = some true := by rw [isNight_eq]; simp [hn]
  have ea : m_moon_isNight a = some true := by rw [isNight_eq]; simp [ha]
  have d1 := delS_eq s.Sheets hs.n1 src
  have d2 := delG_eq s.Sightings hs.n2 src
  have hls : VSky (lessS s src) := hs.part _ _
  have hc1 := clearly_eq s hr n a [] (by simp)
  have hc2 := clearly_eq (lessS s src) hr n a [] (by simp)
  have l1 : (s.Sheets.filter (noS src)).length = (lessS s src).Sheets.length := rfl
  have l2 : (s.Sightings.filter (noG src)).length = (lessS s src).Sightings.length := rfl
  have core : ∀ {A : Option Tknown} {e : Int}, clearP s n a [] = (A, e) → (optM A (
      Option.bind (m_moon_clearly (lessS s src) n a []) fun x =>
      optM x.1 (
        Option.bind (loopF (m_moon_Moved_L1 e x.2) ([], 0)) fun y => some (y.1, (0 : Int))) fun _ =>
      Option.bind (loopF (m_moon_Moved_L1 e x.2) ([], 0)) fun y => some (y.1, 0)) fun p =>
      Option.bind (m_moon_clearly (lessS s src) n a []) fun x =>
      optM x.1 (
        Option.bind (loopF (m_moon_Moved_L3 e p x.2) ([], 0)) fun y => some (y.1, 0)) fun q =>
      Option.bind (loopF (m_moon_Moved_L4 e p x.2 q) ([], 0, [])) fun y => some (y.2.2, 0)) = some (N.filter (movedP s src n a), (0 : Int)) := by
    intro A e hA
    cases hB : clearP (lessS s src) n a [] with
    | mk B f =>
      rw [hc2, hB]
      cases A with
      | none =>
        have h1 := moved_L1 hs hn ha hA hB hN
        cases B <;> (simp only [optM, Option.bind_some]; rw [h1]; rfl)
      | some p =>
        obtain ⟨rfl, _⟩ := clearP_ok hA
        cases B with
        | none =>
          have h1 := moved_L3 hs hn ha hA hB hN
          simp only [optM, Option.bind_some]; rw [h1]; rfl
        | some q =>
          obtain ⟨rfl, _⟩ := clearP_ok hB
          have h1 := moved_L4 hA hB hN
          simp only [optM, Option.bind_some]; rw [h1]; rfl
  simp only [hs, if_true, Option.bind_some, bne_self_eq_false, Bool.false_eq_true, if_false, en, ea, Bool.not_true, d1, d2, l1, l2]
  have hA := core (A := (clearP s n a []).1) (e := (clearP s n a []).2) rfl
  rw [hc1]
  by_cases g1 : (lessS s src).Sheets.length = s.Sheets.length
  · by_cases g2 : (lessS s src).Sightings.length = s.Sightings.length
    · simp [g1, g2]
    · have e1 : (((lessS s src).Sheets.length : Int) == (s.Sheets.length : Int)) = true := by simp [g1]
      have e2 : (((lessS s src).Sightings.length : Int) == (s.Sightings.length : Int)) = false := by simp; omega
      rw [show (if (lessS s src).Sheets.length = s.Sheets.length ∧ (lessS s src).Sightings.length = s.Sightings.length then (([] : List Int), (3 : Int)) else (N.filter (movedP s src n a), 0)) = (N.filter (movedP s src n a), 0) from if_neg (fun h => g2 h.2)]
      simp only [e1, e2, if_true, Bool.false_eq_true, if_false]
      exact hA
  · have e1 : (((lessS s src).Sheets.length : Int) == (s.Sheets.length : Int)) = false := by simp; omega
    rw [show (if (lessS s src).Sheets.length = s.Sheets.length ∧ (lessS s src).Sightings.length = s.Sightings.length then (([] : List Int), (3 : Int)) else (N.filter (movedP s src n a), 0)) = (N.filter (movedP s src n a), 0) from if_neg (fun h => g1 h.1)]
    simp only [e1, Bool.false_eq_true, if_false]
    exact hA
theorem rMoved_ok {s : TSky} (hr : s.Roofs.length ≤ maxLen) (hs : VSky s) {src n a : Int} (hn : 0 ≤ n ∧ n ≤ 100000) (ha : 0 ≤ a ∧ a ≤ 100000) {N : List Int} (hN : nums 1440 = N) : m_R02_Moved s src (n, a) = some (movF s src n a N) := by
  unfold m_R02_Moved movF
  rw [rCheck_eq s hr, rMoved_L1_eq s hs.n1, rMoved_L2_eq s hs.n2]
  have nn : ∀ n, m_R02_isNight n = some (decide (0 ≤ n ∧ n ≤ 100000)) := isNight_eq
  have en : m_R02_isNight n = some true := by rw [nn]; simp [hn]
  have ea : m_R02_isNight a = some true := by rw [nn]; simp [ha]
  have hls : VSky (lessS s src) := hs.part _ _
  have t1 := told_eq hs hn ha hN
  have t2 : m_R02_told ⟨s.Sheets.filter (noS src), s.Roofs, s.Sightings.filter (noG src)⟩ (n, a) = some (N.map (toldF (lessS s src) n a)) := told_eq hls hn ha hN
  have l3 := rMoved_L3_eq s src n a hN
  have l1 : (s.Sheets.filter (noS src)).length = (lessS s src).Sheets.length := rfl
  have l2 : (s.Sightings.filter (noG src)).length = (lessS s src).Sightings.length := rfl
  have core : (Option.bind (m_R02_told s (n, a)) fun x56 => Option.bind (m_R02_told ⟨s.Sheets.filter (noS src), s.Roofs, s.Sightings.filter (noG src)⟩ (n, a)) fun x58 => Option.bind (loopF (m_R02_Moved_L3 x56 x58) ([], 0)) fun y => some (y.1, (0 : Int))) = some (N.filter (movedP s src n a), 0) := by
    rw [t1, t2]
    show (Option.bind (loopF (m_R02_Moved_L3 (N.map (toldF s n a)) (N.map (toldF (lessS s src) n a))) ([], 0)) fun y => some (y.1, (0 : Int))) = _
    rw [l3]; rfl
  simp only [hs, if_true, Option.bind_some, bne_self_eq_false, Bool.false_eq_true, if_false, en, ea, Bool.not_true, l1, l2]
  by_cases g1 : (lessS s src).Sheets.length = s.Sheets.length
  · by_cases g2 : (lessS s src).Sightings.length = s.Sightings.length
    · simp [g1, g2]
    · have e1 : (((lessS s src).Sheets.length : Int) == (s.Sheets.length : Int)) = true := by simp [g1]
      have e2 : (((lessS s src).Sightings.length : Int) == (s.Sightings.length : Int)) = false := by simp; omega
      rw [show (if (lessS s src).Sheets.length = s.Sheets.length ∧ (lessS s src).Sightings.length = s.Sightings.length then (([] : List Int), (3 : Int)) else (N.filter (movedP s src n a), 0)) = (N.filter (movedP s src n a), 0) from if_neg (fun h => g2 h.2)]
      simp only [e1, e2, if_true, Bool.false_eq_true, if_false]
      exact core
  · have e1 : (((lessS s src).Sheets.length : Int) == (s.Sheets.length : Int)) = false := by simp; omega
    rw [show (if (lessS s src).Sheets.length = s.Sheets.length ∧ (lessS s src).Sightings.length = s.Sightings.length then (([] : List Int), (3 : Int)) else (N.filter (movedP s src n a), 0)) = (N.filter (movedP s src n a), 0) from if_neg (fun h => g1 h.1)]
    simp only [e1, Bool.false_eq_true, if_false]
    exact core
end Go.Proofs.Ytdhjccionnbljaa
namespace Go.Proofs.Ytdhjccionnbljaa
open Go Go.Sx
open Classical
theorem pl_MoonMoves (s : TSky) (src : Int) (at_ : Int × Int) (hs : TSky.G s) (_ : InK .i64 src) (_ : InK .i64 at_.1 ∧ InK .i64 at_.2) : m_L02_MoonMoves s src at_ = some true := by
  have hr : s.Roofs.length ≤ maxLen := hs.2.1.2.1
  obtain ⟨n, a⟩ := at_
  obtain ⟨N, hN⟩ : ∃ N, nums 1440 = N := ⟨_, rfl⟩
  have key : ∃ x, m_moon_Moved s src n a = some x ∧ m_R02_Moved s src (n, a) = some x ∧ x.1.length ≤ 1440 := by
    by_cases hv : VSky s
    · by_cases hn : 0 ≤ n ∧ n ≤ 100000
      · by_cases ha : 0 ≤ a ∧ a ≤ 100000
        · refine ⟨_, Moved_ok hr hv hn ha hN, rMoved_ok hr hv hn ha hN, ?_⟩
          unfold movF
          split
          · simp
          · have := List.length_filter_le (movedP s src n a) N
            rw [← hN, nums_len, hN] at this
            exact this
        · refine ⟨([], 6), ?_, ?_, by simp⟩
          · unfold m_moon_Moved; rw [Check_eq s hr, isNight_eq, isNight_eq]; simp only [hv, hn, ha, if_true, Option.bind_some, bne_self_eq_false, Bool.false_eq_true, if_false, and_self, decide_true, decide_false, Bool.not_true, Bool.not_false]
          · have nn : ∀ n, m_R02_isNight n = some (decide (0 ≤ n ∧ n ≤ 100000)) := isNight_eq
            unfold m_R02_Moved; rw [rCheck_eq s hr, nn, nn]; simp only [hv, hn, ha, if_true, Option.bind_some, bne_self_eq_false, Bool.false_eq_true, if_false, and_self, decide_true, decide_false, Bool.not_true, Bool.not_false]
      · refine ⟨([], 6), ?_, ?_, by simp⟩
        · unfold m_moon_Moved; rw [Check_eq s hr, isNight_eq]; simp only [hv, hn, if_true, Option.bind_some, bne_self_eq_false, Bool.false_eq_true, if_false, decide_false, Bool.not_false]
        · have nn : ∀ n, m_R02_isNight n = some (decide (0 ≤ n ∧ n ≤ 100000)) := isNight_eq
          unfold m_R02_Moved; rw [rCheck_eq s hr, nn]; simp only [hv, hn, if_true, Option.bind_some, bne_self_eq_false, Bool.false_eq_true, if_false, decide_false, Bool.not_false]
    · refine ⟨([], 24), ?_, ?_, by simp⟩
      · unfold m_moon_Moved; rw [Check_eq s hr]; simp [hv]
      · unfold m_R02_Moved; rw [rCheck_eq s hr]; simp [hv]
  obtain ⟨x, h1, h2, h3⟩ := key
  unfold m_L02_MoonMoves
  rw [h1, h2]
  simp only [Option.bind_some, Same_refl x.1 (by unfold maxLen; omega), if_true, beq_self_eq_true, pl_sane]
end Go.Proofs.Ytdhjccionnbljaa
