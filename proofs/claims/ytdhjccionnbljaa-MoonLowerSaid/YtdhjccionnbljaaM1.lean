/- What may be read at the types of the statement's parameters; plain facts. -/
import Derived.Test.YtdhjccionnbljaaL2
set_option linter.unusedVariables false
set_option linter.unusedSimpArgs false
namespace Go.Proofs.Ytdhjccionnbljaa
open Go Go.RowKit Go.Sx
theorem op_106 : Opens Try.prog 106 (fun (x : (Int × Int × Int × Int)) => [DI x.1, DI x.2.1, DI x.2.2.1, DI x.2.2.2]) (fun x : (Int × Int × Int × Int) => (InK .i64 x.1 ∧ InK .i64 x.2.1 ∧ InK .i64 x.2.2.1 ∧ InK .i64 x.2.2.2)) :=
  (Opens.arr Try.underlying106 (OpensA.cons (s := 1) (Opens.int Try.underlying3) (OpensA.cons (s := 1) (Opens.int Try.underlying3) (OpensA.cons (s := 1) (Opens.int Try.underlying3) (OpensA.last (s := 1) (Opens.int Try.underlying3) rfl (by kernel_rfl) rfl) rfl (by kernel_rfl)) rfl (by kernel_rfl)) rfl (by kernel_rfl)) (by kernel_rfl)).iso (fun x => x) (fun _ => rfl) (fun _ h => h)
theorem op_23 : Opens Try.prog 23 (fun l : (List (Int × Int × Int × Int)) => [.lst 4 l.length (l.flatMap (fun (x : (Int × Int × Int × Int)) => [DI x.1, DI x.2.1, DI x.2.2.1, DI x.2.2.2]))]) (fun l => (l.length * 32 ≤ reachBytes ∧ l.length ≤ maxLen ∧ ∀ y : (Int × Int × Int × Int), y ∈ l → (InK .i64 y.1 ∧ InK .i64 y.2.1 ∧ InK .i64 y.2.2.1 ∧ InK .i64 y.2.2.2))) :=
  Opens.slice Try.underlying23 op_106 (by kernel_rfl) (by kernel_rfl) (fun _ => rfl) (fun _ => rfl) (by decide)
theorem op_22 : Opens Try.prog 22 (fun l : (List (List (Int × Int × Int × Int))) => [.lst 1 l.length (l.flatMap (fun (x : (List (Int × Int × Int × Int))) => [.lst 4 x.length (x.flatMap (fun (x : (Int × Int × Int × Int)) => [DI x.1, DI x.2.1, DI x.2.2.1, DI x.2.2.2]))]))]) (fun l => (l.length * 24 ≤ reachBytes ∧ l.length ≤ maxLen ∧ ∀ y : (List (Int × Int × Int × Int)), y ∈ l → (y.length * 32 ≤ reachBytes ∧ y.length ≤ maxLen ∧ ∀ yy : (Int × Int × Int × Int), yy ∈ y → (InK .i64 yy.1 ∧ InK .i64 yy.2.1 ∧ InK .i64 yy.2.2.1 ∧ InK .i64 yy.2.2.2)))) :=
  Opens.slice Try.underlying22 op_23 (by kernel_rfl) (by kernel_rfl) (fun _ => rfl) (fun _ => rfl) (by decide)
theorem op_27 : Opens Try.prog 27 (fun (x : (Int × Int × Int)) => [DI x.1, DI x.2.1, DI x.2.2]) (fun x : (Int × Int × Int) => (InK .i64 x.1 ∧ InK .i64 x.2.1 ∧ InK .i64 x.2.2)) :=
  (Opens.arr Try.underlying27 (OpensA.cons (s := 1) (Opens.int Try.underlying3) (OpensA.cons (s := 1) (Opens.int Try.underlying3) (OpensA.last (s := 1) (Opens.int Try.underlying3) rfl (by kernel_rfl) rfl) rfl (by kernel_rfl)) rfl (by kernel_rfl)) (by kernel_rfl)).iso (fun x => x) (fun _ => rfl) (fun _ h => h)
theorem op_24 : Opens Try.prog 24 (fun l : (List (Int × Int × Int)) => [.lst 3 l.length (l.flatMap (fun (x : (Int × Int × Int)) => [DI x.1, DI x.2.1, DI x.2.2]))]) (fun l => (l.length * 24 ≤ reachBytes ∧ l.length ≤ maxLen ∧ ∀ y : (Int × Int × Int), y ∈ l → (InK .i64 y.1 ∧ InK .i64 y.2.1 ∧ InK .i64 y.2.2))) :=
  Opens.slice Try.underlying24 op_27 (by kernel_rfl) (by kernel_rfl) (fun _ => rfl) (fun _ => rfl) (by decide)
def TRaw.G (x : TRaw) : Prop := (x.Rows.length * 24 ≤ reachBytes ∧ x.Rows.length ≤ maxLen ∧ ∀ y : (List (Int × Int × Int × Int)), y ∈ x.Rows → (y.length * 32 ≤ reachBytes ∧ y.length ≤ maxLen ∧ ∀ yy : (Int × Int × Int × Int), yy ∈ y → (InK .i64 yy.1 ∧ InK .i64 yy.2.1 ∧ InK .i64 yy.2.2.1 ∧ InK .i64 yy.2.2.2))) ∧ (x.Sheets.length * 32 ≤ reachBytes ∧ x.Sheets.length ≤ maxLen ∧ ∀ y : (Int × Int × Int × Int), y ∈ x.Sheets → (InK .i64 y.1 ∧ InK .i64 y.2.1 ∧ InK .i64 y.2.2.1 ∧ InK .i64 y.2.2.2)) ∧ (x.Roofs.length * 24 ≤ reachBytes ∧ x.Roofs.length ≤ maxLen ∧ ∀ y : (Int × Int × Int), y ∈ x.Roofs → (InK .i64 y.1 ∧ InK .i64 y.2.1 ∧ InK .i64 y.2.2)) ∧ (x.Sightings.length * 32 ≤ reachBytes ∧ x.Sightings.length ≤ maxLen ∧ ∀ y : (Int × Int × Int × Int), y ∈ x.Sightings → (InK .i64 y.1 ∧ InK .i64 y.2.1 ∧ InK .i64 y.2.2.1 ∧ InK .i64 y.2.2.2)) ∧ InK .i64 x.Off
theorem op_26 : Opens Try.prog 26 TRaw.c TRaw.G :=
  (Opens.struct Try.underlying26 (OpensF.cons (s := 1) op_22 (OpensF.cons (s := 1) op_23 (OpensF.cons (s := 1) op_24 (OpensF.cons (s := 1) op_23 (OpensF.last (s := 1) (Opens.int Try.underlying3) rfl (by kernel_rfl) rfl) rfl (by kernel_rfl)) rfl (by kernel_rfl)) rfl (by kernel_rfl)) rfl (by kernel_rfl)) (by kernel_rfl)).iso (fun x => (⟨x.1, x.2.1, x.2.2.1, x.2.2.2.1, x.2.2.2.2⟩ : TRaw)) (fun _ => rfl) (fun _ h => h)
theorem op_51 : Opens Try.prog 51 (fun l : (List Int) => [.lst 1 l.length (l.flatMap cI)]) (fun l => (l.length * 8 ≤ reachBytes ∧ l.length ≤ maxLen ∧ ∀ y : Int, y ∈ l → InK .i64 y)) :=
  Opens.slice Try.underlying51 (Opens.int Try.underlying3) (by kernel_rfl) (by kernel_rfl) (fun _ => rfl) (fun _ => rfl) (by decide)
end Go.Proofs.Ytdhjccionnbljaa
namespace Go.Proofs.Ytdhjccionnbljaa
open Go Go.Sx
theorem W_id {z : Int} (h : -9223372036854775808 ≤ z ∧ z ≤ 9223372036854775807) : W z = z := w64 h
theorem gcdO : ∀ (n : Nat) (a b : Int), b.natAbs < n → ∃ g : Int, loopO m_moon_gcd_L1 n (a, b) = some (g, 0) ∧ g.natAbs = Nat.gcd a.natAbs b.natAbs
  | 0, a, b, h => by omega
  | n + 1, a, b, h => by
    by_cases hb : b = 0
    · subst hb
      exact ⟨a, by simp [loopO, m_moon_gcd_L1], by simp⟩
    · have hlt : (a.tmod b).natAbs < b.natAbs := by
        rw [Int.natAbs_tmod]
        exact Nat.mod_lt _ (by omega)
      obtain ⟨g, h1, h2⟩ := gcdO n b (a.tmod b) (by omega)
      refine ⟨g, ?_, ?_⟩
      · simp only [loopO, m_moon_gcd_L1]
        simp [hb, gd, h1]
      · rw [h2, Int.natAbs_tmod, Nat.gcd_comm, ← Nat.gcd_rec, Nat.gcd_comm]
theorem gcdF (a b : Int) (h : b.natAbs < FUEL) : ∃ g : Int, loopF m_moon_gcd_L1 (a, b) = some (g, 0) ∧ g.natAbs = Nat.gcd a.natAbs b.natAbs := gcdO FUEL a b h
theorem frac_L1 : m_R02_frac_L1 = m_moon_gcd_L1 := rfl
def rd (n d : Int) : TFrac := ⟨n / (Nat.gcd n.natAbs d.natAbs : Nat), d / (Nat.gcd n.natAbs d.natAbs : Nat)⟩
abbrev I64 (z : Int) : Prop := -9223372036854775808 < z ∧ z ≤ 9223372036854775807
theorem FUEL_lt {z : Int} (h : I64 z) : z.natAbs < FUEL := by unfold FUEL; omega
theorem gcd_pos {n d : Int} (hd : 0 < d) : 0 < Nat.gcd n.natAbs d.natAbs := Nat.gcd_pos_of_pos_right _ (by omega)
theorem gcd_dvd_n (n d : Int) : ((Nat.gcd n.natAbs d.natAbs : Nat) : Int) ∣ n := by
  rw [Int.ofNat_dvd_left]; exact Nat.gcd_dvd_left _ _
theorem gcd_dvd_d (n d : Int) : ((Nat.gcd n.natAbs d.natAbs : Nat) : Int) ∣ d := by
  rw [Int.ofNat_dvd_left]; exact Nat.gcd_dvd_right _ _
theorem gcd_le {n d : Int} (hd : 0 < d) : ((Nat.gcd n.natAbs d.natAbs : Nat) : Int) ≤ d := by
  have := Nat.le_of_dvd (by omega) (Nat.gcd_dvd_right n.natAbs d.natAbs); omega
theorem div_bd {z g : Int} (hz : I64 z) (hg : 0 < g) : I64 (z.tdiv g) ∧ (g ∣ z → z.tdiv g = z / g) := by
  refine ⟨?_, fun h => ?_⟩
  · have h1 : (z.tdiv g).natAbs ≤ z.natAbs := by rw [Int.natAbs_tdiv]; exact Nat.div_le_self _ _
    omega
  · obtain ⟨k, rfl⟩ := h
    rw [Int.mul_tdiv_cancel_left _ (by omega), Int.mul_ediv_cancel_left _ (by omega)]
theorem least_eq {n d : Int} (hn : I64 n) (hd : 0 < d) (hd2 : I64 d) : m_moon_least n d = some (rd n d) := by
  obtain ⟨g, h1, h2⟩ := gcdF n d (FUEL_lt hd2)
  have hp := gcd_pos (n := n) hd
  have hle := gcd_le (n := n) hd
  have hg : (if W (0 - g) > g then W (0 - g) else g) = ((Nat.gcd n.natAbs d.natAbs : Nat) : Int) := by
    have : W (0 - g) = 0 - g := W_id (by omega)
    rw [this]; split <;> omega
  unfold m_moon_least m_moon_gcd
  rw [h1]
  simp only [Option.bind_some, hg]
  have hne : ((Nat.gcd n.natAbs d.natAbs : Nat) : Int) ≠ 0 := by omega
  simp only [gd, if_pos hne]
  obtain ⟨b1, e1⟩ := div_bd hn (g := ((Nat.gcd n.natAbs d.natAbs : Nat) : Int)) (by omega)
  obtain ⟨b2, e2⟩ := div_bd hd2 (g := ((Nat.gcd n.natAbs d.natAbs : Nat) : Int)) (by omega)
  rw [W_id (by omega), W_id (by omega), e1 (gcd_dvd_n _ _), e2 (gcd_dvd_d _ _)]
  rfl
theorem reduced_eq {x : TFrac} (hn : I64 x.Num) (hd : 0 < x.Den) (hd2 : I64 x.Den) : m_moon_reduced x = some (rd x.Num x.Den) := by
  unfold m_moon_reduced; rw [least_eq hn hd hd2]; rfl
theorem frac_eq {n d : Int} (hn : I64 n) (hd : 0 < d) (hd2 : I64 d) : m_R02_frac n d = some (rd n d) := by
  have hp := gcd_pos (n := n) hd
  have hle := gcd_le (n := n) hd
  have key : ∀ m : Int, I64 m → m.natAbs = n.natAbs → 0 ≤ m → ∃ g : Int, loopF m_R02_frac_L1 (m, d) = some (g, 0) ∧ g = ((Nat.gcd n.natAbs d.natAbs : Nat) : Int) := by
    intro m hm he h0
    rw [frac_L1]
    -- the loop's result is not negative: its numbers are not
    have pos : ∀ (k : Nat) (a b : Int), 0 ≤ a → 0 ≤ b → ∀ g, loopO m_moon_gcd_L1 k (a, b) = some (g, 0) → 0 ≤ g := by
      intro k
      induction k with
      | zero => intro a b _ _ g h; cases h
      | succ k ih =>
        intro a b ha hb g h
        simp only [loopO, m_moon_gcd_L1] at h
        by_cases hb0 : b = 0
        · subst hb0; simp at h; omega
        · simp [hb0, gd] at h
          exact ih b (a.tmod b) hb (Int.tmod_nonneg _ ha) g h
    obtain ⟨g, h1, h2⟩ := gcdF m d (FUEL_lt hd2)
    have := pos FUEL m d h0 (by omega) g h1
    exact ⟨g, h1, by rw [he] at h2; omega⟩
  have hne : ((Nat.gcd n.natAbs d.natAbs : Nat) : Int) ≠ 0 := by omega
  have hb0 : (((Nat.gcd n.natAbs d.natAbs : Nat) : Int) == 0) = false := by simpa using hne
  obtain ⟨b1, e1⟩ := div_bd hn (g := ((Nat.gcd n.natAbs d.natAbs : Nat) : Int)) (by omega)
  obtain ⟨b2, e2⟩ := div_bd hd2 (g := ((Nat.gcd n.natAbs d.natAbs : Nat) : Int)) (by omega)
  unfold m_R02_frac
  rw [if_neg (by simp; omega)]
  by_cases hneg : n < 0
  · rw [if_pos (by simpa using hneg)]
    have hw : W (0 - n) = 0 - n := W_id (by omega)
    obtain ⟨g, h1, rfl⟩ := key (0 - n) (by omega) (by omega) (by omega)
    rw [hw, h1]
    simp only [Option.bind_some, hb0, gd, if_pos hne]
    rw [if_neg (by simp), W_id (by omega), W_id (by omega), e1 (gcd_dvd_n _ _), e2 (gcd_dvd_d _ _)]
    rfl
  · rw [if_neg (by simpa using hneg)]
    obtain ⟨g, h1, rfl⟩ := key n hn rfl (by omega)
    rw [h1]
    simp only [Option.bind_some, hb0, gd, if_pos hne]
    rw [if_neg (by simp), W_id (by omega), W_id (by omega), e1 (gcd_dvd_n _ _), e2 (gcd_dvd_d _ _)]
    rfl
theorem rd_spec {n d : Int} (hd : 0 < d) : ∃ g : Int, 0 < g ∧ n = g * (rd n d).Num ∧ d = g * (rd n d).Den ∧ 0 < (rd n d).Den := by
  have hp := gcd_pos (n := n) hd
  refine ⟨((Nat.gcd n.natAbs d.natAbs : Nat) : Int), by omega, ?_, ?_, ?_⟩
  · exact (Int.mul_ediv_cancel' (gcd_dvd_n n d)).symm
  · exact (Int.mul_ediv_cancel' (gcd_dvd_d n d)).symm
  · have h1 : d = ((Nat.gcd n.natAbs d.natAbs : Nat) : Int) * (rd n d).Den := (Int.mul_ediv_cancel' (gcd_dvd_d n d)).symm
    have h2 : 0 < ((Nat.gcd n.natAbs d.natAbs : Nat) : Int) * (rd n d).Den := by omega
    exact Int.pos_of_mul_pos_right h2 (by omega) |> fun h => h
def cmpI (a b : Int) : Int := if a < b then -1 else if a > b then 1 else 0
def fcmp (x y : TFrac) : Int := cmpI (x.Num * y.Den) (y.Num * x.Den)
theorem cmp_eq (a b : Int) : m_cmp_Compare_int a b = some (cmpI a b) := by
  unfold m_cmp_Compare_int m_cmp_isNaN_int cmpI
  simp
  split <;> simp_all
  split <;> simp_all
structure Sm (x : TFrac) : Prop where
  den : 0 < x.Den
  den2 : x.Den ≤ 20000000
  lo : -7200000000 ≤ x.Num
  hi : x.Num ≤ 7200000000
theorem Sm.I {x : TFrac} (h : Sm x) : I64 x.Num ∧ I64 x.Den := by obtain ⟨_, _, _, _⟩ := h; omega
theorem mul_bd {a b A B : Int} (ha : -A ≤ a ∧ a ≤ A) (hb : 0 ≤ b ∧ b ≤ B) : -(A * B) ≤ a * b ∧ a * b ≤ A * B := by
  have hA : 0 ≤ A := by omega
  have h1 : a * b ≤ A * b := Int.mul_le_mul_of_nonneg_right ha.2 hb.1
  have h2 : A * b ≤ A * B := Int.mul_le_mul_of_nonneg_left hb.2 hA
  have h3 : (-A) * b ≤ a * b := Int.mul_le_mul_of_nonneg_right ha.1 hb.1
  rw [Int.neg_mul] at h3
  omega
theorem Sm.prod {x y : TFrac} (hx : Sm x) (hy : Sm y) : I64 (x.Num * y.Den) := by
  have := mul_bd (a := x.Num) (b := y.Den) (A := 7200000000) (B := 20000000) ⟨hx.lo, hx.hi⟩ ⟨by have := hy.den; omega, hy.den2⟩
  omega
theorem compare_eq {x y : TFrac} (hx : Sm x) (hy : Sm y) : m_moon_compare x y = some (fcmp x y) := by
  unfold m_moon_compare
  rw [reduced_eq hx.I.1 hx.den hx.I.2, reduced_eq hy.I.1 hy.den hy.I.2]
  have p1 := hx.prod hy
  have p2 := hy.prod hx
  simp only [Option.bind_some]
  split
  · rename_i h
    simp only [Bool.and_eq_true, beq_iff_eq] at h
    obtain ⟨g, _, h1, h2, _⟩ := rd_spec (n := x.Num) hx.den
    obtain ⟨k, _, h3, h4, _⟩ := rd_spec (n := y.Num) hy.den
    clear p1 p2
    generalize rd x.Num x.Den = p at *
    generalize rd y.Num y.Den = q at *
    have : x.Num * y.Den = y.Num * x.Den := by
      rw [h1, h2, h3, h4, h.1, h.2]; ac_rfl
    unfold fcmp cmpI
    rw [this]; simp
  · rw [W_id (by omega), W_id (by omega), cmp_eq]; rfl
theorem sign_eq {x y : TFrac} (hx : Sm x) (hy : Sm y) : m_R02_sign x y = some (fcmp x y) := by
  have p1 := hx.prod hy
  have p2 := hy.prod hx
  unfold m_R02_sign fcmp cmpI
  rw [W_id (by omega), W_id (by omega)]
  split <;> simp_all
  split <;> simp_all
theorem fcmp_anti (x y : TFrac) : fcmp y x = - fcmp x y := by
  unfold fcmp cmpI; split <;> split <;> (try split) <;> omega
theorem fcmp_self_rd {x : TFrac} (hd : 0 < x.Den) : fcmp x (rd x.Num x.Den) = 0 := by
  obtain ⟨g, _, h1, h2, _⟩ := rd_spec (n := x.Num) hd
  unfold fcmp
  generalize rd x.Num x.Den = p at *
  have : x.Num * p.Den = p.Num * x.Den := by rw [h1, h2]; ac_rfl
  rw [this]; simp [cmpI]
theorem fcmp_le {x y : TFrac} : fcmp x y ≤ 0 ↔ x.Num * y.Den ≤ y.Num * x.Den := by unfold fcmp cmpI; split <;> (try split) <;> omega
theorem fcmp_lt {x y : TFrac} : fcmp x y < 0 ↔ x.Num * y.Den < y.Num * x.Den := by unfold fcmp cmpI; split <;> (try split) <;> omega
theorem frac_trans {x y z : TFrac} (hx : 0 < x.Den) (hy : 0 < y.Den) (hz : 0 < z.Den) (h1 : x.Num * y.Den ≤ y.Num * x.Den) (h2 : y.Num * z.Den ≤ z.Num * y.Den) : x.Num * z.Den ≤ z.Num * x.Den := by
  have a := Int.mul_le_mul_of_nonneg_right h1 (Int.le_of_lt hz)
  have b := Int.mul_le_mul_of_nonneg_right h2 (Int.le_of_lt hx)
  have e1 : x.Num * y.Den * z.Den = x.Num * z.Den * y.Den := by ac_rfl
  have e2 : y.Num * x.Den * z.Den = y.Num * z.Den * x.Den := by ac_rfl
  have e3 : z.Num * y.Den * x.Den = z.Num * x.Den * y.Den := by ac_rfl
  exact Int.le_of_mul_le_mul_right (by omega : x.Num * z.Den * y.Den ≤ z.Num * x.Den * y.Den) hy
theorem frac_trans_lt {x y z : TFrac} (hx : 0 < x.Den) (hy : 0 < y.Den) (hz : 0 < z.Den) (h1 : x.Num * y.Den < y.Num * x.Den) (h2 : y.Num * z.Den ≤ z.Num * y.Den) : x.Num * z.Den < z.Num * x.Den := by
  have a := Int.mul_lt_mul_of_pos_right h1 hz
  have b := Int.mul_le_mul_of_nonneg_right h2 (Int.le_of_lt hx)
  have e1 : x.Num * y.Den * z.Den = x.Num * z.Den * y.Den := by ac_rfl
  have e2 : y.Num * x.Den * z.Den = y.Num * z.Den * x.Den := by ac_rfl
  have e3 : z.Num * y.Den * x.Den = z.Num * x.Den * y.Den := by ac_rfl
  exact Int.lt_of_mul_lt_mul_right (by omega : x.Num * z.Den * y.Den < z.Num * x.Den * y.Den) (Int.le_of_lt hy)
def vf (x : TFrac) (B : Int) : Bool := decide (1 ≤ x.Den) && decide (x.Den ≤ B) && (decide (-(360 * x.Den) ≤ x.Num) && decide (x.Num ≤ 360 * x.Den))
theorem vf_iff {x : TFrac} {B : Int} : vf x B = true ↔ 1 ≤ x.Den ∧ x.Den ≤ B ∧ -(360 * x.Den) ≤ x.Num ∧ x.Num ≤ 360 * x.Den := by unfold vf; simp [and_assoc]
theorem isFrac_eq (x : TFrac) {B : Int} (hB : B ≤ 20000000) : m_moon_isFrac x B = some (vf x B) := by
  unfold m_moon_isFrac m_moon_within vf
  by_cases h1 : 1 ≤ x.Den
  · by_cases h2 : x.Den ≤ B
    · simp only [h1, h2, decide_true, if_true, Option.bind_some, Bool.true_and, Bool.and_self]
      rw [W_id (by omega), W_id (by omega)]
      by_cases h3 : -(360 * x.Den) ≤ x.Num
      · have : (-360) * x.Den ≤ x.Num := by omega
        simp [this, h3]
      · have : ¬ (-360) * x.Den ≤ x.Num := by omega
        simp [this, h3]
    · simp [h1, h2]
  · simp [h1]
theorem risFrac_eq (x : TFrac) {B : Int} (hB : B ≤ 20000000) : m_R02_isFrac x B = some (vf x B) := isFrac_eq x hB
theorem vf_Sm {x : TFrac} {B : Int} (hB : B ≤ 20000000) (h : vf x B = true) : Sm x := by
  obtain ⟨h1, h2, h3, h4⟩ := vf_iff.1 h
  exact ⟨by omega, by omega, by omega, by omega⟩
theorem vf_rd {x : TFrac} {B : Int} (h : vf x B = true) : vf (rd x.Num x.Den) B = true := by
  obtain ⟨h1, h2, h3, h4⟩ := vf_iff.1 h
  obtain ⟨g, hg, e1, e2, hp⟩ := rd_spec (n := x.Num) (d := x.Den) (by omega)
  generalize rd x.Num x.Den = p at *
  refine vf_iff.2 ⟨by omega, ?_, ?_, ?_⟩
  · have : p.Den ≤ g * p.Den := by
      have := Int.mul_le_mul_of_nonneg_right (show (1 : Int) ≤ g by omega) (Int.le_of_lt hp); omega
    omega
  · rw [e1, e2] at h3
    refine Int.le_of_mul_le_mul_left ?_ hg
    have : g * -(360 * p.Den) = -(360 * (g * p.Den)) := by rw [Int.mul_neg]; congr 1; ac_rfl
    rw [this, ← e1, ← e2]; rw [e1, e2]; exact h3
  · rw [e1, e2] at h4
    refine Int.le_of_mul_le_mul_left ?_ hg
    have : g * (360 * p.Den) = 360 * (g * p.Den) := by ac_rfl
    rw [this]; exact h4
theorem CheckFrac_eq (x : TFrac) : m_moon_CheckFrac x = some (if vf x 20000000 then 0 else 20) := by
  unfold m_moon_CheckFrac; rw [isFrac_eq x (Int.le_refl _)]; cases vf x 20000000 <;> rfl
theorem rCheckFrac_eq (x : TFrac) : m_R02_CheckFrac x = some (if vf x 20000000 then 0 else 20) := CheckFrac_eq x
theorem Compare_eq (x y : TFrac) : m_moon_Compare x y = some (if vf x 20000000 && vf y 20000000 then (fcmp x y, 0) else (0, 20)) := by
  unfold m_moon_Compare
  rw [isFrac_eq x (Int.le_refl _), isFrac_eq y (Int.le_refl _)]
  cases hx : vf x 20000000 <;> cases hy : vf y 20000000 <;> simp
  rw [compare_eq (vf_Sm (Int.le_refl _) hx) (vf_Sm (Int.le_refl _) hy)]
  rfl
theorem rCompare_eq (x y : TFrac) : m_R02_Compare x y = some (if vf x 20000000 && vf y 20000000 then (fcmp x y, 0) else (0, 20)) := by
  unfold m_R02_Compare
  rw [rCheckFrac_eq, rCheckFrac_eq]
  cases hx : vf x 20000000 <;> cases hy : vf y 20000000 <;> simp
  rw [sign_eq (vf_Sm (Int.le_refl _) hx) (vf_Sm (Int.le_refl _) hy)]
  rfl
theorem Reduced_eq (x : TFrac) : m_moon_Reduced x = some (if vf x 20000000 then (rd x.Num x.Den, 0) else (⟨0, 0⟩, 20)) := by
  unfold m_moon_Reduced
  rw [CheckFrac_eq]
  cases hx : vf x 20000000 <;> simp
  have h := vf_Sm (Int.le_refl _) hx
  rw [reduced_eq h.I.1 h.den h.I.2]
  rfl
theorem rReduced_eq (x : TFrac) : m_R02_Reduced x = some (if vf x 20000000 then (rd x.Num x.Den, 0) else (⟨0, 0⟩, 20)) := by
  unfold m_R02_Reduced
  rw [rCheckFrac_eq]
  cases hx : vf x 20000000 <;> simp
  have h := vf_Sm (Int.le_refl _) hx
  rw [frac_eq h.I.1 h.den h.I.2]
  rfl
end Go.Proofs.Ytdhjccionnbljaa
namespace Go.Proofs.Ytdhjccionnbljaa
open Go Go.Sx
open Classical
theorem loopF_rule {S E : Type} {body : S → Option (Sum S E)} (P : S → Prop) (μ : S → Nat) (Q : E → Prop) (h : ∀ s, P s → (∃ e, body s = some (.inr e) ∧ Q e) ∨ (∃ s', body s = some (.inl s') ∧ P s' ∧ μ s' < μ s)) (s0 : S) (h0 : P s0) (hf : μ s0 < FUEL) : ∃ e, loopF body s0 = some e ∧ Q e := by
  have key : ∀ (n : Nat) (s : S), P s → μ s < n → ∃ e, loopO body n s = some e ∧ Q e := by
    intro n
    induction n with
    | zero => intro s _ hn; omega
    | succ n ih =>
      intro s hs hn
      rcases h s hs with ⟨e, h1, h2⟩ | ⟨s', h1, h2, h3⟩
      · exact ⟨e, by simp only [loopO, h1], h2⟩
      · obtain ⟨e, h4, h5⟩ := ih s' h2 (by omega)
        exact ⟨e, by simp only [loopO, h1, h4], h5⟩
  exact key FUEL s0 h0 hf
theorem lt_FUEL {n : Nat} (h : n ≤ 9223372036854775807) : n < FUEL := by unfold FUEL; omega
theorem idx_nat {α : Type} {l : List α} {k : Nat} (h : k < l.length) : idx l (k : Int) = some l[k] := by
  unfold idx; simp [h]
theorem idx_nat1 {α : Type} {l : List α} {k : Nat} (h : k + 1 < l.length) : idx l ((k : Int) + 1) = some l[k + 1] := by
  have := idx_nat h; simpa using this
theorem W_s {k : Nat} (h : k < 9223372036854775807) : W ((k : Int) + 1) = (k : Int) + 1 := W_id (by omega)
theorem within_eq (n lo hi : Int) : m_moon_within n lo hi = some (decide (lo ≤ n) && decide (n ≤ hi)) := by
  unfold m_moon_within; by_cases h : lo ≤ n <;> simp [h]
theorem In_eq (n lo hi : Int) : m_R02_In n lo hi = some (decide (lo ≤ n) && decide (n ≤ hi)) := within_eq n lo hi
structure VRow (r : TRow) : Prop where
  h : vf r.Height 100 = true
  lo : -(90 * r.Height.Den) ≤ r.Height.Num
  hi : r.Height.Num ≤ 90 * r.Height.Den
  b : vf r.Bearing 100 = true
  b0 : 0 ≤ r.Bearing.Num
  b1 : r.Bearing.Num < 360 * r.Bearing.Den
theorem isRow_eq (r : TRow) : m_moon_isRow r = some (decide (VRow r)) := by
  unfold m_moon_isRow
  rw [isFrac_eq _ (by omega)]
  by_cases h1 : vf r.Height 100 = true
  · have hv := vf_iff.1 h1
    simp only [Option.bind_some, h1, if_true]
    rw [within_eq, W_id (by omega), W_id (by omega)]
    by_cases h2 : -90 * r.Height.Den ≤ r.Height.Num ∧ r.Height.Num ≤ 90 * r.Height.Den
    · simp only [h2.1, h2.2, decide_true, Bool.and_self, Option.bind_some, if_true]
      rw [isFrac_eq _ (by omega)]
      by_cases h3 : vf r.Bearing 100 = true
      · have hb := vf_iff.1 h3
        simp only [Option.bind_some, h3, if_true]
        rw [W_id (by omega)]
        by_cases h4 : 0 ≤ r.Bearing.Num
        · simp only [h4, decide_true, if_true]
          congr 2
          simp only [eq_iff_iff]
          exact ⟨fun h => ⟨h1, by omega, h2.2, h3, h4, h⟩, fun h => h.b1⟩
        · have : ¬ VRow r := fun h => h4 h.b0
          simp [h4, this]
      · have : ¬ VRow r := fun h => h3 h.b
        simp [h3, this]
    · have : ¬ VRow r := fun h => h2 ⟨by have := h.lo; omega, h.hi⟩
      have h3 : (decide (-90 * r.Height.Den ≤ r.Height.Num) && decide (r.Height.Num ≤ 90 * r.Height.Den)) = false := by
        rw [← Bool.not_eq_true]; simpa using h2
      simp [h3, this]
  · have : ¬ VRow r := fun h => h1 h.h
    simp [h1, this]
theorem risRow_eq (r : TRow) : m_R02_isRow r = some (decide ((0 ≤ r.Minute ∧ r.Minute ≤ 1439) ∧ VRow r)) := by
  unfold m_R02_isRow m_R02_isMinute
  rw [In_eq]
  by_cases h0 : 0 ≤ r.Minute ∧ r.Minute ≤ 1439
  · simp only [h0.1, h0.2, decide_true, Bool.and_self, Option.bind_some, Bool.not_true, Bool.false_eq_true, if_false, and_self, true_and]
    rw [risFrac_eq _ (by omega), Option.bind_some]
    by_cases h1 : vf r.Height 100 = true
    · have hv := vf_iff.1 h1
      simp only [h1, Bool.not_true, Bool.false_eq_true, if_false]
      rw [risFrac_eq _ (by omega), Option.bind_some]
      by_cases h3 : vf r.Bearing 100 = true
      · have hb := vf_iff.1 h3
        simp only [h3, Bool.not_true, Bool.false_eq_true, if_false]
        rw [In_eq, W_id (by omega), W_id (by omega)]
        by_cases h2 : -90 * r.Height.Den ≤ r.Height.Num ∧ r.Height.Num ≤ 90 * r.Height.Den
        · simp only [h2.1, h2.2, decide_true, Bool.and_self, Option.bind_some, if_true]
          rw [In_eq, W_id (z := 360 * r.Bearing.Den) (by omega), W_id (by omega)]
          simp only [Option.bind_some]
          congr 1
          rw [← Bool.decide_and]
          congr 1
          simp only [eq_iff_iff]
          exact ⟨fun h => ⟨h1, by omega, h2.2, h3, h.1, by omega⟩, fun h => ⟨h.b0, by have := h.b1; omega⟩⟩
        · have : ¬ VRow r := fun h => h2 ⟨by have := h.lo; omega, h.hi⟩
          have h3 : (decide (-90 * r.Height.Den ≤ r.Height.Num) && decide (r.Height.Num ≤ 90 * r.Height.Den)) = false := by
            rw [← Bool.not_eq_true]; simpa using h2
          simp [h3, this]
      · have : ¬ VRow r := fun h => h3 h.b
        simp [h3, this]
    · have : ¬ VRow r := fun h => h1 h.h
      simp [h1, this]
  · have h3 : (decide (0 ≤ r.Minute) && decide (r.Minute ≤ 1439)) = false := by
      rw [← Bool.not_eq_true]; simpa using h0
    simp [h3]
    try (intro a b; exact absurd ⟨a, b⟩ h0)
def okRow (l : List TRow) (k : Nat) : Prop := ∃ r, l[k]? = some r ∧ VRow r ∧ ∀ p, 0 < k → l[k - 1]? = some p → p.Minute < r.Minute ∧ fcmp p.Bearing r.Bearing ≤ 0
structure VSheet (s : TSheet) : Prop where
  src : 1 ≤ s.Source ∧ s.Source ≤ 99999
  night : 0 ≤ s.Night ∧ s.Night ≤ 100000
  known : 0 ≤ s.Known ∧ s.Known ≤ 100000
  until_ : s.Until = 0 ∨ (s.Known < s.Until ∧ s.Until ≤ 100000)
  len : 2 ≤ s.Rows.length ∧ s.Rows.length ≤ 12
  off : vf s.Off 100 = true
  off0 : 0 ≤ s.Off.Num
  off1 : s.Off.Num ≤ 90 * s.Off.Den
  light : 0 ≤ s.Light.Lo ∧ s.Light.Lo ≤ s.Light.Hi ∧ s.Light.Hi ≤ 1000
  rows : ∀ k, k < s.Rows.length → okRow s.Rows k
  first : ∀ r, s.Rows[0]? = some r → r.Minute = 0
  last : ∀ r, s.Rows[s.Rows.length - 1]? = some r → r.Minute = 1439
theorem VRow.smb {r : TRow} (h : VRow r) : Sm r.Bearing := vf_Sm (by omega) h.b
theorem VRow.smh {r : TRow} (h : VRow r) : Sm r.Height := vf_Sm (by omega) h.h
theorem rows_loop (s : TSheet) (hl : s.Rows.length ≤ 12) : ∃ e, loopF (m_moon_CheckSheet_L1 s) 0 = some e ∧ ((e = .inl (s.Rows.length : Int) ∧ ∀ k, k < s.Rows.length → okRow s.Rows k) ∨ (e = .inr 21 ∧ ∃ k, k < s.Rows.length ∧ ¬ okRow s.Rows k)) := by
  refine loopF_rule (fun i : Int => ∃ k : Nat, i = k ∧ k ≤ s.Rows.length ∧ ∀ j, j < k → okRow s.Rows j) (fun i : Int => s.Rows.length - i.toNat) _ ?_ 0 ⟨0, rfl, by omega, by omega⟩ (lt_FUEL (by omega))
  rintro i ⟨k, rfl, hk, hok⟩
  unfold m_moon_CheckSheet_L1
  by_cases hlt : k < s.Rows.length
  · have h1 : (k : Int) < (s.Rows.length : Int) := by omega
    simp only [h1, decide_true, if_true, idx_nat hlt, Option.bind_some, isRow_eq]
    by_cases hv : VRow s.Rows[k]
    · simp only [hv, decide_true, Bool.not_true, Bool.false_eq_true, if_false]
      by_cases h0 : 0 < k
      · have h2 : (k : Int) > 0 := by omega
        have hw : W ((k : Int) - 1) = ((k - 1 : Nat) : Int) := by rw [W_id (by omega)]; omega
        have hk1 : k - 1 < s.Rows.length := by omega
        simp only [h2, decide_true, if_true, hw, idx_nat hk1, Option.bind_some]
        by_cases hm : s.Rows[k - 1].Minute ≥ s.Rows[k].Minute
        · left
          refine ⟨.inr 21, by simp [hm], .inr ⟨rfl, k, hlt, fun ⟨r, e1, _, e2⟩ => ?_⟩⟩
          rw [List.getElem?_eq_getElem hlt] at e1; cases e1
          have := (e2 _ h0 (List.getElem?_eq_getElem hk1)).1; omega
        · obtain ⟨p, e1, e2, _⟩ := hok (k - 1) (by omega)
          rw [List.getElem?_eq_getElem hk1] at e1; cases e1
          simp only [hm, decide_false, Bool.false_eq_true, if_false]
          rw [compare_eq e2.smb hv.smb, Option.bind_some]
          by_cases hc : fcmp s.Rows[k - 1].Bearing s.Rows[k].Bearing > 0
          · left
            refine ⟨.inr 21, by simp [hc], .inr ⟨rfl, k, hlt, fun ⟨r, e1, _, e2⟩ => ?_⟩⟩
            rw [List.getElem?_eq_getElem hlt] at e1; cases e1
            have := (e2 _ h0 (List.getElem?_eq_getElem hk1)).2; omega
          · right
            refine ⟨W ((k : Int) + 1), by simp [hc], ⟨k + 1, by rw [W_s (by omega)]; rfl, by omega, fun j hj => ?_⟩, by rw [W_s (by omega)]; omega⟩
            by_cases e : j = k
            · subst e
              refine ⟨_, List.getElem?_eq_getElem hlt, hv, fun p hp e3 => ?_⟩
              rw [List.getElem?_eq_getElem hk1] at e3; cases e3
              exact ⟨by omega, by omega⟩
            · exact hok j (by omega)
      · right
        have hk0 : (decide ((k : Int) > 0)) = false := by simp; omega
        refine ⟨W ((k : Int) + 1), by rw [hk0]; simp, ⟨k + 1, by rw [W_s (by omega)]; rfl, by omega, fun j hj => ?_⟩, by rw [W_s (by omega)]; omega⟩
        obtain rfl : j = k := by omega
        exact ⟨_, List.getElem?_eq_getElem hlt, hv, fun p hp => by omega⟩
    · left
      refine ⟨.inr 21, by simp [hv], .inr ⟨rfl, k, hlt, fun ⟨r, e1, e2, _⟩ => ?_⟩⟩
      rw [List.getElem?_eq_getElem hlt] at e1; cases e1; exact hv e2
  · left
    have h1 : ¬ (k : Int) < (s.Rows.length : Int) := by omega
    obtain rfl : k = s.Rows.length := by omega
    exact ⟨.inl _, by simp, .inl ⟨rfl, hok⟩⟩
theorem rrows_loop (s : TSheet) (hl : s.Rows.length ≤ 12) : ∃ e, loopF (m_R02_CheckSheet_L1 s) 0 = some e ∧ ((e = .inl (s.Rows.length : Int) ∧ ∀ k, k < s.Rows.length → okRow s.Rows k ∧ ∃ r, s.Rows[k]? = some r ∧ 0 ≤ r.Minute ∧ r.Minute ≤ 1439) ∨ (e = .inr 21 ∧ ∃ k, k < s.Rows.length ∧ ¬ (okRow s.Rows k ∧ ∃ r, s.Rows[k]? = some r ∧ 0 ≤ r.Minute ∧ r.Minute ≤ 1439))) := by
  refine loopF_rule (fun i : Int => ∃ k : Nat, i = k ∧ k ≤ s.Rows.length ∧ ∀ j, j < k → okRow s.Rows j ∧ ∃ r, s.Rows[j]? = some r ∧ 0 ≤ r.Minute ∧ r.Minute ≤ 1439) (fun i : Int => s.Rows.length - i.toNat) _ ?_ 0 ⟨0, rfl, by omega, by omega⟩ (lt_FUEL (by omega))
  rintro i ⟨k, rfl, hk, hok⟩
  unfold m_R02_CheckSheet_L1
  by_cases hlt : k < s.Rows.length
  · have h1 : (k : Int) < (s.Rows.length : Int) := by omega
    simp only [h1, decide_true, if_true, idx_nat hlt, Option.bind_some, risRow_eq]
    by_cases hv : (0 ≤ s.Rows[k].Minute ∧ s.Rows[k].Minute ≤ 1439) ∧ VRow s.Rows[k]
    · simp only [hv, decide_true, Bool.not_true, Bool.false_eq_true, if_false, and_self]
      by_cases h0 : 0 < k
      · have h2 : (k : Int) > 0 := by omega
        have hw : W ((k : Int) - 1) = ((k - 1 : Nat) : Int) := by rw [W_id (by omega)]; omega
        have hk1 : k - 1 < s.Rows.length := by omega
        simp only [h2, decide_true, if_true, hw, idx_nat hk1, idx_nat hlt, Option.bind_some]
        by_cases hm : s.Rows[k - 1].Minute ≥ s.Rows[k].Minute
        · left
          refine ⟨.inr 21, by simp [hm], .inr ⟨rfl, k, hlt, fun ⟨⟨r, e1, _, e2⟩, _⟩ => ?_⟩⟩
          rw [List.getElem?_eq_getElem hlt] at e1; cases e1
          have := (e2 _ h0 (List.getElem?_eq_getElem hk1)).1; omega
        · obtain ⟨⟨p, e1, e2, _⟩, _⟩ := hok (k - 1) (by omega)
          rw [List.getElem?_eq_getElem hk1] at e1; cases e1
          simp only [hm, decide_false, Bool.false_eq_true, if_false]
          rw [sign_eq e2.smb hv.2.smb, Option.bind_some]
          by_cases hc : fcmp s.Rows[k - 1].Bearing s.Rows[k].Bearing > 0
          · left
            refine ⟨.inr 21, by simp [hc], .inr ⟨rfl, k, hlt, fun ⟨⟨r, e1, _, e2⟩, _⟩ => ?_⟩⟩
            rw [List.getElem?_eq_getElem hlt] at e1; cases e1
            have := (e2 _ h0 (List.getElem?_eq_getElem hk1)).2; omega
          · right
            refine ⟨W ((k : Int) + 1), by simp [hc], ⟨k + 1, by rw [W_s (by omega)]; rfl, by omega, fun j hj => ?_⟩, by rw [W_s (by omega)]; omega⟩
            by_cases e : j = k
            · subst e
              refine ⟨⟨_, List.getElem?_eq_getElem hlt, hv.2, fun p hp e3 => ?_⟩, _, List.getElem?_eq_getElem hlt, hv.1⟩
              rw [List.getElem?_eq_getElem hk1] at e3; cases e3
              exact ⟨by omega, by omega⟩
            · exact hok j (by omega)
      · right
        have hk0 : (decide ((k : Int) > 0)) = false := by simp; omega
        refine ⟨W ((k : Int) + 1), by rw [hk0]; simp, ⟨k + 1, by rw [W_s (by omega)]; rfl, by omega, fun j hj => ?_⟩, by rw [W_s (by omega)]; omega⟩
        obtain rfl : j = k := by omega
        exact ⟨⟨_, List.getElem?_eq_getElem hlt, hv.2, fun p hp => by omega⟩, _, List.getElem?_eq_getElem hlt, hv.1⟩
    · left
      refine ⟨.inr 21, by simp [hv], .inr ⟨rfl, k, hlt, fun ⟨⟨r, e1, e2, _⟩, r', e3, e4⟩ => ?_⟩⟩
      rw [List.getElem?_eq_getElem hlt] at e1 e3; cases e1; cases e3; exact hv ⟨e4, e2⟩
  · left
    have h1 : ¬ (k : Int) < (s.Rows.length : Int) := by omega
    obtain rfl : k = s.Rows.length := by omega
    exact ⟨.inl _, by simp, .inl ⟨rfl, hok⟩⟩
theorem lasts_eq (k u : Int) : m_moon_lasts k u = some (decide ((0 ≤ k ∧ k ≤ 100000) ∧ (u = 0 ∨ (k < u ∧ u ≤ 100000)))) := by
  unfold m_moon_lasts m_moon_isNight
  rw [within_eq]
  by_cases h0 : 0 ≤ k ∧ k ≤ 100000
  · by_cases h1 : u = 0
    · simp [h0, h1]
    · by_cases h2 : k < u
      · rw [within_eq]
        have : 0 ≤ u := by omega
        by_cases h3 : u ≤ 100000 <;> simp [h0, h1, h2, h3, this]
      · simp [h0, h1, h2]
  · have : (decide (0 ≤ k) && decide (k ≤ 100000)) = false := by rw [← Bool.not_eq_true]; simpa using h0
    simp [this]
    try (intro a b; exact absurd ⟨a, b⟩ h0)
theorem areTimes_eq (k u : Int) : m_R02_areTimes k u = some (decide ((0 ≤ k ∧ k ≤ 100000) ∧ (u = 0 ∨ (k < u ∧ u ≤ 100000)))) := by
  unfold m_R02_areTimes m_R02_isNight
  rw [In_eq]
  by_cases h0 : 0 ≤ k ∧ k ≤ 100000
  · by_cases h1 : u = 0
    · simp [h0, h1]
    · by_cases h2 : k < u
      · by_cases h3 : u ≤ 100000 <;> simp [h0, h1, h2, h3]
      · have : ¬ u > k := by omega
        simp [h0, h1, h2]
  · have : (decide (0 ≤ k) && decide (k ≤ 100000)) = false := by rw [← Bool.not_eq_true]; simpa using h0
    simp [this]
    try (intro a b; exact absurd ⟨a, b⟩ h0)
theorem band {p q : Prop} [Decidable p] [Decidable q] : (decide p && decide q) = decide (p ∧ q) := (Bool.decide_and p q).symm
theorem CheckSheet_eq (s : TSheet) : m_moon_CheckSheet s = some (if VSheet s then 0 else 21) := by
  have no : ∀ {P : Prop}, (VSheet s → P) → ¬ P → some (21 : Int) = some (if VSheet s then 0 else 21) := fun h hn => by
    rw [if_neg fun hv => hn (h hv)]
  unfold m_moon_CheckSheet m_moon_isNight
  simp only [within_eq, band, lasts_eq, Option.bind_some]
  by_cases h1 : 1 ≤ s.Source ∧ s.Source ≤ 99999
  rotate_left
  · simp only [h1, decide_false, Bool.not_false, if_true]; exact no (fun h => h.src) h1
  simp only [h1, and_self, decide_true, Bool.not_true, Bool.false_eq_true, if_false]
  by_cases h2 : 0 ≤ s.Night ∧ s.Night ≤ 100000
  rotate_left
  · simp only [h2, decide_false, Bool.not_false, if_true]; exact no (fun h => h.night) h2
  simp only [h2, and_self, decide_true, Bool.not_true, Bool.false_eq_true, if_false]
  by_cases h3 : (0 ≤ s.Known ∧ s.Known ≤ 100000) ∧ (s.Until = 0 ∨ (s.Known < s.Until ∧ s.Until ≤ 100000))
  rotate_left
  · simp only [h3, decide_false, Bool.not_false, if_true]; exact no (fun h => ⟨h.known, h.until_⟩) h3
  simp only [decide_eq_true h3, Bool.not_true, Bool.false_eq_true, if_false]
  by_cases h4 : 2 ≤ s.Rows.length ∧ s.Rows.length ≤ 12
  rotate_left
  · have : ¬ (2 ≤ (s.Rows.length : Int) ∧ (s.Rows.length : Int) ≤ 12) := by omega
    simp only [this, decide_false, Bool.not_false, if_true]; exact no (fun h => h.len) h4
  have h4' : 2 ≤ (s.Rows.length : Int) ∧ (s.Rows.length : Int) ≤ 12 := by omega
  simp only [h4', and_self, decide_true, Bool.not_true, Bool.false_eq_true, if_false]
  rw [isFrac_eq _ (by omega), Option.bind_some]
  by_cases h5 : vf s.Off 100 = true
  rotate_left
  · have h5' : vf s.Off 100 = false := by simpa using h5
    simp only [h5', Bool.not_false, if_true]; exact no (fun h => h.off) h5
  have hv := vf_iff.1 h5
  simp only [h5, Bool.not_true, Bool.false_eq_true, if_false]
  rw [W_id (z := 90 * s.Off.Den) (by omega)]
  by_cases h6 : 0 ≤ s.Off.Num ∧ s.Off.Num ≤ 90 * s.Off.Den
  rotate_left
  · simp only [h6, decide_false, Bool.not_false, if_true]; exact no (fun h => ⟨h.off0, h.off1⟩) h6
  simp only [h6, and_self, decide_true, Bool.not_true, Bool.false_eq_true, if_false]
  by_cases h7 : 0 ≤ s.Light.Lo ∧ s.Light.Lo ≤ s.Light.Hi ∧ s.Light.Hi ≤ 1000
  rotate_left
  · have : ¬ (0 > s.Light.Lo) → ¬ (s.Light.Lo > s.Light.Hi) → s.Light.Hi > 1000 := fun a b => by
      apply Int.lt_of_not_ge; intro c; exact h7 ⟨by omega, by omega, c⟩
    by_cases a : 0 > s.Light.Lo
    · simp only [a, decide_true, if_true]; exact no (fun h => h.light) h7
    · by_cases b : s.Light.Lo > s.Light.Hi
      · simp only [a, b, decide_true, decide_false, Bool.false_eq_true, if_false, if_true]; exact no (fun h => h.light) h7
      · simp only [a, b, this a b, decide_true, decide_false, Bool.false_eq_true, if_false, if_true]; exact no (fun h => h.light) h7
  have a1 : ¬ (0 > s.Light.Lo) := by omega
  have a2 : ¬ (s.Light.Lo > s.Light.Hi) := by omega
  have a3 : ¬ (s.Light.Hi > 1000) := by omega
  simp only [a1, a2, a3, decide_false, Bool.false_eq_true, if_false]
  obtain ⟨e, he, hq⟩ := rows_loop s h4.2
  rw [he, Option.bind_some]
  rcases hq with ⟨rfl, hok⟩ | ⟨rfl, k, hk, hno⟩
  · have hlen : 0 < s.Rows.length := by omega
    have hi0 : idx s.Rows 0 = some s.Rows[0] := idx_nat (k := 0) hlen
    have hw : W ((s.Rows.length : Int) - 1) = ((s.Rows.length - 1 : Nat) : Int) := by rw [W_id (by omega)]; omega
    have hl1 : s.Rows.length - 1 < s.Rows.length := by omega
    simp only [hi0, Option.bind_some, hw, idx_nat hl1]
    by_cases h8 : s.Rows[0].Minute = 0
    rotate_left
    · simp only [bne_iff_ne, ne_eq, h8, not_false_eq_true, if_true]
      exact no (P := s.Rows[0].Minute = 0) (fun h => h.first _ (List.getElem?_eq_getElem hlen)) h8
    by_cases h9 : s.Rows[s.Rows.length - 1].Minute = 1439
    rotate_left
    · simp only [bne_iff_ne, ne_eq, h8, h9, not_false_eq_true, if_true, not_true_eq_false, if_false]
      exact no (P := s.Rows[s.Rows.length - 1].Minute = 1439) (fun h => h.last _ (List.getElem?_eq_getElem hl1)) h9
    simp only [bne_iff_ne, ne_eq, h8, h9, not_true_eq_false, if_false]
    rw [if_pos]
    exact ⟨h1, h2, h3.1, h3.2, h4, h5, h6.1, h6.2, h7, hok, fun r hr => by rw [List.getElem?_eq_getElem hlen] at hr; cases hr; exact h8, fun r hr => by rw [List.getElem?_eq_getElem hl1] at hr; cases hr; exact h9⟩
  · exact no (P := okRow s.Rows k) (fun h => h.rows k hk) hno
theorem row_at {l : List TRow} {k : Nat} (h : k < l.length) (ho : okRow l k) : VRow l[k] ∧ ∀ h0 : 0 < k, l[k - 1].Minute < l[k].Minute ∧ fcmp l[k - 1].Bearing l[k].Bearing ≤ 0 := by
  obtain ⟨r, e1, e2, e3⟩ := ho
  rw [List.getElem?_eq_getElem h] at e1; cases e1
  exact ⟨e2, fun h0 => e3 _ h0 (List.getElem?_eq_getElem (by omega))⟩
theorem rows_mono {l : List TRow} (h : ∀ k, k < l.length → okRow l k) : ∀ (j i : Nat) (hi : i < l.length) (hj : j < l.length), i ≤ j → l[i].Minute ≤ l[j].Minute
  | 0, i, hi, hj, hij => by
    obtain rfl : i = 0 := by omega
    exact Int.le_refl _
  | j + 1, i, hi, hj, hij => by
    by_cases e : i = j + 1
    · subst e; exact Int.le_refl _
    · have h1 := rows_mono h j i hi (by omega) (by omega)
      have h2 := ((row_at hj (h _ hj)).2 (by omega)).1
      simp only [Nat.add_sub_cancel] at h2
      omega
theorem rCheckSheet_eq (s : TSheet) : m_R02_CheckSheet s = some (if VSheet s then 0 else 21) := by
  have no : ∀ {P : Prop}, (VSheet s → P) → ¬ P → some (21 : Int) = some (if VSheet s then 0 else 21) := fun h hn => by
    rw [if_neg fun hv => hn (h hv)]
  unfold m_R02_CheckSheet m_R02_isNight
  simp only [In_eq, band, areTimes_eq, Option.bind_some]
  by_cases h1 : 1 ≤ s.Source ∧ s.Source ≤ 99999
  rotate_left
  · simp only [h1, decide_false, Bool.not_false, if_true]; exact no (fun h => h.src) h1
  simp only [h1, and_self, decide_true, Bool.not_true, Bool.false_eq_true, if_false]
  by_cases h2 : 0 ≤ s.Night ∧ s.Night ≤ 100000
  rotate_left
  · simp only [h2, decide_false, Bool.not_false, if_true]; exact no (fun h => h.night) h2
  simp only [h2, and_self, decide_true, Bool.not_true, Bool.false_eq_true, if_false]
  by_cases h3 : (0 ≤ s.Known ∧ s.Known ≤ 100000) ∧ (s.Until = 0 ∨ (s.Known < s.Until ∧ s.Until ≤ 100000))
  rotate_left
  · simp only [h3, decide_false, Bool.not_false, if_true]; exact no (fun h => ⟨h.known, h.until_⟩) h3
  simp only [decide_eq_true h3, Bool.not_true, Bool.false_eq_true, if_false]
  by_cases h4 : 2 ≤ s.Rows.length ∧ s.Rows.length ≤ 12
  rotate_left
  · have : ¬ (2 ≤ (s.Rows.length : Int) ∧ (s.Rows.length : Int) ≤ 12) := by omega
    simp only [this, decide_false, Bool.not_false, if_true]; exact no (fun h => h.len) h4
  have h4' : 2 ≤ (s.Rows.length : Int) ∧ (s.Rows.length : Int) ≤ 12 := by omega
  simp only [h4', and_self, decide_true, Bool.not_true, Bool.false_eq_true, if_false]
  have hlen : 0 < s.Rows.length := by omega
  have hl1 : s.Rows.length - 1 < s.Rows.length := by omega
  obtain ⟨e, he, hq⟩ := rrows_loop s h4.2
  rw [he, Option.bind_some]
  rcases hq with ⟨rfl, hok⟩ | ⟨rfl, k, hk, hno⟩
  rotate_left
  · refine no (P := okRow s.Rows k ∧ ∃ r, s.Rows[k]? = some r ∧ 0 ≤ r.Minute ∧ r.Minute ≤ 1439) (fun h => ⟨h.rows k hk, _, List.getElem?_eq_getElem hk, ?_, ?_⟩) hno
    · have := rows_mono h.rows k 0 hlen hk (by omega)
      rw [h.first _ (List.getElem?_eq_getElem hlen)] at this; exact this
    · have := rows_mono h.rows (s.Rows.length - 1) k hk hl1 (by omega)
      rw [h.last _ (List.getElem?_eq_getElem hl1)] at this; exact this
  have hi0 : idx s.Rows 0 = some s.Rows[0] := idx_nat (k := 0) hlen
  have hw : W ((s.Rows.length : Int) - 1) = ((s.Rows.length - 1 : Nat) : Int) := by rw [W_id (by omega)]; omega
  simp only [hi0, Option.bind_some, hw, idx_nat hl1]
  by_cases h8 : s.Rows[0].Minute = 0
  rotate_left
  · simp only [bne_iff_ne, ne_eq, h8, not_false_eq_true, if_true]
    exact no (P := s.Rows[0].Minute = 0) (fun h => h.first _ (List.getElem?_eq_getElem hlen)) h8
  by_cases h9 : s.Rows[s.Rows.length - 1].Minute = 1439
  rotate_left
  · simp only [bne_iff_ne, ne_eq, h8, h9, not_false_eq_true, if_true, not_true_eq_false, if_false]
    exact no (P := s.Rows[s.Rows.length - 1].Minute = 1439) (fun h => h.last _ (List.getElem?_eq_getElem hl1)) h9
  simp only [bne_iff_ne, ne_eq, h8, h9, not_true_eq_false, if_false]
  rw [risFrac_eq _ (by omega), Option.bind_some]
  by_cases h5 : vf s.Off 100 = true
  rotate_left
  · have h5' : vf s.Off 100 = false := by simpa using h5
    simp only [h5', Bool.not_false, if_true]; exact no (fun h => h.off) h5
  have hv := vf_iff.1 h5
  simp only [h5, Bool.not_true, Bool.false_eq_true, if_false]
  rw [W_id (z := 90 * s.Off.Den) (by omega)]
  by_cases h6 : 0 ≤ s.Off.Num ∧ s.Off.Num ≤ 90 * s.Off.Den
  rotate_left
  · simp only [h6, decide_false, Bool.not_false, if_true]; exact no (fun h => ⟨h.off0, h.off1⟩) h6
  simp only [h6, and_self, decide_true, Bool.not_true, Bool.false_eq_true, if_false]
  by_cases h7 : 0 ≤ s.Light.Lo ∧ s.Light.Lo ≤ s.Light.Hi ∧ s.Light.Hi ≤ 1000
  rotate_left
  · have : ¬ (s.Light.Lo < 0) → ¬ (s.Light.Lo > s.Light.Hi) → s.Light.Hi > 1000 := fun a b => by
      apply Int.lt_of_not_ge; intro c; exact h7 ⟨by omega, by omega, c⟩
    by_cases a : s.Light.Lo < 0
    · simp only [a, decide_true, if_true]; exact no (fun h => h.light) h7
    · by_cases b : s.Light.Lo > s.Light.Hi
      · simp only [a, b, decide_true, decide_false, Bool.false_eq_true, if_false, if_true]; exact no (fun h => h.light) h7
      · simp only [a, b, this a b, decide_true, decide_false, Bool.false_eq_true, if_false, if_true]; exact no (fun h => h.light) h7
  have a1 : ¬ (s.Light.Lo < 0) := by omega
  have a2 : ¬ (s.Light.Lo > s.Light.Hi) := by omega
  have a3 : ¬ (s.Light.Hi > 1000) := by omega
  simp only [a1, a2, a3, decide_false, Bool.false_eq_true, if_false]
  rw [if_pos]
  exact ⟨h1, h2, h3.1, h3.2, h4, h5, h6.1, h6.2, h7, fun k hk => (hok k hk).1, fun r hr => by rw [List.getElem?_eq_getElem hlen] at hr; cases hr; exact h8, fun r hr => by rw [List.getElem?_eq_getElem hl1] at hr; cases hr; exact h9⟩
end Go.Proofs.Ytdhjccionnbljaa
namespace Go.Proofs.Ytdhjccionnbljaa
open Go Go.Sx
open Classical
structure VRoof (r : TRoof) : Prop where
  a : 0 ≤ r.From
  b : r.From < r.To
  c : r.To ≤ 360
  d : 0 ≤ r.Top
  e : r.Top ≤ 90
theorem CheckRoof_eq (r : TRoof) : m_moon_CheckRoof r = some (if VRoof r then 0 else 22) := by
  unfold m_moon_CheckRoof
  simp only [within_eq, band, Option.bind_some]
  by_cases h : VRoof r
  · obtain ⟨a, b, c, d, e⟩ := id h
    have h1 : ¬ 0 > r.From := by omega
    have h2 : ¬ r.From ≥ r.To := by omega
    have h3 : ¬ r.To > 360 := by omega
    simp [h, h1, h2, h3, d, e]
  · rw [if_neg h]
    by_cases h1 : 0 > r.From
    · simp [h1]
    · by_cases h2 : r.From ≥ r.To
      · simp [h1, h2]
      · by_cases h3 : r.To > 360
        · simp [h1, h2, h3]
        · have : ¬ (0 ≤ r.Top ∧ r.Top ≤ 90) := fun h4 => h ⟨by omega, by omega, by omega, h4.1, h4.2⟩
          simp only [h1, h2, h3, this, decide_false, Bool.not_false, Bool.false_eq_true, if_false, if_true]
theorem rCheckRoof_eq (r : TRoof) : m_R02_CheckRoof r = some (if VRoof r then 0 else 22) := CheckRoof_eq r
theorem roofs_loop (l : List TRoof) (hl : l.length ≤ maxLen) : ∃ e, loopF (m_moon_areRoofs_L1 l) 0 = some e ∧ ((e = .inl (l.length : Int) ∧ ∀ r, r ∈ l → VRoof r) ∨ (e = .inr false ∧ ¬ ∀ r, r ∈ l → VRoof r)) := by
  unfold maxLen at hl
  refine loopF_rule (fun i : Int => ∃ k : Nat, i = k ∧ k ≤ l.length ∧ ∀ j (h : j < l.length), j < k → VRoof l[j]) (fun i : Int => l.length - i.toNat) _ ?_ 0 ⟨0, rfl, by omega, by omega⟩ (lt_FUEL (by omega))
  rintro i ⟨k, rfl, hk, hok⟩
  unfold m_moon_areRoofs_L1
  by_cases hlt : k < l.length
  · have h1 : (k : Int) < (l.length : Int) := by omega
    simp only [h1, decide_true, if_true, idx_nat hlt, Option.bind_some, CheckRoof_eq]
    by_cases hv : VRoof l[k]
    · right
      refine ⟨W ((k : Int) + 1), by simp [hv], ⟨k + 1, by rw [W_s (by omega)]; rfl, by omega, fun j h hj => ?_⟩, by rw [W_s (by omega)]; omega⟩
      by_cases e : j = k
      · subst e; exact hv
      · exact hok j h (by omega)
    · left
      exact ⟨.inr false, by simp [hv], .inr ⟨rfl, fun h => hv (h _ (List.getElem_mem hlt))⟩⟩
  · left
    have h1 : ¬ (k : Int) < (l.length : Int) := by omega
    obtain rfl : k = l.length := by omega
    refine ⟨.inl _, by simp, .inl ⟨rfl, fun r hr => ?_⟩⟩
    obtain ⟨j, hj, rfl⟩ := List.mem_iff_getElem.1 hr
    exact hok j hj hj
structure VRoofs (l : List TRoof) : Prop where
  all : ∀ r, r ∈ l → VRoof r
  len : l.length ≤ 12
theorem areRoofs_eq (l : List TRoof) (hl : l.length ≤ maxLen) : m_moon_areRoofs l = some (decide (VRoofs l)) := by
  unfold m_moon_areRoofs
  obtain ⟨e, he, hq⟩ := roofs_loop l hl
  rw [he, Option.bind_some]
  rcases hq with ⟨rfl, h⟩ | ⟨rfl, h⟩
  · by_cases h12 : l.length ≤ 12
    · have : VRoofs l := ⟨h, h12⟩
      have h' : (l.length : Int) ≤ 12 := by omega
      simp [this, h']
    · have : ¬ VRoofs l := fun h => h12 h.len
      have h' : ¬ (l.length : Int) ≤ 12 := by omega
      simp [this, h']
  · have : ¬ VRoofs l := fun k => h k.all
    simp [this]
theorem rroofs_L1 : m_R02_areRoofs_L1 = m_moon_areRoofs_L1 := rfl
theorem rareRoofs_eq (l : List TRoof) : m_R02_areRoofs l = some (decide (VRoofs l)) := by
  unfold m_R02_areRoofs
  by_cases h12 : l.length ≤ 12
  · have h' : ¬ (l.length : Int) > 12 := by omega
    rw [rroofs_L1]
    obtain ⟨e, he, hq⟩ := roofs_loop l (by unfold maxLen; omega)
    rw [he]
    rcases hq with ⟨rfl, h⟩ | ⟨rfl, h⟩
    · have : VRoofs l := ⟨h, h12⟩
      simp [this, h']
    · have : ¬ VRoofs l := fun k => h k.all
      simp [this, h']
  · have : ¬ VRoofs l := fun h => h12 h.len
    have h' : (l.length : Int) > 12 := by omega
    simp [this, h']
def hzf (g : TFrac) (top : Int) (r : TRoof) : Int := if fcmp ⟨r.From, 1⟩ g ≤ 0 ∧ fcmp ⟨r.To, 1⟩ g > 0 then (if r.Top > top then r.Top else top) else top
def hz (l : List TRoof) (g : TFrac) : Int := l.foldl (hzf g) 0
theorem Sm_whole {n : Int} (h : -360 ≤ n ∧ n ≤ 360) : Sm ⟨n, 1⟩ := ⟨by simp, by simp, by simp; omega, by simp; omega⟩
theorem foldl_drop {α β : Type} {f : β → α → β} {l : List α} {k : Nat} (h : k < l.length) (b : β) : (l.drop k).foldl f b = (l.drop (k + 1)).foldl f (f b l[k]) := by
  rw [List.drop_eq_getElem_cons h]; rfl
theorem horizon_eq {l : List TRoof} (hl : VRoofs l) {g : TFrac} (hg : Sm g) : m_moon_horizon l g = some (hz l g) := by
  unfold m_moon_horizon
  have h12 := hl.len
  obtain ⟨e, he, hq⟩ := loopF_rule (body := m_moon_horizon_L1 l g) (fun s : Int × Int => ∃ k : Nat, s.2 = k ∧ k ≤ l.length ∧ (l.drop k).foldl (hzf g) s.1 = hz l g) (fun s => l.length - s.2.toNat) (fun e => e.1 = hz l g) (by
    rintro ⟨top, i⟩ ⟨k, rfl, hk, hf⟩
    simp only at hf ⊢
    unfold m_moon_horizon_L1
    by_cases hlt : k < l.length
    · have h1 : (k : Int) < (l.length : Int) := by omega
      have hr := hl.all _ (List.getElem_mem hlt)
      have s1 : Sm ⟨l[k].From, 1⟩ := Sm_whole (by have := hr.a; have := hr.b; have := hr.c; omega)
      have s2 : Sm ⟨l[k].To, 1⟩ := Sm_whole (by have := hr.a; have := hr.b; have := hr.c; omega)
      rw [foldl_drop hlt] at hf
      right
      refine ⟨(hzf g top l[k], W ((k : Int) + 1)), ?_, ⟨k + 1, by rw [W_s (by omega)]; rfl, by omega, hf⟩, by simp only; rw [W_s (by omega)]; omega⟩
      simp only [h1, decide_true, if_true, idx_nat hlt, Option.bind_some, m_moon_whole]
      rw [compare_eq s1 hg, Option.bind_some]
      by_cases c1 : fcmp ⟨l[k].From, 1⟩ g ≤ 0
      · simp only [c1, decide_true, if_true]
        rw [compare_eq s2 hg, Option.bind_some]
        by_cases c2 : fcmp ⟨l[k].To, 1⟩ g > 0
        · simp [c2, c1, hzf]
        · simp [c2, c1, hzf]
      · simp [c1, hzf]
    · left
      have h1 : ¬ (k : Int) < (l.length : Int) := by omega
      rw [List.drop_of_length_le (by omega)] at hf
      exact ⟨(top, (k : Int)), by simp [h1], hf⟩) (0, 0) ⟨0, rfl, by omega, rfl⟩ (lt_FUEL (by omega))
  obtain ⟨top, i⟩ := e
  rw [he]; simp only at hq; subst hq; rfl
theorem rhorizon_eq {l : List TRoof} (hl : VRoofs l) {g : TFrac} (hg : Sm g) : m_R02_horizon l g = some (hz l g) := by
  unfold m_R02_horizon
  have h12 := hl.len
  obtain ⟨e, he, hq⟩ := loopF_rule (body := m_R02_horizon_L1 l g) (fun s : Int × Int => ∃ k : Nat, s.2 = k ∧ k ≤ l.length ∧ (l.drop k).foldl (hzf g) s.1 = hz l g) (fun s => l.length - s.2.toNat) (fun e => e.1 = hz l g) (by
    rintro ⟨top, i⟩ ⟨k, rfl, hk, hf⟩
    simp only at hf ⊢
    unfold m_R02_horizon_L1
    by_cases hlt : k < l.length
    · have h1 : (k : Int) < (l.length : Int) := by omega
      have hr := hl.all _ (List.getElem_mem hlt)
      have s1 : Sm ⟨l[k].From, 1⟩ := Sm_whole (by have := hr.a; have := hr.b; have := hr.c; omega)
      have s2 : Sm ⟨l[k].To, 1⟩ := Sm_whole (by have := hr.a; have := hr.b; have := hr.c; omega)
      rw [foldl_drop hlt] at hf
      right
      refine ⟨(hzf g top l[k], W ((k : Int) + 1)), ?_, ⟨k + 1, by rw [W_s (by omega)]; rfl, by omega, hf⟩, by simp only; rw [W_s (by omega)]; omega⟩
      simp only [h1, decide_true, if_true, idx_nat hlt, Option.bind_some, m_R02_whole]
      rw [sign_eq s1 hg, Option.bind_some]
      by_cases c1 : fcmp ⟨l[k].From, 1⟩ g ≤ 0
      · simp only [c1, decide_true, if_true]
        rw [sign_eq hg s2, Option.bind_some]
        have han := fcmp_anti ⟨l[k].To, 1⟩ g
        by_cases c2 : fcmp ⟨l[k].To, 1⟩ g > 0
        · have c3 : fcmp g ⟨l[k].To, 1⟩ < 0 := by omega
          simp [c2, c1, c3, hzf]
        · have c3 : ¬ fcmp g ⟨l[k].To, 1⟩ < 0 := by omega
          simp [c2, c1, c3, hzf]
      · simp [c1, hzf]
    · left
      have h1 : ¬ (k : Int) < (l.length : Int) := by omega
      rw [List.drop_of_length_le (by omega)] at hf
      exact ⟨(top, (k : Int)), by simp [h1], hf⟩) (0, 0) ⟨0, rfl, by omega, rfl⟩ (lt_FUEL (by omega))
  obtain ⟨top, i⟩ := e
  rw [he]; simp only at hq; subst hq; rfl
theorem hz_bd {l : List TRoof} (hl : ∀ r, r ∈ l → VRoof r) (g : TFrac) : 0 ≤ hz l g ∧ hz l g ≤ 90 := by
  have : ∀ (l : List TRoof) (b : Int), (∀ r, r ∈ l → VRoof r) → 0 ≤ b ∧ b ≤ 90 → 0 ≤ l.foldl (hzf g) b ∧ l.foldl (hzf g) b ≤ 90 := by
    intro l
    induction l with
    | nil => intro b _ h; exact h
    | cons r l ih =>
      intro b h hb
      refine ih _ (fun r hr => h r (List.mem_cons_of_mem _ hr)) ?_
      have hr := h r List.mem_cons_self
      have := hr.d; have := hr.e
      unfold hzf; split <;> (try split) <;> omega
  exact this l 0 hl (by omega)
theorem rd_eq {n d n' d' : Int} (hd : 0 < d) (hd' : 0 < d') (h : n * d' = n' * d) : rd n d = rd n' d' := by
  have key : ∀ {n d : Int}, 0 < d → Nat.gcd (rd n d).Num.natAbs (rd n d).Den.natAbs = 1 := by
    intro n d hd
    have hp := gcd_pos (n := n) hd
    have e1 : (rd n d).Num.natAbs = n.natAbs / Nat.gcd n.natAbs d.natAbs := by
      unfold rd; simp only; rw [Int.natAbs_ediv_of_dvd (gcd_dvd_n n d)]; rfl
    have e2 : (rd n d).Den.natAbs = d.natAbs / Nat.gcd n.natAbs d.natAbs := by
      unfold rd; simp only; rw [Int.natAbs_ediv_of_dvd (gcd_dvd_d n d)]; rfl
    rw [e1, e2]
    exact Nat.gcd_div_gcd_div_gcd_of_pos_right (by omega)
  have k1 := key (n := n) hd
  have k2 := key (n := n') hd'
  obtain ⟨g, hg, e1, e2, p1⟩ := rd_spec (n := n) hd
  obtain ⟨g', hg', e3, e4, p2⟩ := rd_spec (n := n') hd'
  generalize rd n d = p at *
  generalize rd n' d' = q at *
  have hx : p.Num * q.Den = q.Num * p.Den := by
    rw [e1, e2, e3, e4] at h
    have h2 : (g * g') * (p.Num * q.Den) = (g * g') * (q.Num * p.Den) := by
      have a : (g * g') * (p.Num * q.Den) = g * p.Num * (g' * q.Den) := by ac_rfl
      have b : (g * g') * (q.Num * p.Den) = g' * q.Num * (g * p.Den) := by ac_rfl
      rw [a, b]; exact h
    exact Int.eq_of_mul_eq_mul_left (by have := Int.mul_pos hg hg'; omega) h2
  have hn : p.Num.natAbs * q.Den.natAbs = q.Num.natAbs * p.Den.natAbs := by
    rw [← Int.natAbs_mul, ← Int.natAbs_mul, hx]
  have d1 : p.Den.natAbs ∣ q.Den.natAbs := by
    have : p.Den.natAbs ∣ p.Num.natAbs * q.Den.natAbs := ⟨q.Num.natAbs, by rw [hn, Nat.mul_comm]⟩
    exact Nat.Coprime.dvd_of_dvd_mul_left (Nat.Coprime.symm k1) this
  have d2 : q.Den.natAbs ∣ p.Den.natAbs := by
    have : q.Den.natAbs ∣ q.Num.natAbs * p.Den.natAbs := ⟨p.Num.natAbs, by rw [← hn, Nat.mul_comm]⟩
    exact Nat.Coprime.dvd_of_dvd_mul_left (Nat.Coprime.symm k2) this
  have hden : p.Den = q.Den := by
    have := Nat.dvd_antisymm d1 d2; omega
  have hnum : p.Num = q.Num := by
    rw [hden] at hx
    exact Int.eq_of_mul_eq_mul_right (by omega) hx
  cases p; cases q; simp_all
def segN (a b : TFrac) (m n t : Int) : Int := a.Num * b.Den * (n - m) + (b.Num * a.Den - a.Num * b.Den) * (t - m)
def segD (a b : TFrac) (m n : Int) : Int := a.Den * b.Den * (n - m)
def seg (a b : TFrac) (m n t : Int) : TFrac := rd (segN a b m n t) (segD a b m n)
structure SegOK (a b : TFrac) (m n t : Int) : Prop where
  va : vf a 100 = true
  vb : vf b 100 = true
  mn : m < n
  mt : m ≤ t
  tn : t ≤ n
  m0 : 0 ≤ m
  n1 : n ≤ 1439
theorem SegOK.facts {a b : TFrac} {m n t : Int} (h : SegOK a b m n t) : (-3600000 ≤ a.Num * b.Den ∧ a.Num * b.Den ≤ 3600000) ∧ (-3600000 ≤ b.Num * a.Den ∧ b.Num * a.Den ≤ 3600000) ∧ (1 ≤ a.Den * b.Den ∧ a.Den * b.Den ≤ 10000) := by
  obtain ⟨a1, a2, a3, a4⟩ := vf_iff.1 h.va
  obtain ⟨b1, b2, b3, b4⟩ := vf_iff.1 h.vb
  have h1 := mul_bd (a := a.Num) (b := b.Den) (A := 36000) (B := 100) (by omega) (by omega)
  have h2 := mul_bd (a := b.Num) (b := a.Den) (A := 36000) (B := 100) (by omega) (by omega)
  have h3 := mul_bd (a := a.Den) (b := b.Den) (A := 100) (B := 100) (by omega) (by omega)
  have h4 : 0 < a.Den * b.Den := Int.mul_pos (by omega) (by omega)
  exact ⟨by omega, by omega, by omega, by omega⟩
theorem SegOK.den {a b : TFrac} {m n t : Int} (h : SegOK a b m n t) : 0 < segD a b m n ∧ segD a b m n ≤ 14390000 := by
  obtain ⟨_, _, h1, h2⟩ := h.facts
  have := h.mn; have := h.m0; have := h.n1
  have h3 := mul_bd (a := a.Den * b.Den) (b := n - m) (A := 10000) (B := 1439) (by omega) (by omega)
  have h4 : 0 < a.Den * b.Den * (n - m) := Int.mul_pos (by omega) (by omega)
  unfold segD; omega
theorem segN_alt (a b : TFrac) (m n t : Int) : segN a b m n t = a.Num * b.Den * (n - t) + b.Num * a.Den * (t - m) := by
  unfold segN
  rw [Int.sub_mul]
  have : a.Num * b.Den * (n - m) = a.Num * b.Den * (n - t) + a.Num * b.Den * (t - m) := by rw [← Int.mul_add]; congr 1; omega
  omega
theorem SegOK.num {a b : TFrac} {m n t : Int} (h : SegOK a b m n t) : -(360 * segD a b m n) ≤ segN a b m n t ∧ segN a b m n t ≤ 360 * segD a b m n := by
  obtain ⟨a1, a2, a3, a4⟩ := vf_iff.1 h.va
  obtain ⟨b1, b2, b3, b4⟩ := vf_iff.1 h.vb
  have := h.mt; have := h.tn
  have p : ∀ {x d e u : Int}, 0 ≤ e → 0 ≤ u → -(360 * d) ≤ x → x ≤ 360 * d → -(360 * (d * e * u)) ≤ x * e * u ∧ x * e * u ≤ 360 * (d * e * u) := by
    intro x d e u he hu h1 h2
    have q1 := Int.mul_le_mul_of_nonneg_right (Int.mul_le_mul_of_nonneg_right h1 he) hu
    have q2 := Int.mul_le_mul_of_nonneg_right (Int.mul_le_mul_of_nonneg_right h2 he) hu
    have e1 : -(360 * d) * e * u = -(360 * (d * e * u)) := by simp only [Int.neg_mul, Int.mul_assoc]
    have e2 : 360 * d * e * u = 360 * (d * e * u) := by simp only [Int.mul_assoc]
    omega
  have p1 := p (x := a.Num) (d := a.Den) (e := b.Den) (u := n - t) (by omega) (by omega) a3 a4
  have p2 := p (x := b.Num) (d := b.Den) (e := a.Den) (u := t - m) (by omega) (by omega) b3 b4
  have e1 : segD a b m n = a.Den * b.Den * (n - t) + b.Den * a.Den * (t - m) := by
    unfold segD
    rw [Int.mul_comm b.Den a.Den, ← Int.mul_add]; congr 1; omega
  rw [segN_alt, e1]
  omega
theorem SegOK.vf {a b : TFrac} {m n t : Int} (h : SegOK a b m n t) : vf (seg a b m n t) 20000000 = true := by
  obtain ⟨h1, h2⟩ := h.den
  obtain ⟨h3, h4⟩ := h.num
  exact vf_rd (x := ⟨segN a b m n t, segD a b m n⟩) (vf_iff.2 ⟨by simp only; omega, by simp only; omega, h3, h4⟩)
theorem SegOK.wraps {a b : TFrac} {m n t : Int} (h : SegOK a b m n t) :
    W (W (W (a.Num * b.Den) * (n - m)) + W (W (W (b.Num * a.Den) - W (a.Num * b.Den)) * (t - m))) = segN a b m n t ∧ W (W (a.Den * b.Den) * (n - m)) = segD a b m n := by
  obtain ⟨f1, f2, f3⟩ := h.facts
  have := h.mn; have := h.mt; have := h.tn; have := h.m0; have := h.n1
  have p1 := mul_bd (a := a.Num * b.Den) (b := n - m) (A := 3600000) (B := 1439) (by omega) (by omega)
  have p2 := mul_bd (a := b.Num * a.Den - a.Num * b.Den) (b := t - m) (A := 7200000) (B := 1439) (by omega) (by omega)
  have p3 := mul_bd (a := a.Den * b.Den) (b := n - m) (A := 10000) (B := 1439) (by omega) (by omega)
  rw [W_id (z := a.Num * b.Den) (by omega), W_id (z := b.Num * a.Den) (by omega), W_id (z := a.Den * b.Den) (by omega), W_id (z := b.Num * a.Den - a.Num * b.Den) (by omega),
    W_id (z := a.Num * b.Den * (n - m)) (by omega), W_id (z := (b.Num * a.Den - a.Num * b.Den) * (t - m)) (by omega), W_id (z := a.Den * b.Den * (n - m)) (by omega), W_id (by omega)]
  exact ⟨rfl, rfl⟩
theorem SegOK.I {a b : TFrac} {m n t : Int} (h : SegOK a b m n t) : I64 (segN a b m n t) ∧ I64 (segD a b m n) := by
  obtain ⟨h1, h2⟩ := h.den
  obtain ⟨h3, h4⟩ := h.num
  omega
theorem between_eq {a b : TFrac} {m n t : Int} (h : SegOK a b m n t) : m_moon_between a b (W (t - m)) (W (n - m)) = some (seg a b m n t) := by
  have := h.mn; have := h.mt; have := h.tn; have := h.m0; have := h.n1
  unfold m_moon_between
  rw [W_id (z := t - m) (by omega), W_id (z := n - m) (by omega), h.wraps.1, h.wraps.2, least_eq h.I.1 h.den.1 h.I.2]
  rfl
theorem rbetween_eq {a b : TFrac} {m n t : Int} (h : SegOK a b m n t) : m_R02_between a b (m, n, t) = some (seg a b m n t) := by
  have := h.mn; have := h.mt; have := h.tn; have := h.m0; have := h.n1
  unfold m_R02_between
  simp only
  rw [W_id (z := t - m) (by omega), W_id (z := n - m) (by omega), h.wraps.1, h.wraps.2, frac_eq h.I.1 h.den.1 h.I.2]
  rfl
theorem seg_end {a b : TFrac} {m n : Int} (h : SegOK a b m n n) : seg a b m n n = rd b.Num b.Den := by
  obtain ⟨b1, _⟩ := vf_iff.1 h.vb
  refine rd_eq h.den.1 (by omega) ?_
  rw [segN_alt]; unfold segD
  rw [Int.sub_self, Int.mul_zero, Int.zero_add]; ac_rfl
theorem seg_start {a b : TFrac} {m n : Int} (h : SegOK a b m n m) : seg a b m n m = rd a.Num a.Den := by
  obtain ⟨a1, _⟩ := vf_iff.1 h.va
  refine rd_eq h.den.1 (by omega) ?_
  rw [segN_alt]; unfold segD
  rw [Int.sub_self, Int.mul_zero, Int.add_zero]; ac_rfl
end Go.Proofs.Ytdhjccionnbljaa
namespace Go.Proofs.Ytdhjccionnbljaa
open Go Go.Sx
open Classical
theorem VSheet.pos {s : TSheet} (hs : VSheet s) : 0 < s.Rows.length := by have := hs.len; omega
theorem VSheet.row {s : TSheet} (hs : VSheet s) {k : Nat} (h : k < s.Rows.length) : VRow s.Rows[k] := (row_at h (hs.rows k h)).1
theorem VSheet.step {s : TSheet} (hs : VSheet s) {k : Nat} (h : k + 1 < s.Rows.length) : s.Rows[k].Minute < s.Rows[k + 1].Minute := by
  have := ((row_at h (hs.rows _ h)).2 (by omega)).1
  simpa using this
theorem VSheet.mono {s : TSheet} (hs : VSheet s) {i j : Nat} (hi : i < s.Rows.length) (hj : j < s.Rows.length) (h : i ≤ j) : s.Rows[i].Minute ≤ s.Rows[j].Minute := rows_mono hs.rows j i hi hj h
theorem VSheet.first0 {s : TSheet} (hs : VSheet s) : (s.Rows[0]'hs.pos).Minute = 0 := hs.first _ (List.getElem?_eq_getElem hs.pos)
theorem VSheet.last0 {s : TSheet} (hs : VSheet s) : (s.Rows[s.Rows.length - 1]'(by have := hs.pos; omega)).Minute = 1439 := hs.last _ (List.getElem?_eq_getElem (by have := hs.pos; omega))
theorem VSheet.bd {s : TSheet} (hs : VSheet s) {k : Nat} (h : k < s.Rows.length) : 0 ≤ s.Rows[k].Minute ∧ s.Rows[k].Minute ≤ 1439 := by
  have h1 := hs.mono hs.pos h (by omega)
  have h2 := hs.mono h (by have := hs.pos; omega : s.Rows.length - 1 < s.Rows.length) (by omega)
  rw [hs.first0] at h1; rw [hs.last0] at h2
  exact ⟨h1, h2⟩
theorem VSheet.segH {s : TSheet} (hs : VSheet s) {k : Nat} (h : k + 1 < s.Rows.length) {t : Int} (h1 : s.Rows[k].Minute ≤ t) (h2 : t ≤ s.Rows[k + 1].Minute) : SegOK s.Rows[k].Height s.Rows[k + 1].Height s.Rows[k].Minute s.Rows[k + 1].Minute t :=
  ⟨(hs.row (by omega)).h, (hs.row h).h, hs.step h, h1, h2, (hs.bd (by omega)).1, (hs.bd h).2⟩
theorem VSheet.segB {s : TSheet} (hs : VSheet s) {k : Nat} (h : k + 1 < s.Rows.length) {t : Int} (h1 : s.Rows[k].Minute ≤ t) (h2 : t ≤ s.Rows[k + 1].Minute) : SegOK s.Rows[k].Bearing s.Rows[k + 1].Bearing s.Rows[k].Minute s.Rows[k + 1].Minute t :=
  ⟨(hs.row (by omega)).b, (hs.row h).b, hs.step h, h1, h2, (hs.bd (by omega)).1, (hs.bd h).2⟩
theorem at_loop {s : TSheet} (hs : VSheet s) {t : Int} (h0 : 0 ≤ t) (h1 : t ≤ 1439) : ∃ k : Nat, loopF (m_moon_at__moon_heightOf_L1 s t) 0 = some (k : Int) ∧ ∃ h : k + 1 < s.Rows.length, t ≤ s.Rows[k + 1].Minute ∧ s.Rows[k].Minute ≤ t ∧ (0 < k → s.Rows[k].Minute < t) := by
  obtain ⟨e, he, k, rfl, hk⟩ := loopF_rule (body := m_moon_at__moon_heightOf_L1 s t) (fun i : Int => ∃ k : Nat, i = k ∧ ∃ h : k + 1 < s.Rows.length, s.Rows[k].Minute ≤ t ∧ (0 < k → s.Rows[k].Minute < t)) (fun i : Int => s.Rows.length - i.toNat)
    (fun e => ∃ k : Nat, e = k ∧ ∃ h : k + 1 < s.Rows.length, t ≤ s.Rows[k + 1].Minute ∧ s.Rows[k].Minute ≤ t ∧ (0 < k → s.Rows[k].Minute < t)) (by
    rintro i ⟨k, rfl, h, h2, h3⟩
    have hl := hs.len
    unfold m_moon_at__moon_heightOf_L1
    rw [W_s (by omega), idx_nat1 h, Option.bind_some]
    by_cases hc : s.Rows[k + 1].Minute < t
    · right
      have hk2 : k + 1 + 1 < s.Rows.length := by
        apply Nat.lt_of_not_le; intro hn
        have : s.Rows[s.Rows.length - 1]'(by omega) = s.Rows[k + 1] := by congr 1; omega
        have h4 := hs.last0
        rw [this] at h4; omega
      exact ⟨(k : Int) + 1, by simp [hc], ⟨k + 1, rfl, hk2, by omega, fun _ => hc⟩, by omega⟩
    · left
      exact ⟨(k : Int), by simp [hc], k, rfl, h, by omega, h2, h3⟩) 0 ⟨0, rfl, by have := hs.len; omega, by have := hs.first0; omega, by omega⟩ (lt_FUEL (by have := hs.len; omega))
  exact ⟨k, he, hk⟩
theorem atB_L1 : m_moon_at__moon_bearingOf_L1 = m_moon_at__moon_heightOf_L1 := rfl
theorem place_loop {s : TSheet} (hs : VSheet s) {t : Int} (h0 : 0 ≤ t) (h1 : t ≤ 1439) : ∃ k : Nat, loopF (m_R02_place_L1 s t) 0 = some (k : Int) ∧ ∃ h : k + 1 < s.Rows.length, s.Rows[k].Minute ≤ t ∧ (k + 2 < s.Rows.length → t < s.Rows[k + 1].Minute) := by
  obtain ⟨e, he, k, rfl, hk⟩ := loopF_rule (body := m_R02_place_L1 s t) (fun i : Int => ∃ k : Nat, i = k ∧ ∃ h : k + 1 < s.Rows.length, s.Rows[k].Minute ≤ t) (fun i : Int => s.Rows.length - i.toNat)
    (fun e => ∃ k : Nat, e = k ∧ ∃ h : k + 1 < s.Rows.length, s.Rows[k].Minute ≤ t ∧ (k + 2 < s.Rows.length → t < s.Rows[k + 1].Minute)) (by
    rintro i ⟨k, rfl, h, h2⟩
    have hl := hs.len
    unfold m_R02_place_L1
    rw [W_id (z := (k : Int) + 2) (by omega), W_s (by omega)]
    by_cases hc : k + 2 < s.Rows.length
    · have hc' : (k : Int) + 2 < (s.Rows.length : Int) := by omega
      simp only [hc', decide_true, if_true]
      rw [idx_nat1 h, Option.bind_some]
      by_cases hm : s.Rows[k + 1].Minute ≤ t
      · right
        exact ⟨(k : Int) + 1, by simp [hm], ⟨k + 1, rfl, hc, hm⟩, by omega⟩
      · left
        exact ⟨(k : Int), by simp [hm], k, rfl, h, h2, fun _ => by omega⟩
    · left
      have hc' : ¬ (k : Int) + 2 < (s.Rows.length : Int) := by omega
      exact ⟨(k : Int), by simp [hc'], k, rfl, h, h2, fun h => absurd h hc⟩) 0 ⟨0, rfl, by have := hs.len; omega, by have := hs.first0; omega⟩ (lt_FUEL (by have := hs.len; omega))
  exact ⟨k, he, hk⟩
structure At (s : TSheet) (t : Int) (h g : TFrac) : Prop where
  ex : ∃ (k : Nat) (hk : k + 1 < s.Rows.length), s.Rows[k].Minute ≤ t ∧ t ≤ s.Rows[k + 1].Minute ∧ h = seg s.Rows[k].Height s.Rows[k + 1].Height s.Rows[k].Minute s.Rows[k + 1].Minute t ∧ g = seg s.Rows[k].Bearing s.Rows[k + 1].Bearing s.Rows[k].Minute s.Rows[k + 1].Minute t
theorem at_ex {s : TSheet} (hs : VSheet s) {t : Int} (h0 : 0 ≤ t) (h1 : t ≤ 1439) : ∃ h g, At s t h g ∧ m_moon_at__moon_heightOf s t = some h ∧ m_moon_at__moon_bearingOf s t = some g ∧ m_R02_place s t = some (h, g) := by
  obtain ⟨k, ek, hk, a1, a2, a3⟩ := at_loop hs h0 h1
  obtain ⟨j, ej, hj, b1, b2⟩ := place_loop hs h0 h1
  have hl := hs.len
  have sh := hs.segH hk a2 a1
  have sb := hs.segB hk a2 a1
  refine ⟨_, _, ⟨k, hk, a2, a1, rfl, rfl⟩, ?_, ?_, ?_⟩
  · unfold m_moon_at__moon_heightOf m_moon_heightOf
    rw [ek, Option.bind_some, idx_nat (by omega), Option.bind_some, W_s (by omega), idx_nat1 hk]
    simp only [Option.bind_some]
    rw [between_eq sh]; rfl
  · unfold m_moon_at__moon_bearingOf m_moon_bearingOf
    rw [atB_L1, ek, Option.bind_some, idx_nat (by omega), Option.bind_some, W_s (by omega), idx_nat1 hk]
    simp only [Option.bind_some]
    rw [between_eq sb]; rfl
  · unfold m_R02_place
    rw [ej, Option.bind_some, idx_nat (by omega), Option.bind_some, W_s (by omega), idx_nat1 hj, Option.bind_some]
    have b3 : t ≤ s.Rows[j + 1].Minute := by
      by_cases h : j + 2 < s.Rows.length
      · have := b2 h; omega
      · have : s.Rows[s.Rows.length - 1]'(by omega) = s.Rows[j + 1] := by congr 1; omega
        have h4 := hs.last0
        rw [this] at h4; omega
    rw [rbetween_eq (hs.segH hj b1 b3), Option.bind_some, rbetween_eq (hs.segB hj b1 b3), Option.bind_some]
    -- the same pair of rows, or the next one at its first minute
    rcases Nat.lt_trichotomy j k with h | h | h
    · exfalso
      have := b2 (by omega)
      have h5 := hs.mono (i := j + 1) (j := k) (by omega) (by omega) (by omega)
      omega
    · subst h; rfl
    · have h5 := hs.mono (i := k + 1) (j := j) (by omega) (by omega) (by omega)
      have hjk : j = k + 1 := by
        apply Nat.le_antisymm _ h
        apply Nat.le_of_not_lt; intro hlt
        have h6 := hs.step (k := k + 1) (by omega)
        have h7 := hs.mono (i := k + 1 + 1) (j := j) (by omega) (by omega) (by omega)
        omega
      subst hjk
      obtain rfl : t = s.Rows[k + 1].Minute := by omega
      rw [seg_start (hs.segH hj b1 b3), seg_start (hs.segB hj b1 b3), seg_end sh, seg_end sb]
theorem At.vh {s : TSheet} (hs : VSheet s) {t : Int} {h g : TFrac} (ha : At s t h g) : vf h 20000000 = true := by
  obtain ⟨k, hk, a1, a2, rfl, rfl⟩ := ha.ex
  exact (hs.segH hk a1 a2).vf
theorem At.vg {s : TSheet} (hs : VSheet s) {t : Int} {h g : TFrac} (ha : At s t h g) : vf g 20000000 = true := by
  obtain ⟨k, hk, a1, a2, rfl, rfl⟩ := ha.ex
  exact (hs.segB hk a1 a2).vf
def lessF (h : TFrac) (n : Int) : TFrac := rd (h.Num - n * h.Den) h.Den
theorem less_bd {h : TFrac} (hv : vf h 20000000 = true) {n : Int} (hn : 0 ≤ n ∧ n ≤ 90) : I64 (h.Num - n * h.Den) ∧ I64 h.Den ∧ 0 < h.Den ∧ W (h.Num - W (n * h.Den)) = h.Num - n * h.Den := by
  obtain ⟨h1, h2, h3, h4⟩ := vf_iff.1 hv
  have p := mul_bd (a := n) (b := h.Den) (A := 90) (B := 20000000) (by omega) (by omega)
  refine ⟨by omega, by omega, by omega, ?_⟩
  rw [W_id (z := n * h.Den) (by omega), W_id (by omega)]
theorem margin_ex {s : TSheet} (hs : VSheet s) {l : List TRoof} (hl : VRoofs l) {t : Int} (h0 : 0 ≤ t) (h1 : t ≤ 1439) : ∃ h g, At s t h g ∧ m_moon_margin s l t = some (lessF h (hz l g)) ∧ m_R02_margin s l t = some (lessF h (hz l g)) := by
  obtain ⟨h, g, ha, e1, e2, e3⟩ := at_ex hs h0 h1
  have vh := ha.vh hs
  have vg := ha.vg hs
  have sg := vf_Sm (Int.le_refl _) vg
  obtain ⟨b1, b2, b3, b4⟩ := less_bd vh (hz_bd hl.all g)
  refine ⟨h, g, ha, ?_, ?_⟩
  · unfold m_moon_margin
    rw [e1, Option.bind_some, e2, Option.bind_some, horizon_eq hl sg, Option.bind_some, b4, least_eq b1 b3 b2]; rfl
  · unfold m_R02_margin m_R02_less
    rw [e3]
    simp only [Option.bind_some]
    rw [rhorizon_eq hl sg, Option.bind_some, b4, frac_eq b1 b3 b2]; rfl
theorem isMinute_eq (t : Int) : m_moon_isMinute t = some (decide (0 ≤ t ∧ t ≤ 1439)) := by
  unfold m_moon_isMinute; rw [within_eq, band]; rfl
theorem risMinute_eq (t : Int) : m_R02_isMinute t = some (decide (0 ≤ t ∧ t ≤ 1439)) := by
  unfold m_R02_isMinute; rw [In_eq, band]; rfl
theorem asked_eq (s : TSheet) (t : Int) : m_moon_asked s t = some (if VSheet s then (if 0 ≤ t ∧ t ≤ 1439 then 0 else 1) else 21) := by
  unfold m_moon_asked
  rw [CheckSheet_eq]
  by_cases hs : VSheet s
  · by_cases ht : 0 ≤ t ∧ t ≤ 1439 <;> simp [hs, isMinute_eq, ht]
  · simp [hs]
theorem Height_same (s : TSheet) (t : Int) : ∃ h e, m_moon_Height s t = some (h, e) ∧ m_R02_Height s t = some (h, e) := by
  unfold m_moon_Height m_R02_Height
  rw [asked_eq, rCheckSheet_eq]
  by_cases hs : VSheet s
  · by_cases ht : 0 ≤ t ∧ t ≤ 1439
    · obtain ⟨h, g, _, e1, e2, e3⟩ := at_ex hs ht.1 ht.2
      exact ⟨h, 0, by simp [hs, ht, e1], by simp [hs, risMinute_eq, ht, e3]⟩
    · exact ⟨⟨0, 0⟩, 1, by simp only [hs, ht, if_true, if_false]; rfl, by simp [hs, risMinute_eq, ht]⟩
  · exact ⟨⟨0, 0⟩, 21, by simp [hs], by simp [hs]⟩
theorem Bearing_same (s : TSheet) (t : Int) : ∃ h e, m_moon_Bearing s t = some (h, e) ∧ m_R02_Bearing s t = some (h, e) := by
  unfold m_moon_Bearing m_R02_Bearing
  rw [asked_eq, rCheckSheet_eq]
  by_cases hs : VSheet s
  · by_cases ht : 0 ≤ t ∧ t ≤ 1439
    · obtain ⟨h, g, _, e1, e2, e3⟩ := at_ex hs ht.1 ht.2
      exact ⟨g, 0, by simp [hs, ht, e2], by simp [hs, risMinute_eq, ht, e3]⟩
    · exact ⟨⟨0, 0⟩, 1, by simp only [hs, ht, if_true, if_false]; rfl, by simp [hs, risMinute_eq, ht]⟩
  · exact ⟨⟨0, 0⟩, 21, by simp [hs], by simp [hs]⟩
theorem Horizon_same (l : List TRoof) (hl : l.length ≤ maxLen) (g : TFrac) : ∃ n e, m_moon_Horizon l g = some (n, e) ∧ m_R02_Horizon l g = some (n, e) := by
  unfold m_moon_Horizon m_R02_Horizon
  rw [areRoofs_eq l hl, rareRoofs_eq]
  by_cases hr : VRoofs l
  · simp only [hr, decide_true, Option.bind_some, Bool.not_true, Bool.false_eq_true, if_false]
    rw [isFrac_eq _ (Int.le_refl _), rCheckFrac_eq]
    by_cases hv : vf g 20000000 = true
    · have hb := vf_iff.1 hv
      have hw : W (360 * g.Den) = 360 * g.Den := W_id (by omega)
      simp only [hv, hw, Option.bind_some, Bool.not_true, Bool.false_eq_true, if_false, if_true, bne_self_eq_false]
      by_cases h1 : g.Num < 0
      · exact ⟨0, 20, by simp [h1], by simp [h1]⟩
      · by_cases h2 : g.Num ≥ 360 * g.Den
        · exact ⟨0, 20, by simp [h1, h2], by simp [h1, h2]⟩
        · have sg := vf_Sm (Int.le_refl _) hv
          exact ⟨hz l g, 0, by simp [h1, h2, horizon_eq hr sg], by simp [h1, h2, rhorizon_eq hr sg]⟩
    · exact ⟨0, 20, by simp [hv], by simp [hv]⟩
  · exact ⟨0, 22, by simp [hr], by simp [hr]⟩
theorem Margin_same (s : TSheet) (l : List TRoof) (hl : l.length ≤ maxLen) (t : Int) : ∃ h e, m_moon_Margin s l t = some (h, e) ∧ m_R02_Margin s l t = some (h, e) := by
  unfold m_moon_Margin m_R02_Margin
  rw [CheckSheet_eq, rCheckSheet_eq, areRoofs_eq l hl, rareRoofs_eq, isMinute_eq, risMinute_eq]
  by_cases hs : VSheet s
  · by_cases hr : VRoofs l
    · by_cases ht : 0 ≤ t ∧ t ≤ 1439
      · obtain ⟨h, g, _, e1, e2⟩ := margin_ex hs hr ht.1 ht.2
        exact ⟨lessF h (hz l g), 0, by simp [hs, hr, ht, e1], by simp [hs, hr, ht, e2]⟩
      · exact ⟨⟨0, 0⟩, 1, by simp [hs, hr, ht], by simp [hs, hr, ht]⟩
    · exact ⟨⟨0, 0⟩, 22, by simp [hs, hr], by simp [hs, hr]⟩
  · exact ⟨⟨0, 0⟩, 21, by simp [hs], by simp [hs]⟩
end Go.Proofs.Ytdhjccionnbljaa
namespace Go.Proofs.Ytdhjccionnbljaa
open Go Go.Sx
open Classical
structure VSight (x : TSighting) : Prop where
  src : 1 ≤ x.Source ∧ x.Source ≤ 99999
  night : 0 ≤ x.Night ∧ x.Night ≤ 100000
  min : 0 ≤ x.Minute ∧ x.Minute ≤ 1439
  known : 0 ≤ x.Known ∧ x.Known ≤ 100000
  until_ : x.Until = 0 ∨ (x.Known < x.Until ∧ x.Until ≤ 100000)
theorem isNight_eq (n : Int) : m_moon_isNight n = some (decide (0 ≤ n ∧ n ≤ 100000)) := by
  unfold m_moon_isNight; rw [within_eq, band]; rfl
theorem CheckSighting_eq (x : TSighting) : m_moon_CheckSighting x = some (if VSight x then 0 else 23) := by
  have no : ∀ {P : Prop}, (VSight x → P) → ¬ P → some (23 : Int) = some (if VSight x then 0 else 23) := fun h hn => by
    rw [if_neg fun hv => hn (h hv)]
  unfold m_moon_CheckSighting
  simp only [within_eq, band, lasts_eq, isNight_eq, isMinute_eq, Option.bind_some]
  by_cases h1 : 1 ≤ x.Source ∧ x.Source ≤ 99999
  rotate_left
  · simp only [h1, decide_false, Bool.not_false, if_true]; exact no (fun h => h.src) h1
  by_cases h2 : 0 ≤ x.Night ∧ x.Night ≤ 100000
  rotate_left
  · simp only [h1, h2, and_self, decide_true, decide_false, Bool.not_true, Bool.not_false, Bool.false_eq_true, if_false, if_true]; exact no (fun h => h.night) h2
  by_cases h3 : 0 ≤ x.Minute ∧ x.Minute ≤ 1439
  rotate_left
  · simp only [h1, h2, h3, and_self, decide_true, decide_false, Bool.not_true, Bool.not_false, Bool.false_eq_true, if_false, if_true]; exact no (fun h => h.min) h3
  by_cases h4 : (0 ≤ x.Known ∧ x.Known ≤ 100000) ∧ (x.Until = 0 ∨ (x.Known < x.Until ∧ x.Until ≤ 100000))
  rotate_left
  · simp only [h1, h2, h3, h4, and_self, decide_true, decide_false, Bool.not_true, Bool.not_false, Bool.false_eq_true, if_false, if_true]; exact no (fun h => ⟨h.known, h.until_⟩) h4
  have hv : VSight x := ⟨h1, h2, h3, h4.1, h4.2⟩
  simp only [decide_eq_true h1, decide_eq_true h2, decide_eq_true h3, decide_eq_true h4, Bool.not_true, Bool.false_eq_true, if_false, if_pos hv]
def okSheet (l : List TSheet) (k : Nat) : Prop := ∃ x, l[k]? = some x ∧ VSheet x ∧ ∀ p, 0 < k → l[k - 1]? = some p → p.Source < x.Source
def okSight (l : List TSighting) (k : Nat) : Prop := ∃ x, l[k]? = some x ∧ VSight x ∧ ∀ p, 0 < k → l[k - 1]? = some p → p.Source < x.Source
structure VSky (s : TSky) : Prop where
  n1 : s.Sheets.length ≤ 60
  n2 : s.Sightings.length ≤ 60
  roofs : VRoofs s.Roofs
  sheets : ∀ k, k < s.Sheets.length → okSheet s.Sheets k
  sights : ∀ k, k < s.Sightings.length → okSight s.Sightings k
theorem sheets_loop (s : TSky) (hl : s.Sheets.length ≤ 60) : ∃ e, loopF (m_moon_Check_L1 s) 0 = some e ∧ ((e = .inl (s.Sheets.length : Int) ∧ ∀ k, k < s.Sheets.length → okSheet s.Sheets k) ∨ (e = .inr 24 ∧ ∃ k, k < s.Sheets.length ∧ ¬ okSheet s.Sheets k)) := by
  refine loopF_rule (fun i : Int => ∃ k : Nat, i = k ∧ k ≤ s.Sheets.length ∧ ∀ j, j < k → okSheet s.Sheets j) (fun i : Int => s.Sheets.length - i.toNat) _ ?_ 0 ⟨0, rfl, by omega, by omega⟩ (lt_FUEL (by omega))
  rintro i ⟨k, rfl, hk, hok⟩
  unfold m_moon_Check_L1
  by_cases hlt : k < s.Sheets.length
  · have h1 : (k : Int) < (s.Sheets.length : Int) := by omega
    simp only [h1, decide_true, if_true, idx_nat hlt, Option.bind_some, CheckSheet_eq]
    by_cases hv : VSheet s.Sheets[k]
    · simp only [hv, if_true, bne_self_eq_false, Bool.false_eq_true, if_false]
      by_cases h0 : 0 < k
      · have h2 : (k : Int) > 0 := by omega
        have hw : W ((k : Int) - 1) = ((k - 1 : Nat) : Int) := by rw [W_id (by omega)]; omega
        have hk1 : k - 1 < s.Sheets.length := by omega
        simp only [h2, decide_true, if_true, hw, idx_nat hk1, Option.bind_some]
        by_cases hm : s.Sheets[k - 1].Source ≥ s.Sheets[k].Source
        · left
          refine ⟨.inr 24, by simp [hm], .inr ⟨rfl, k, hlt, fun ⟨r, e1, _, e2⟩ => ?_⟩⟩
          rw [List.getElem?_eq_getElem hlt] at e1; cases e1
          have := e2 _ h0 (List.getElem?_eq_getElem hk1); omega
        · right
          refine ⟨W ((k : Int) + 1), by simp [hm], ⟨k + 1, by rw [W_s (by omega)]; rfl, by omega, fun j hj => ?_⟩, by rw [W_s (by omega)]; omega⟩
          by_cases e : j = k
          · subst e
            refine ⟨_, List.getElem?_eq_getElem hlt, hv, fun p hp e3 => ?_⟩
            rw [List.getElem?_eq_getElem hk1] at e3; cases e3
            omega
          · exact hok j (by omega)
      · right
        have hk0 : (decide ((k : Int) > 0)) = false := by simp; omega
        refine ⟨W ((k : Int) + 1), by rw [hk0]; simp, ⟨k + 1, by rw [W_s (by omega)]; rfl, by omega, fun j hj => ?_⟩, by rw [W_s (by omega)]; omega⟩
        obtain rfl : j = k := by omega
        exact ⟨_, List.getElem?_eq_getElem hlt, hv, fun p hp => by omega⟩
    · left
      refine ⟨.inr 24, by simp [hv], .inr ⟨rfl, k, hlt, fun ⟨r, e1, e2, _⟩ => ?_⟩⟩
      rw [List.getElem?_eq_getElem hlt] at e1; cases e1; exact hv e2
  · left
    have h1 : ¬ (k : Int) < (s.Sheets.length : Int) := by omega
    obtain rfl : k = s.Sheets.length := by omega
    exact ⟨.inl _, by simp, .inl ⟨rfl, hok⟩⟩
theorem sights_loop (s : TSky) (hl : s.Sightings.length ≤ 60) : ∃ e, loopF (m_moon_Check_L2 s) 0 = some e ∧ ((e = .inl (s.Sightings.length : Int) ∧ ∀ k, k < s.Sightings.length → okSight s.Sightings k) ∨ (e = .inr 24 ∧ ∃ k, k < s.Sightings.length ∧ ¬ okSight s.Sightings k)) := by
  refine loopF_rule (fun i : Int => ∃ k : Nat, i = k ∧ k ≤ s.Sightings.length ∧ ∀ j, j < k → okSight s.Sightings j) (fun i : Int => s.Sightings.length - i.toNat) _ ?_ 0 ⟨0, rfl, by omega, by omega⟩ (lt_FUEL (by omega))
  rintro i ⟨k, rfl, hk, hok⟩
  unfold m_moon_Check_L2
  by_cases hlt : k < s.Sightings.length
  · have h1 : (k : Int) < (s.Sightings.length : Int) := by omega
    simp only [h1, decide_true, if_true, idx_nat hlt, Option.bind_some, CheckSighting_eq]
    by_cases hv : VSight s.Sightings[k]
    · simp only [hv, if_true, bne_self_eq_false, Bool.false_eq_true, if_false]
      by_cases h0 : 0 < k
      · have h2 : (k : Int) > 0 := by omega
        have hw : W ((k : Int) - 1) = ((k - 1 : Nat) : Int) := by rw [W_id (by omega)]; omega
        have hk1 : k - 1 < s.Sightings.length := by omega
        simp only [h2, decide_true, if_true, hw, idx_nat hk1, Option.bind_some]
        by_cases hm : s.Sightings[k - 1].Source ≥ s.Sightings[k].Source
        · left
          refine ⟨.inr 24, by simp [hm], .inr ⟨rfl, k, hlt, fun ⟨r, e1, _, e2⟩ => ?_⟩⟩
          rw [List.getElem?_eq_getElem hlt] at e1; cases e1
          have := e2 _ h0 (List.getElem?_eq_getElem hk1); omega
        · right
          refine ⟨W ((k : Int) + 1), by simp [hm], ⟨k + 1, by rw [W_s (by omega)]; rfl, by omega, fun j hj => ?_⟩, by rw [W_s (by omega)]; omega⟩
          by_cases e : j = k
          · subst e
            refine ⟨_, List.getElem?_eq_getElem hlt, hv, fun p hp e3 => ?_⟩
            rw [List.getElem?_eq_getElem hk1] at e3; cases e3
            omega
          · exact hok j (by omega)
      · right
        have hk0 : (decide ((k : Int) > 0)) = false := by simp; omega
        refine ⟨W ((k : Int) + 1), by rw [hk0]; simp, ⟨k + 1, by rw [W_s (by omega)]; rfl, by omega, fun j hj => ?_⟩, by rw [W_s (by omega)]; omega⟩
        obtain rfl : j = k := by omega
        exact ⟨_, List.getElem?_eq_getElem hlt, hv, fun p hp => by omega⟩
    · left
      refine ⟨.inr 24, by simp [hv], .inr ⟨rfl, k, hlt, fun ⟨r, e1, e2, _⟩ => ?_⟩⟩
      rw [List.getElem?_eq_getElem hlt] at e1; cases e1; exact hv e2
  · left
    have h1 : ¬ (k : Int) < (s.Sightings.length : Int) := by omega
    obtain rfl : k = s.Sightings.length := by omega
    exact ⟨.inl _, by simp, .inl ⟨rfl, hok⟩⟩
theorem Check_eq (s : TSky) (hr : s.Roofs.length ≤ maxLen) : m_moon_Check s = some (if VSky s then 0 else 24) := by
  have no : ∀ {P : Prop}, (VSky s → P) → ¬ P → some (24 : Int) = some (if VSky s then 0 else 24) := fun h hn => by
    rw [if_neg fun hv => hn (h hv)]
  unfold m_moon_Check
  by_cases h1 : s.Sheets.length ≤ 60
  rotate_left
  · have : (s.Sheets.length : Int) > 60 := by omega
    simp only [this, decide_true, if_true]; exact no (fun h => h.n1) h1
  by_cases h2 : s.Sightings.length ≤ 60
  rotate_left
  · have a : ¬ (s.Sheets.length : Int) > 60 := by omega
    have b : (s.Sightings.length : Int) > 60 := by omega
    simp only [a, b, decide_true, decide_false, Bool.false_eq_true, if_false, if_true]; exact no (fun h => h.n2) h2
  have a : ¬ (s.Sheets.length : Int) > 60 := by omega
  have b : ¬ (s.Sightings.length : Int) > 60 := by omega
  simp only [a, b, decide_false, Bool.false_eq_true, if_false]
  rw [areRoofs_eq _ hr, Option.bind_some]
  by_cases h3 : VRoofs s.Roofs
  rotate_left
  · simp only [h3, decide_false, Bool.not_false, if_true]; exact no (fun h => h.roofs) h3
  simp only [h3, decide_true, Bool.not_true, Bool.false_eq_true, if_false]
  obtain ⟨e, he, hq⟩ := sheets_loop s h1
  rw [he, Option.bind_some]
  rcases hq with ⟨rfl, hok⟩ | ⟨rfl, k, hk, hno⟩
  rotate_left
  · exact no (P := okSheet s.Sheets k) (fun h => h.sheets k hk) hno
  obtain ⟨e, he, hq⟩ := sights_loop s h2
  simp only
  rw [he, Option.bind_some]
  rcases hq with ⟨rfl, hok2⟩ | ⟨rfl, k, hk, hno⟩
  rotate_left
  · exact no (P := okSight s.Sightings k) (fun h => h.sights k hk) hno
  have hv : VSky s := ⟨h1, h2, h3, hok, hok2⟩
  simp [hv]
theorem VSky.sheet {s : TSky} (h : VSky s) {x : TSheet} (hx : x ∈ s.Sheets) : VSheet x := by
  obtain ⟨k, hk, rfl⟩ := List.mem_iff_getElem.1 hx
  obtain ⟨y, e1, e2, _⟩ := h.sheets k hk
  rw [List.getElem?_eq_getElem hk] at e1; cases e1; exact e2
theorem VSky.sight {s : TSky} (h : VSky s) {x : TSighting} (hx : x ∈ s.Sightings) : VSight x := by
  obtain ⟨k, hk, rfl⟩ := List.mem_iff_getElem.1 hx
  obtain ⟨y, e1, e2, _⟩ := h.sights k hk
  rw [List.getElem?_eq_getElem hk] at e1; cases e1; exact e2
def cnt (f u k : Int) : Bool := decide (f ≤ k ∧ (u = 0 ∨ k < u))
theorem counts_eq (f u k : Int) : m_moon_counts f u k = some (cnt f u k) := by
  unfold m_moon_counts cnt
  by_cases h : f ≤ k
  · by_cases h2 : u = 0 <;> simp [h, h2]
  · simp [h]
theorem rcounts_eq (f u k : Int) : m_R02_counts f u k = some (cnt f u k) := counts_eq f u k
def inFs (night as_ : Int) (acc : Option TSheet) (x : TSheet) : Option TSheet :=
  if x.Night = night ∧ cnt x.Known x.Until as_ = true then (match acc with | none => some x | some y => if x.Known ≥ y.Known then some x else some y) else acc
def inF (l : List TSheet) (night as_ : Int) : Option TSheet := l.foldl (inFs night as_) none
def zeroSheet : TSheet := ⟨0, 0, 0, 0, [], ⟨0, 0⟩, ⟨0, 0⟩⟩
theorem inForce_eq (s : TSky) (hl : s.Sheets.length ≤ 60) (night as_ : Int) : m_moon_inForce s night as_ = some ((inF s.Sheets night as_).getD zeroSheet, (inF s.Sheets night as_).isSome) := by
  unfold m_moon_inForce
  obtain ⟨e, he, hq⟩ := loopF_rule (body := m_moon_inForce_L1 s night as_) (fun st => ∃ (k : Nat) (acc : Option TSheet), k ≤ s.Sheets.length ∧ (s.Sheets.drop k).foldl (inFs night as_) acc = inF s.Sheets night as_ ∧
      st = (acc.isSome, (k : Int), (acc.getD zeroSheet).Source, (acc.getD zeroSheet).Night, (acc.getD zeroSheet).Known, (acc.getD zeroSheet).Until, (acc.getD zeroSheet).Rows, (acc.getD zeroSheet).Off.Num, (acc.getD zeroSheet).Off.Den, (acc.getD zeroSheet).Light.Lo, (acc.getD zeroSheet).Light.Hi))
    (fun st => s.Sheets.length - st.2.1.toNat) (fun st => ∃ k : Int, st = ((inF s.Sheets night as_).isSome, k, ((inF s.Sheets night as_).getD zeroSheet).Source, ((inF s.Sheets night as_).getD zeroSheet).Night, ((inF s.Sheets night as_).getD zeroSheet).Known, ((inF s.Sheets night as_).getD zeroSheet).Until, ((inF s.Sheets night as_).getD zeroSheet).Rows, ((inF s.Sheets night as_).getD zeroSheet).Off.Num, ((inF s.Sheets night as_).getD zeroSheet).Off.Den, ((inF s.Sheets night as_).getD zeroSheet).Light.Lo, ((inF s.Sheets night as_).getD zeroSheet).Light.Hi)) (by
    rintro st ⟨k, acc, hk, hf, rfl⟩
    unfold m_moon_inForce_L1
    by_cases hlt : k < s.Sheets.length
    · right
      have h1 : (k : Int) < (s.Sheets.length : Int) := by omega
      rw [foldl_drop hlt] at hf
      refine ⟨_, ?_, ⟨k + 1, inFs night as_ acc s.Sheets[k], by omega, hf, rfl⟩, by simp only; omega⟩
      simp only [h1, decide_true, if_true, idx_nat hlt, Option.bind_some, counts_eq]
      have hw : W ((k : Int) + 1) = ((k + 1 : Nat) : Int) := by rw [W_s (by omega)]; rfl
      rw [hw]
      by_cases hn : s.Sheets[k].Night = night
      · by_cases hc : cnt s.Sheets[k].Known s.Sheets[k].Until as_ = true
        · cases acc with
          | none => simp [hn, hc, inFs]
          | some y =>
            by_cases hy : s.Sheets[k].Known ≥ y.Known
            · simp [hn, hc, inFs, hy]
            · simp [hn, hc, inFs, hy]
        · simp [hn, hc, inFs]
      · simp [hn, inFs]
    · left
      have h1 : ¬ (k : Int) < (s.Sheets.length : Int) := by omega
      rw [List.drop_of_length_le (by omega)] at hf
      simp only [List.foldl_nil] at hf
      subst hf
      exact ⟨_, by simp only [h1, decide_false, Bool.false_eq_true, if_false], k, rfl⟩) (false, 0, 0, 0, 0, 0, [], 0, 0, 0, 0) ⟨0, none, by omega, rfl, rfl⟩ (lt_FUEL (by first | omega | (simp only; omega)))
  obtain ⟨k, rfl⟩ := hq
  rw [he]
  rfl
theorem inF_mem {l : List TSheet} {night as_ : Int} {x : TSheet} (h : inF l night as_ = some x) : x ∈ l ∧ x.Night = night ∧ cnt x.Known x.Until as_ = true := by
  have : ∀ (l : List TSheet) (acc : Option TSheet) (x : TSheet), l.foldl (inFs night as_) acc = some x → (acc = some x) ∨ (x ∈ l ∧ x.Night = night ∧ cnt x.Known x.Until as_ = true) := by
    intro l
    induction l with
    | nil => intro acc x h; exact .inl h
    | cons y l ih =>
      intro acc x h
      rcases ih _ _ h with h | ⟨h1, h2⟩
      · unfold inFs at h
        split at h
        · rename_i hc
          cases acc with
          | none => simp only [Option.some.injEq] at h; subst h; exact .inr ⟨List.mem_cons_self, hc⟩
          | some z =>
            simp only at h
            split at h
            · simp only [Option.some.injEq] at h; subst h; exact .inr ⟨List.mem_cons_self, hc⟩
            · exact .inl h
        · exact .inl h
      · exact .inr ⟨List.mem_cons_of_mem _ h1, h2⟩
  rcases this l none x h with h | h
  · cases h
  · exact h
def sgf (night as_ : Int) (x : TSighting) : Bool := decide (x.Night = night) && cnt x.Known x.Until as_
def sg (l : List TSighting) (night as_ : Int) : List TSighting := l.filter (sgf night as_)
theorem sighted1_eq (x : TSighting) (a b : Int) : m_moon_sighted_1 x a b = some (!sgf a b x) := by
  unfold m_moon_sighted_1 sgf
  rw [counts_eq]
  by_cases h : x.Night = a <;> simp [h]
theorem del1_eq (l : List TSighting) (a b : Int) : m_slices_DeleteFunc_api_Sighting_api_Sighting__moon_sighted_1 l a b = delF (fun x => m_moon_sighted_1 x a b) l := rfl
theorem sighted_eq (s : TSky) (hl : s.Sightings.length ≤ 60) (night as_ : Int) : m_moon_sighted s night as_ = some (sg s.Sightings night as_) := by
  unfold m_moon_sighted m_slices_Clone_api_Sighting_api_Sighting
  rw [gd, if_pos (by omega), Option.bind_some, del1_eq, delF_eq (p := fun x => !sgf night as_ x) _ _ (fun x _ => sighted1_eq x night as_) (by omega)]
  simp [sg]
end Go.Proofs.Ytdhjccionnbljaa
namespace Go.Proofs.Ytdhjccionnbljaa
open Go Go.Sx
open Classical
theorem rd_pos {n d : Int} (hd : 0 < d) : 0 < (rd n d).Den := (rd_spec hd).choose_spec.2.2.2
theorem rd_idem {n d : Int} (hd : 0 < d) : rd (rd n d).Num (rd n d).Den = rd n d := by
  obtain ⟨g, hg, e1, e2, hp⟩ := rd_spec (n := n) hd
  refine rd_eq hp hd ?_
  generalize rd n d = p at *
  rw [e1, e2]; ac_rfl
theorem rd_neg {n d : Int} : rd (-n) d = ⟨-(rd n d).Num, (rd n d).Den⟩ := by
  unfold rd
  rw [Int.natAbs_neg]
  simp only [TFrac.mk.injEq, and_true]
  exact Int.neg_ediv_of_dvd (gcd_dvd_n n d)
theorem rd_le {n d : Int} (hd : 0 < d) : (rd n d).Den ≤ d := by
  obtain ⟨g, hg, e1, e2, hp⟩ := rd_spec (n := n) hd
  generalize rd n d = p at *
  have := Int.mul_le_mul_of_nonneg_right (show (1 : Int) ≤ g by omega) (Int.le_of_lt hp)
  omega
theorem rd_bd {n d B : Int} (hd : 0 < d) (h : -(B * d) ≤ n ∧ n ≤ B * d) : -(B * (rd n d).Den) ≤ (rd n d).Num ∧ (rd n d).Num ≤ B * (rd n d).Den := by
  obtain ⟨g, hg, e1, e2, hp⟩ := rd_spec (n := n) hd
  generalize rd n d = p at *
  rw [e1, e2] at h
  have a : B * (g * p.Den) = g * (B * p.Den) := by ac_rfl
  rw [a] at h
  constructor
  · refine Int.le_of_mul_le_mul_left ?_ hg
    rw [Int.mul_neg]; exact h.1
  · exact Int.le_of_mul_le_mul_left h.2 hg
structure Edge (e : TFrac) : Prop where
  den : 0 < e.Den
  den2 : e.Den ≤ 14390000
  lo : -(450 * e.Den) ≤ e.Num
  hi : e.Num ≤ 450 * e.Den
  red : rd e.Num e.Den = e
theorem Edge.sm {e : TFrac} (h : Edge e) : Sm e := by obtain ⟨_, _, _, _, _⟩ := h; exact ⟨by omega, by omega, by omega, by omega⟩
def neg (e : TFrac) : TFrac := ⟨-e.Num, e.Den⟩
theorem Edge.neg {e : TFrac} (h : Edge e) : Edge (neg e) := by
  obtain ⟨h1, h2, h3, h4, h5⟩ := h
  refine ⟨h1, h2, ?_, ?_, ?_⟩
  · show -(450 * e.Den) ≤ -e.Num; omega
  · show -e.Num ≤ 450 * e.Den; omega
  · show rd (-e.Num) e.Den = _
    rw [rd_neg, h5]; rfl
theorem less_edge {s : TSheet} (hs : VSheet s) {t : Int} {h g : TFrac} (ha : At s t h g) {n : Int} (hn : 0 ≤ n ∧ n ≤ 90) : Edge (lessF h n) := by
  obtain ⟨k, hk, a1, a2, rfl, rfl⟩ := ha.ex
  have so := hs.segH hk a1 a2
  have hv := so.vf
  obtain ⟨v1, v2, v3, v4⟩ := vf_iff.1 hv
  have hd : (seg s.Rows[k].Height s.Rows[k + 1].Height s.Rows[k].Minute s.Rows[k + 1].Minute t).Den ≤ 14390000 := Int.le_trans (rd_le so.den.1) so.den.2
  generalize seg s.Rows[k].Height s.Rows[k + 1].Height s.Rows[k].Minute s.Rows[k + 1].Minute t = p at *
  have p1 : n * p.Den ≤ 90 * p.Den := Int.mul_le_mul_of_nonneg_right hn.2 (by omega)
  have p2 : 0 ≤ n * p.Den := Int.mul_nonneg hn.1 (by omega)
  have hb := rd_bd (n := p.Num - n * p.Den) (d := p.Den) (B := 450) (by omega) ⟨by omega, by omega⟩
  exact ⟨rd_pos (by omega), Int.le_trans (rd_le (by omega)) hd, hb.1, hb.2, rd_idem (by omega)⟩
def mg (s : TSheet) (l : List TRoof) (t : Int) : TFrac := (m_moon_margin s l t).getD ⟨0, 1⟩
theorem mg_eq {s : TSheet} (hs : VSheet s) {l : List TRoof} (hl : VRoofs l) {t : Int} (ht : 0 ≤ t ∧ t ≤ 1439) : m_moon_margin s l t = some (mg s l t) ∧ m_R02_margin s l t = some (mg s l t) ∧ Edge (mg s l t) ∧ ∃ h g, At s t h g ∧ mg s l t = lessF h (hz l g) := by
  obtain ⟨h, g, ha, e1, e2⟩ := margin_ex hs hl ht.1 ht.2
  have : mg s l t = lessF h (hz l g) := by unfold mg; rw [e1]; rfl
  rw [this]
  exact ⟨e1, e2, less_edge hs ha (hz_bd hl.all g), h, g, ha, rfl⟩
def eg (s : TSheet) (l : List TRoof) (t : Int) : TFrac := neg (mg s l t)
theorem minus_eq {e : TFrac} (h : I64 e.Num) : m_moon_minus e = some (neg e) := by
  unfold m_moon_minus; rw [W_id (by omega)]; simp [neg]
theorem rminus_eq {e : TFrac} (h : I64 e.Num) : m_R02_minus e = some (neg e) := minus_eq h
theorem Edge.reduced {e : TFrac} (h : Edge e) : m_moon_reduced e = some e := by
  rw [reduced_eq h.sm.I.1 h.den h.sm.I.2, h.red]
theorem edge_eq {k : Tknown} (hs : VSheet k.Sheet) (hl : VRoofs k.roofs) {t : Int} (ht : 0 ≤ t ∧ t ≤ 1439) : m_moon_known_edge k t = some (eg k.Sheet k.roofs t) ∧ Edge (eg k.Sheet k.roofs t) := by
  obtain ⟨e1, _, he, _⟩ := mg_eq hs hl ht
  refine ⟨?_, he.neg⟩
  unfold m_moon_known_edge
  rw [e1, Option.bind_some, minus_eq he.sm.I.1, Option.bind_some, he.neg.reduced]; rfl
def slS (x : TSheet) (l : List TRoof) (sl : TSlip) (y : TSighting) : TSlip :=
  if y.Above = true ∧ fcmp (eg x l y.Minute) sl.Lo ≥ 0 then ⟨eg x l y.Minute, true, sl.Hi⟩
  else if ¬ y.Above = true ∧ fcmp (eg x l y.Minute) sl.Hi < 0 then ⟨sl.Lo, sl.Open, eg x l y.Minute⟩ else sl
def off (x : TSheet) : TFrac := rd x.Off.Num x.Off.Den
def slip0 (x : TSheet) : TSlip := ⟨neg (off x), false, off x⟩
def slp (x : TSheet) (l : List TRoof) (ys : List TSighting) : TSlip := ys.foldl (slS x l) (slip0 x)
structure ESlip (s : TSlip) : Prop where
  lo : Edge s.Lo
  hi : Edge s.Hi
theorem off_edge {x : TSheet} (h : VSheet x) : Edge (off x) := by
  obtain ⟨v1, v2, v3, v4⟩ := vf_iff.1 h.off
  have hb := rd_bd (n := x.Off.Num) (d := x.Off.Den) (B := 450) (by omega) ⟨by omega, by omega⟩
  exact ⟨rd_pos (by omega), Int.le_trans (rd_le (by omega)) (by omega), hb.1, hb.2, rd_idem (by omega)⟩
theorem slS_ok {x : TSheet} (hs : VSheet x) {l : List TRoof} (hl : VRoofs l) {sl : TSlip} (h : ESlip sl) {y : TSighting} (hy : 0 ≤ y.Minute ∧ y.Minute ≤ 1439) : ESlip (slS x l sl y) := by
  have he := (mg_eq hs hl hy).2.2.1.neg
  unfold slS
  split
  · exact ⟨he, h.hi⟩
  · split
    · exact ⟨h.lo, he⟩
    · exact h
theorem slip0_ok {x : TSheet} (hs : VSheet x) : ESlip (slip0 x) := ⟨(off_edge hs).neg, off_edge hs⟩
theorem slp_ok {x : TSheet} (hs : VSheet x) {l : List TRoof} (hl : VRoofs l) {ys : List TSighting} (hy : ∀ y, y ∈ ys → 0 ≤ y.Minute ∧ y.Minute ≤ 1439) : ESlip (slp x l ys) := by
  have : ∀ (ys : List TSighting) (sl : TSlip), (∀ y, y ∈ ys → 0 ≤ y.Minute ∧ y.Minute ≤ 1439) → ESlip sl → ESlip (ys.foldl (slS x l) sl) := by
    intro ys
    induction ys with
    | nil => intro sl _ h; exact h
    | cons y ys ih => intro sl hy h; exact ih _ (fun z hz => hy z (List.mem_cons_of_mem _ hz)) (slS_ok hs hl h (hy y List.mem_cons_self))
  exact this ys _ hy (slip0_ok hs)
theorem slipOf_eq {k : Tknown} (hs : VSheet k.Sheet) (hl : VRoofs k.roofs) {ys : List TSighting} (hy : ∀ y, y ∈ ys → 0 ≤ y.Minute ∧ y.Minute ≤ 1439) (hn : ys.length ≤ 60) : m_moon_known_slipOf k ys = some (slp k.Sheet k.roofs ys) := by
  obtain ⟨v1, v2, v3, v4⟩ := vf_iff.1 hs.off
  unfold m_moon_known_slipOf
  rw [minus_eq (by omega), Option.bind_some, reduced_eq (x := neg k.Sheet.Off) (by show I64 (-k.Sheet.Off.Num); omega) (by show 0 < k.Sheet.Off.Den; omega) (by show I64 k.Sheet.Off.Den; omega), Option.bind_some,
    reduced_eq (by omega) (by omega) (by omega), Option.bind_some]
  have e0 : rd (neg k.Sheet.Off).Num (neg k.Sheet.Off).Den = neg (off k.Sheet) := rd_neg
  rw [e0]
  obtain ⟨e, he, hq⟩ := loopF_rule (body := m_moon_known_slipOf_L1 k ys) (fun st => ∃ (j : Nat) (sl : TSlip), j ≤ ys.length ∧ ESlip sl ∧ (ys.drop j).foldl (slS k.Sheet k.roofs) sl = slp k.Sheet k.roofs ys ∧ st = ((j : Int), sl.Lo.Num, sl.Lo.Den, sl.Open, sl.Hi.Num, sl.Hi.Den))
    (fun st => ys.length - st.1.toNat) (fun st => ∃ j : Int, st = (j, (slp k.Sheet k.roofs ys).Lo.Num, (slp k.Sheet k.roofs ys).Lo.Den, (slp k.Sheet k.roofs ys).Open, (slp k.Sheet k.roofs ys).Hi.Num, (slp k.Sheet k.roofs ys).Hi.Den)) (by
    rintro st ⟨j, sl, hj, hes, hf, rfl⟩
    unfold m_moon_known_slipOf_L1
    by_cases hlt : j < ys.length
    · right
      have h1 : (j : Int) < (ys.length : Int) := by omega
      rw [foldl_drop hlt] at hf
      have hm := hy _ (List.getElem_mem hlt)
      obtain ⟨e1, _, hE, _⟩ := mg_eq hs hl hm
      refine ⟨_, ?_, ⟨j + 1, slS k.Sheet k.roofs sl ys[j], by omega, slS_ok hs hl hes hm, hf, rfl⟩, by simp only; omega⟩
      have hw : W ((j : Int) + 1) = ((j + 1 : Nat) : Int) := by rw [W_s (by omega)]; rfl
      simp only [h1, decide_true, if_true, idx_nat hlt, Option.bind_some, hw]
      rw [e1, Option.bind_some, minus_eq hE.sm.I.1, Option.bind_some, hE.neg.reduced, Option.bind_some]
      have c1 := compare_eq (x := eg k.Sheet k.roofs ys[j].Minute) (y := ⟨sl.Lo.Num, sl.Lo.Den⟩) hE.neg.sm hes.lo.sm
      have c2 := compare_eq (x := eg k.Sheet k.roofs ys[j].Minute) (y := ⟨sl.Hi.Num, sl.Hi.Den⟩) hE.neg.sm hes.hi.sm
      have eeq : neg (mg k.Sheet k.roofs ys[j].Minute) = eg k.Sheet k.roofs ys[j].Minute := rfl
      simp only [eeq, c1, c2, Option.bind_some]
      unfold slS
      by_cases ha : ys[j].Above = true
      · by_cases hc : fcmp (eg k.Sheet k.roofs ys[j].Minute) sl.Lo ≥ 0
        · simp [ha, hc]
        · simp [ha, hc]
      · by_cases hc : fcmp (eg k.Sheet k.roofs ys[j].Minute) sl.Hi < 0
        · simp [ha, hc]
        · simp [ha, hc]
    · left
      have h1 : ¬ (j : Int) < (ys.length : Int) := by omega
      rw [List.drop_of_length_le (by omega)] at hf
      simp only [List.foldl_nil] at hf
      subst hf
      exact ⟨_, by simp only [h1, decide_false, Bool.false_eq_true, if_false], j, rfl⟩) (0, (neg (off k.Sheet)).Num, (neg (off k.Sheet)).Den, false, (off k.Sheet).Num, (off k.Sheet).Den) ⟨0, slip0 k.Sheet, by omega, slip0_ok hs, rfl, rfl⟩ (lt_FUEL (by first | omega | (simp only; omega)))
  obtain ⟨j, rfl⟩ := hq
  have e1 : rd k.Sheet.Off.Num k.Sheet.Off.Den = off k.Sheet := rfl
  rw [e1, he]
  rfl
def emp (s : TSlip) : Bool := decide (fcmp s.Lo s.Hi > 0 ∨ (fcmp s.Lo s.Hi = 0 ∧ s.Open = true))
theorem isEmpty_eq {s : TSlip} (h : ESlip s) : m_moon_isEmpty s = some (emp s) := by
  unfold m_moon_isEmpty emp
  rw [compare_eq h.lo.sm h.hi.sm, Option.bind_some]
  by_cases h1 : fcmp s.Lo s.Hi > 0
  · simp [h1]
  · by_cases h2 : fcmp s.Lo s.Hi = 0
    · cases hO : s.Open <;> simp [h2]
    · simp [h1, h2]
def minsOK (l : List Int) : Prop := ∀ k (h : k < l.length), (0 ≤ l[k] ∧ l[k] ≤ 1439) ∧ ∀ h0 : 0 < k, l[k - 1] ≤ l[k]
theorem mins_loop (l : List Int) (hl : l.length ≤ 1000) : ∃ e, loopF (m_moon_look_L1 l) 0 = some e ∧ ((e = .inl (l.length : Int) ∧ minsOK l) ∨ (e = .inr (none, 1) ∧ ¬ minsOK l)) := by
  refine loopF_rule (fun i : Int => ∃ k : Nat, i = k ∧ k ≤ l.length ∧ ∀ j (h : j < l.length), j < k → (0 ≤ l[j] ∧ l[j] ≤ 1439) ∧ ∀ h0 : 0 < j, l[j - 1] ≤ l[j]) (fun i : Int => l.length - i.toNat) _ ?_ 0 ⟨0, rfl, by omega, by omega⟩ (lt_FUEL (by omega))
  rintro i ⟨k, rfl, hk, hok⟩
  unfold m_moon_look_L1
  by_cases hlt : k < l.length
  · have h1 : (k : Int) < (l.length : Int) := by omega
    simp only [h1, decide_true, if_true, idx_nat hlt, Option.bind_some, isMinute_eq]
    by_cases hv : 0 ≤ l[k] ∧ l[k] ≤ 1439
    · simp only [hv, and_self, decide_true, Bool.not_true, Bool.false_eq_true, if_false]
      by_cases h0 : 0 < k
      · have h2 : (k : Int) > 0 := by omega
        have hw : W ((k : Int) - 1) = ((k - 1 : Nat) : Int) := by rw [W_id (by omega)]; omega
        have hk1 : k - 1 < l.length := by omega
        simp only [h2, decide_true, if_true, hw, idx_nat hk1, Option.bind_some]
        by_cases hm : l[k - 1] > l[k]
        · left
          refine ⟨.inr (none, 1), by simp [hm], .inr ⟨rfl, fun h => ?_⟩⟩
          have := (h k hlt).2 h0; omega
        · right
          refine ⟨W ((k : Int) + 1), by simp [hm], ⟨k + 1, by rw [W_s (by omega)]; rfl, by omega, fun j hj hjk => ?_⟩, by rw [W_s (by omega)]; omega⟩
          by_cases e : j = k
          · subst e; exact ⟨hv, fun _ => by omega⟩
          · exact hok j hj (by omega)
      · right
        have hk0 : (decide ((k : Int) > 0)) = false := by simp; omega
        refine ⟨W ((k : Int) + 1), by rw [hk0]; simp, ⟨k + 1, by rw [W_s (by omega)]; rfl, by omega, fun j hj hjk => ?_⟩, by rw [W_s (by omega)]; omega⟩
        obtain rfl : j = k := by omega
        exact ⟨hv, fun h => by omega⟩
    · left
      refine ⟨.inr (none, 1), by simp only [hv, decide_false, Bool.not_false, if_true], .inr ⟨rfl, fun h => hv (h k hlt).1⟩⟩
  · left
    have h1 : ¬ (k : Int) < (l.length : Int) := by omega
    obtain rfl : k = l.length := by omega
    exact ⟨.inl _, by simp, .inl ⟨rfl, fun j hj => hok j hj hj⟩⟩
noncomputable def lookP (s : TSky) (n a : Int) (mins : List Int) : Option Tknown × Int :=
  if ¬ VSky s then (none, 24) else if ¬ (0 ≤ n ∧ n ≤ 100000) then (none, 6) else if ¬ (0 ≤ a ∧ a ≤ 100000) then (none, 6) else if ¬ minsOK mins then (none, 1) else
  match inF s.Sheets n a with
  | none => (none, 25)
  | some x => (some ⟨x, s.Roofs, sg s.Sightings n a, slp x s.Roofs (sg s.Sightings n a)⟩, 0)
theorem sg_mem {l : List TSighting} {n a : Int} {y : TSighting} (h : y ∈ sg l n a) : y ∈ l := (List.mem_filter.1 h).1
theorem look_eq (s : TSky) (hr : s.Roofs.length ≤ maxLen) (n a : Int) (mins : List Int) (hl : mins.length ≤ 1000) : m_moon_look s n a mins = some (lookP s n a mins) := by
  unfold m_moon_look lookP
  rw [Check_eq s hr, Option.bind_some]
  by_cases h1 : VSky s
  rotate_left
  · simp [h1]
  simp only [h1, not_true_eq_false, if_false, if_true, bne_self_eq_false, Bool.false_eq_true, isNight_eq, Option.bind_some]
  by_cases h2 : 0 ≤ n ∧ n ≤ 100000
  rotate_left
  · simp only [h2, decide_false, Bool.not_false, if_true, not_false_eq_true]
  by_cases h3 : 0 ≤ a ∧ a ≤ 100000
  rotate_left
  · simp only [h2, h3, and_self, decide_true, decide_false, Bool.not_true, Bool.not_false, Bool.false_eq_true, if_false, if_true, not_false_eq_true, not_true_eq_false]
  simp only [h2, h3, and_self, decide_true, Bool.not_true, Bool.false_eq_true, if_false, not_true_eq_false]
  obtain ⟨e, he, hq⟩ := mins_loop mins hl
  rw [he, Option.bind_some]
  rcases hq with ⟨rfl, hok⟩ | ⟨rfl, hno⟩
  rotate_left
  · simp [hno]
  simp only [hok, not_true_eq_false, if_false]
  rw [inForce_eq s h1.n1]
  cases hx : inF s.Sheets n a with
  | none => simp
  | some x =>
    have vx := h1.sheet (inF_mem hx).1
    have hmin : ∀ y, y ∈ sg s.Sightings n a → 0 ≤ y.Minute ∧ y.Minute ≤ 1439 := fun y hy => (h1.sight (sg_mem hy)).min
    have hlen : (sg s.Sightings n a).length ≤ 60 := Nat.le_trans (List.length_filter_le _ _) h1.n2
    simp only [Option.bind_some, Option.isSome_some, Option.getD_some, Bool.not_true, Bool.false_eq_true, if_false]
    rw [sighted_eq s h1.n2, Option.bind_some, slipOf_eq (k := ⟨x, s.Roofs, sg s.Sightings n a, ⟨⟨0, 0⟩, false, ⟨0, 0⟩⟩⟩) vx h1.roofs hmin hlen]
    rfl
structure KOK (k : Tknown) : Prop where
  sh : VSheet k.Sheet
  rf : VRoofs k.roofs
  sl : ESlip k.slip
  sg : ∀ y, y ∈ k.sightings → 0 ≤ y.Minute ∧ y.Minute ≤ 1439
  n : k.sightings.length ≤ 60
theorem lookP_ok {s : TSky} {n a : Int} {mins : List Int} {k : Tknown} {e : Int} (h : lookP s n a mins = (some k, e)) : e = 0 ∧ KOK k ∧ VSky s ∧ minsOK mins ∧ ∃ x, inF s.Sheets n a = some x ∧ k = ⟨x, s.Roofs, sg s.Sightings n a, slp x s.Roofs (sg s.Sightings n a)⟩ := by
  unfold lookP at h
  split at h
  · cases h
  · rename_i h1
    have h1 := Classical.not_not.1 h1
    split at h
    · cases h
    · split at h
      · cases h
      · split at h
        · cases h
        · rename_i hm
          split at h
          · cases h
          · rename_i x hx
            have vx := h1.sheet (inF_mem hx).1
            have hmin : ∀ y, y ∈ sg s.Sightings n a → 0 ≤ y.Minute ∧ y.Minute ≤ 1439 := fun y hy => (h1.sight (sg_mem hy)).min
            cases h
            exact ⟨rfl, ⟨vx, h1.roofs, slp_ok vx h1.roofs hmin, hmin, Nat.le_trans (List.length_filter_le _ _) h1.n2⟩, h1, Classical.not_not.1 hm, x, hx, rfl⟩
theorem lookP_none {s : TSky} {n a : Int} {mins : List Int} {e : Int} (h : lookP s n a mins = (none, e)) : (e != 0) = true := by
  unfold lookP at h
  split at h
  · cases h; rfl
  · split at h
    · cases h; rfl
    · split at h
      · cases h; rfl
      · split at h
        · cases h; rfl
        · split at h
          · cases h; rfl
          · cases h
noncomputable def clearP (s : TSky) (n a : Int) (mins : List Int) : Option Tknown × Int :=
  match lookP s n a mins with
  | (none, e) => (none, e)
  | (some k, _) => if emp k.slip = true then (none, 26) else (some k, 0)
theorem clearly_eq (s : TSky) (hr : s.Roofs.length ≤ maxLen) (n a : Int) (mins : List Int) (hl : mins.length ≤ 1000) : m_moon_clearly s n a mins = some (clearP s n a mins) := by
  unfold m_moon_clearly clearP
  rw [look_eq s hr n a mins hl]
  cases hk : lookP s n a mins with
  | mk o e =>
    cases o with
    | none =>
      have h := lookP_none hk
      simp only [bne_iff_ne, ne_eq] at h
      simp [optM, h]
    | some k =>
      obtain ⟨rfl, hok, _⟩ := lookP_ok hk
      simp only [Option.bind_some, optM, bne_self_eq_false, Bool.false_eq_true, if_false]
      rw [isEmpty_eq hok.sl, Option.bind_some]
      cases emp k.slip <;> rfl
theorem clearP_none {s : TSky} {n a : Int} {mins : List Int} {e : Int} (h : clearP s n a mins = (none, e)) : (e != 0) = true := by
  unfold clearP at h
  split at h
  · rename_i hk; cases h; exact lookP_none hk
  · split at h
    · cases h; rfl
    · cases h
theorem clearP_ok {s : TSky} {n a : Int} {mins : List Int} {k : Tknown} {e : Int} (h : clearP s n a mins = (some k, e)) : e = 0 ∧ lookP s n a mins = (some k, 0) ∧ emp k.slip = false := by
  unfold clearP at h
  split at h
  · cases h
  · rename_i k' e' hk
    obtain ⟨rfl, _⟩ := lookP_ok hk
    split at h
    · cases h
    · rename_i hn; cases h; exact ⟨rfl, hk, by simpa using hn⟩
noncomputable def abP (k : Tknown) (t : Int) : Int :=
  if fcmp k.slip.Lo (eg k.Sheet k.roofs t) > 0 ∨ (fcmp k.slip.Lo (eg k.Sheet k.roofs t) = 0 ∧ k.slip.Open = true) then 1
  else if fcmp k.slip.Hi (eg k.Sheet k.roofs t) ≤ 0 then 0 else 2
theorem above_eq {k : Tknown} (hk : KOK k) {t : Int} (ht : 0 ≤ t ∧ t ≤ 1439) : m_moon_known_above k t = some (abP k t) := by
  obtain ⟨e1, hE⟩ := edge_eq hk.sh hk.rf ht
  unfold m_moon_known_above abP
  rw [e1, Option.bind_some, compare_eq hk.sl.lo.sm hE.sm, Option.bind_some, compare_eq hk.sl.hi.sm hE.sm]
  by_cases h1 : fcmp k.slip.Lo (eg k.Sheet k.roofs t) > 0
  · simp [h1]
  · by_cases h2 : fcmp k.slip.Lo (eg k.Sheet k.roofs t) = 0
    · cases hO : k.slip.Open
      · by_cases h3 : fcmp k.slip.Hi (eg k.Sheet k.roofs t) ≤ 0 <;> simp [h2, h3]
      · simp [h2]
    · by_cases h3 : fcmp k.slip.Hi (eg k.Sheet k.roofs t) ≤ 0 <;> simp [h1, h2, h3]
theorem mins1 {t : Int} : minsOK [t] ↔ 0 ≤ t ∧ t ≤ 1439 := by
  constructor
  · intro h; exact (h 0 (by simp)).1
  · intro h k hk
    simp at hk; subst hk
    exact ⟨by simpa using h, fun h => by omega⟩
theorem Above_eq (s : TSky) (hr : s.Roofs.length ≤ maxLen) (n a t : Int) : m_moon_Above s n a t = some (match clearP s n a [t] with | (none, e) => (0, e) | (some k, _) => (abP k t, 0)) := by
  unfold m_moon_Above
  rw [clearly_eq s hr n a [t] (by simp)]
  cases hk : clearP s n a [t] with
  | mk o e =>
    cases o with
    | none =>
      have h := clearP_none hk
      simp only [bne_iff_ne, ne_eq] at h
      simp [optM, h]
    | some k =>
      obtain ⟨rfl, hl, _⟩ := clearP_ok hk
      obtain ⟨_, hok, _, hm, _⟩ := lookP_ok hl
      simp only [Option.bind_some, optM, bne_self_eq_false, Bool.false_eq_true, if_false]
      rw [above_eq hok (mins1.1 hm)]; rfl
theorem Slip_eq (s : TSky) (hr : s.Roofs.length ≤ maxLen) (n a : Int) : m_moon_Slip s n a = some (match clearP s n a [] with | (none, e) => (⟨⟨0, 0⟩, false, ⟨0, 0⟩⟩, e) | (some k, _) => (k.slip, 0)) := by
  unfold m_moon_Slip
  rw [clearly_eq s hr n a [] (by simp)]
  cases hk : clearP s n a [] with
  | mk o e =>
    cases o with
    | none =>
      have h := clearP_none hk
      simp only [bne_iff_ne, ne_eq] at h
      simp [optM, h]
    | some k =>
      obtain ⟨rfl, hl, _⟩ := clearP_ok hk
      simp only [Option.bind_some, optM, bne_self_eq_false, Bool.false_eq_true, if_false]
end Go.Proofs.Ytdhjccionnbljaa
namespace Go.Proofs.Ytdhjccionnbljaa
open Go Go.Sx
open Classical
theorem Mod_ex (n : Int) {m : Int} (h0 : 0 < m) (h1 : m ≤ 4611686018427387904) : ∃ k, m_R02_Mod n m = some k ∧ 0 ≤ k ∧ k < m := by
  have a := Int.tmod_lt_of_pos n h0
  have b : -m < n.tmod m := by
    have := Int.tmod_lt_of_pos (-n) h0
    rw [Int.neg_tmod] at this; omega
  refine ⟨(n.tmod m + m).tmod m, ?_, Int.tmod_nonneg _ (by omega), Int.tmod_lt_of_pos _ h0⟩
  unfold m_R02_Mod
  have hne : m ≠ 0 := by omega
  rw [W_id (by omega)]
  simp [gd, hne]
theorem idx_some {α : Type} {l : List α} {k : Nat} {x : α} (h : l[k]? = some x) : idx l (k : Int) = some x := by
  obtain ⟨hk, rfl⟩ := List.getElem?_eq_some_iff.1 h
  exact idx_nat hk
theorem okRow_snoc {l : List TRow} {r : TRow} (h : ∀ k, k < l.length → okRow l k) (v : VRow r) (hp : ∀ p, 0 < l.length → l[l.length - 1]? = some p → p.Minute < r.Minute ∧ fcmp p.Bearing r.Bearing ≤ 0) : ∀ k, k < (l ++ [r]).length → okRow (l ++ [r]) k := by
  intro k hk
  simp only [List.length_append, List.length_singleton] at hk
  by_cases e : k < l.length
  · obtain ⟨x, hx, v, hpp⟩ := h k e
    refine ⟨x, by rw [List.getElem?_append_left e]; exact hx, v, fun p h0 hp' => hpp p h0 ?_⟩
    rwa [List.getElem?_append_left (by omega)] at hp'
  · obtain rfl : k = l.length := by omega
    refine ⟨r, by simp, v, fun p h0 hp' => hp p h0 ?_⟩
    rwa [List.getElem?_append_left (by omega)] at hp'
theorem okSheet_snoc {l : List TSheet} {r : TSheet} (h : ∀ k, k < l.length → okSheet l k) (v : VSheet r) (hp : ∀ p, 0 < l.length → l[l.length - 1]? = some p → p.Source < r.Source) : ∀ k, k < (l ++ [r]).length → okSheet (l ++ [r]) k := by
  intro k hk
  simp only [List.length_append, List.length_singleton] at hk
  by_cases e : k < l.length
  · obtain ⟨x, hx, v, hpp⟩ := h k e
    refine ⟨x, by rw [List.getElem?_append_left e]; exact hx, v, fun p h0 hp' => hpp p h0 ?_⟩
    rwa [List.getElem?_append_left (by omega)] at hp'
  · obtain rfl : k = l.length := by omega
    refine ⟨r, by simp, v, fun p h0 hp' => hp p h0 ?_⟩
    rwa [List.getElem?_append_left (by omega)] at hp'
theorem okSight_snoc {l : List TSighting} {r : TSighting} (h : ∀ k, k < l.length → okSight l k) (v : VSight r) (hp : ∀ p, 0 < l.length → l[l.length - 1]? = some p → p.Source < r.Source) : ∀ k, k < (l ++ [r]).length → okSight (l ++ [r]) k := by
  intro k hk
  simp only [List.length_append, List.length_singleton] at hk
  by_cases e : k < l.length
  · obtain ⟨x, hx, v, hpp⟩ := h k e
    refine ⟨x, by rw [List.getElem?_append_left e]; exact hx, v, fun p h0 hp' => hpp p h0 ?_⟩
    rwa [List.getElem?_append_left (by omega)] at hp'
  · obtain rfl : k = l.length := by omega
    refine ⟨r, by simp, v, fun p h0 hp' => hp p h0 ?_⟩
    rwa [List.getElem?_append_left (by omega)] at hp'
theorem rd_one (n : Int) : rd n 1 = ⟨n, 1⟩ := by
  unfold rd
  have : Nat.gcd n.natAbs (1 : Int).natAbs = 1 := by simp
  rw [this]; simp
theorem gd_small {α : Type} {v : List TRow} {r : TRow} (h : v.length ≤ 10) (x : Option α) : gd ((v.length + ([r] : List TRow).length) * 40 ≤ 140737488355328 ∧ v.length + ([r] : List TRow).length ≤ 9223372036854775807) x = x := by
  unfold gd; rw [if_pos]; simp only [List.length_singleton]; omega
structure RowsI (v : List TRow) (k : Nat) : Prop where
  n : v.length = k + 1
  ok : ∀ j, j < v.length → okRow v j
  first : ∀ r, v[0]? = some r → r.Minute = 0
  last : ∃ q, v[k]? = some q ∧ 0 ≤ q.Minute ∧ q.Minute ≤ 249 * k ∧ q.Bearing.Den = 1 ∧ 0 ≤ q.Bearing.Num ∧ q.Bearing.Num ≤ 60 + 60 * k
theorem RowsI.snoc {v : List TRow} {k : Nat} (h : RowsI v k) {q : TRow} (hq : v[k]? = some q) {r : TRow} (vr : VRow r) (h1 : q.Minute < r.Minute) (h2 : q.Minute + 50 ≤ r.Minute ∧ r.Minute ≤ q.Minute + 249) (h3 : r.Bearing.Den = 1) (h4 : q.Bearing.Num ≤ r.Bearing.Num ∧ r.Bearing.Num ≤ q.Bearing.Num + 60) : RowsI (v ++ [r]) (k + 1) := by
  obtain ⟨q', hq', a, b, c, d, e⟩ := h.last
  have : q' = q := by rw [hq] at hq'; exact (Option.some.inj hq').symm
  subst this
  refine ⟨by simp [h.n], okRow_snoc h.ok vr ?_, fun x hx => ?_, r, by rw [← h.n]; simp, by omega, by push_cast; omega, h3, by omega, by push_cast; omega⟩
  · intro p h0 hp
    rw [h.n] at hp
    have : p = q' := by rw [show k + 1 - 1 = k from rfl, hq] at hp; exact (Option.some.inj hp).symm
    subst this
    refine ⟨h1, fcmp_le.2 ?_⟩
    rw [c, h3]; omega
  · rw [List.getElem?_append_left (by have := h.n; omega)] at hx
    exact h.first x hx
theorem sm_rd {n d : Int} (hd : 0 < d) (h2 : d ≤ 100) (hn : -1000 ≤ n ∧ n ≤ 1000) : Sm (rd n d) ∧ (rd n d).Den ≤ 100 := by
  have a := rd_pos (n := n) hd
  have b := rd_le (n := n) hd
  have c := rd_bd (n := n) (B := 1000) hd ⟨by omega, by omega⟩
  exact ⟨⟨a, by omega, by omega, by omega⟩, by omega⟩
theorem vrow_of {m : Int} {h b : TFrac} (h1 : 1 ≤ h.Den ∧ h.Den ≤ 100) (h2 : -(90 * h.Den) ≤ h.Num ∧ h.Num ≤ 90 * h.Den) (b1 : b.Den = 1) (b2 : 0 ≤ b.Num ∧ b.Num < 360) : VRow ⟨m, h, b⟩ :=
  ⟨vf_iff.2 ⟨h1.1, h1.2, by show -(360 * h.Den) ≤ h.Num; omega, by show h.Num ≤ 360 * h.Den; omega⟩, h2.1, h2.2, vf_iff.2 ⟨by show 1 ≤ b.Den; omega, by show b.Den ≤ 100; omega, by show -(360 * b.Den) ≤ b.Num; omega, by show b.Num ≤ 360 * b.Den; omega⟩, b2.1, by show b.Num < 360 * b.Den; omega⟩
theorem rows_body (l : List (Int × Int × Int × Int)) (v : List TRow) (k : Nat) (hk : k ≤ 4) (h : RowsI v k) : (m_R02_rows_L1 l ((k : Int), v) = some (.inr ((k : Int), v))) ∨ (k < 4 ∧ k < l.length ∧ ∃ r, m_R02_rows_L1 l ((k : Int), v) = some (.inl (((k + 1 : Nat) : Int), v ++ [r])) ∧ RowsI (v ++ [r]) (k + 1)) := by
  unfold m_R02_rows_L1
  by_cases h1 : (k : Int) < (l.length : Int)
  rotate_left
  · left; simp only [h1, decide_false, Bool.false_eq_true, if_false]
  by_cases h2 : (k : Int) < 4
  rotate_left
  · left; simp only [h1, h2, decide_true, if_true, decide_false, Bool.false_eq_true, if_false]
  right
  obtain ⟨q, hq, a, b, c, d, e⟩ := h.last
  have hkl : k < l.length := by omega
  have hw : W ((v.length : Int) - 1) = (k : Int) := by rw [h.n, W_id (by omega)]; push_cast; omega
  refine ⟨by omega, hkl, ?_⟩
  obtain ⟨x1, e1, f1, g1⟩ := Mod_ex (l[k]).1 (m := 200) (by omega) (by omega)
  obtain ⟨x2, e2, f2, g2⟩ := Mod_ex (l[k]).2.1 (m := 490) (by omega) (by omega)
  obtain ⟨x3, e3, f3, g3⟩ := Mod_ex (l[k]).2.2.2 (m := 7) (by omega) (by omega)
  obtain ⟨x4, e4, f4, g4⟩ := Mod_ex (l[k]).2.2.1 (m := 60) (by omega) (by omega)
  obtain ⟨x5, e5, f5, g5⟩ := Mod_ex (l[k]).2.1 (m := 60) (by omega) (by omega)
  have w1 : W (x2 - 90) = x2 - 90 := W_id (by omega)
  have w2 : W (1 + x3) = 1 + x3 := W_id (by omega)
  have w3 : W (q.Bearing.Den * x4) = x4 := by rw [c, W_id (by omega)]; omega
  have w4 : W (q.Bearing.Num + x4) = q.Bearing.Num + x4 := W_id (by omega)
  have w5 : W (q.Minute + 50) = q.Minute + 50 := W_id (by omega)
  have w6 : W (q.Minute + 50 + x1) = q.Minute + 50 + x1 := W_id (by omega)
  have w7 : W ((k : Int) + 1) = ((k + 1 : Nat) : Int) := by rw [W_s (by omega)]; rfl
  have fr1 : m_R02_frac (x2 - 90) (1 + x3) = some (rd (x2 - 90) (1 + x3)) := frac_eq (by omega) (by omega) (by omega)
  have fr2 : m_R02_frac (q.Bearing.Num + x4) q.Bearing.Den = some ⟨q.Bearing.Num + x4, 1⟩ := by rw [c, frac_eq (by omega) (by omega) (by omega), rd_one]
  obtain ⟨sm, sd⟩ := sm_rd (n := x2 - 90) (d := 1 + x3) (by omega) (by omega) (by omega)
  have sg1 := sign_eq (x := rd (x2 - 90) (1 + x3)) (y := ⟨90, 1⟩) sm (Sm_whole (by omega))
  have sg2 := sign_eq (x := ⟨-90, 1⟩) (y := rd (x2 - 90) (1 + x3)) (Sm_whole (by omega)) sm
  have wh : ∀ n, m_R02_whole n = some ⟨n, 1⟩ := fun n => rfl
  generalize rd (x2 - 90) (1 + x3) = H at *
  have hl10 : v.length ≤ 10 := by have := h.n; omega
  simp only [h1, h2, decide_true, if_true, hw, idx_some hq, idx_nat hkl, Option.bind_some, e1, e2, e3, e4, e5, w1, w2, w3, w4, w5, w6, w7, fr1, fr2, wh, sg1, sg2, gd_small hl10]
  by_cases c1 : fcmp H ⟨90, 1⟩ > 0
  · refine ⟨⟨q.Minute + 50 + x1, ⟨x5, 1⟩, ⟨q.Bearing.Num + x4, 1⟩⟩, by simp only [c1, decide_true, if_true], h.snoc hq (vrow_of ⟨by simp, by simp⟩ ⟨by show -(90 * 1) ≤ x5; omega, by show x5 ≤ 90 * 1; omega⟩ rfl ⟨by show 0 ≤ q.Bearing.Num + x4; omega, by show q.Bearing.Num + x4 < 360; omega⟩) ?_ ?_ rfl ?_⟩
    · show q.Minute < q.Minute + 50 + x1; omega
    · show q.Minute + 50 ≤ q.Minute + 50 + x1 ∧ q.Minute + 50 + x1 ≤ q.Minute + 249; omega
    · show q.Bearing.Num ≤ q.Bearing.Num + x4 ∧ q.Bearing.Num + x4 ≤ q.Bearing.Num + 60; omega
  · by_cases c2 : fcmp ⟨-90, 1⟩ H > 0
    · refine ⟨⟨q.Minute + 50 + x1, ⟨x5, 1⟩, ⟨q.Bearing.Num + x4, 1⟩⟩, by simp only [c1, c2, decide_true, decide_false, Bool.false_eq_true, if_false, if_true], h.snoc hq (vrow_of ⟨by simp, by simp⟩ ⟨by show -(90 * 1) ≤ x5; omega, by show x5 ≤ 90 * 1; omega⟩ rfl ⟨by show 0 ≤ q.Bearing.Num + x4; omega, by show q.Bearing.Num + x4 < 360; omega⟩) ?_ ?_ rfl ?_⟩
      · show q.Minute < q.Minute + 50 + x1; omega
      · show q.Minute + 50 ≤ q.Minute + 50 + x1 ∧ q.Minute + 50 + x1 ≤ q.Minute + 249; omega
      · show q.Bearing.Num ≤ q.Bearing.Num + x4 ∧ q.Bearing.Num + x4 ≤ q.Bearing.Num + 60; omega
    · have d1 := fcmp_le.1 (Int.not_lt.1 c1)
      have d2 := fcmp_le.1 (Int.not_lt.1 c2)
      simp only at d1 d2
      have := sm.den
      refine ⟨⟨q.Minute + 50 + x1, H, ⟨q.Bearing.Num + x4, 1⟩⟩, by simp only [c1, c2, decide_false, Bool.false_eq_true, if_false], h.snoc hq (vrow_of ⟨by omega, sd⟩ ⟨by omega, by omega⟩ rfl ⟨by show 0 ≤ q.Bearing.Num + x4; omega, by show q.Bearing.Num + x4 < 360; omega⟩) ?_ ?_ rfl ?_⟩
      · show q.Minute < q.Minute + 50 + x1; omega
      · show q.Minute + 50 ≤ q.Minute + 50 + x1 ∧ q.Minute + 50 + x1 ≤ q.Minute + 249; omega
      · show q.Bearing.Num ≤ q.Bearing.Num + x4 ∧ q.Bearing.Num + x4 ≤ q.Bearing.Num + 60; omega
structure VRows (v : List TRow) : Prop where
  len : 2 ≤ v.length ∧ v.length ≤ 12
  rows : ∀ k, k < v.length → okRow v k
  first : ∀ r, v[0]? = some r → r.Minute = 0
  last : ∀ r, v[v.length - 1]? = some r → r.Minute = 1439
theorem rows_ex (l : List (Int × Int × Int × Int)) : ∃ v, m_R02_rows l = some v ∧ VRows v := by
  have h0 : RowsI [(⟨0, ⟨-20, 1⟩, ⟨60, 1⟩⟩ : TRow)] 0 := by
    refine ⟨rfl, fun j hj => ?_, fun r h => by simp at h; rw [← h], _, rfl, by simp, by simp, rfl, by simp, by simp⟩
    have : j = 0 := by simp at hj; omega
    subst this
    exact ⟨_, rfl, vrow_of ⟨by simp, by simp⟩ ⟨by simp, by simp⟩ rfl ⟨by simp, by simp⟩, fun p h => by omega⟩
  obtain ⟨e, he, k, v, hk, hI, rfl⟩ := loopF_rule (body := m_R02_rows_L1 l) (fun st => ∃ (k : Nat) (v : List TRow), k ≤ 4 ∧ RowsI v k ∧ st = ((k : Int), v)) (fun st => 4 - st.1.toNat) (fun st => ∃ (k : Nat) (v : List TRow), k ≤ 4 ∧ RowsI v k ∧ st = ((k : Int), v)) (by
    rintro st ⟨k, v, hk, hI, rfl⟩
    rcases rows_body l v k hk hI with h | ⟨h1, h2, r, h, hI'⟩
    · exact .inl ⟨_, h, k, v, hk, hI, rfl⟩
    · exact .inr ⟨_, h, ⟨k + 1, _, by omega, hI', rfl⟩, by simp only; omega⟩) (0, [(⟨0, ⟨-20, 1⟩, ⟨60, 1⟩⟩ : TRow)]) ⟨0, _, by omega, h0, rfl⟩ (lt_FUEL (by simp))
  obtain ⟨q, hq, a, b, c, d, e⟩ := hI.last
  have hw : W ((v.length : Int) - 1) = (k : Int) := by rw [hI.n, W_id (by omega)]; push_cast; omega
  have w3 : W (q.Bearing.Den * 20) = 20 := by rw [c]; rfl
  have w4 : W (q.Bearing.Num + 20) = q.Bearing.Num + 20 := W_id (by omega)
  have fr2 : m_R02_frac (q.Bearing.Num + 20) q.Bearing.Den = some ⟨q.Bearing.Num + 20, 1⟩ := by rw [c, frac_eq (by omega) (by omega) (by omega), rd_one]
  have hl10 : v.length ≤ 10 := by have := hI.n; omega
  have wh : ∀ n, m_R02_whole n = some ⟨n, 1⟩ := fun n => rfl
  refine ⟨v ++ [⟨1439, ⟨-10, 1⟩, ⟨q.Bearing.Num + 20, 1⟩⟩], ?_, ?_⟩
  · unfold m_R02_rows
    rw [he, Option.bind_some]
    simp only [hw, idx_some hq, Option.bind_some, w3, w4, fr2, wh, gd_small hl10]
  · refine ⟨by simp only [List.length_append, List.length_singleton, hI.n]; omega, okRow_snoc hI.ok (vrow_of ⟨by simp, by simp⟩ ⟨by simp, by simp⟩ rfl ⟨by show 0 ≤ q.Bearing.Num + 20; omega, by show q.Bearing.Num + 20 < 360; omega⟩) ?_, fun x hx => ?_, fun x hx => ?_⟩
    · intro p _ hp
      rw [hI.n] at hp
      have : p = q := by rw [show k + 1 - 1 = k from rfl, hq] at hp; exact (Option.some.inj hp).symm
      subst this
      refine ⟨by show p.Minute < 1439; omega, fcmp_le.2 ?_⟩
      show p.Bearing.Num * 1 ≤ (p.Bearing.Num + 20) * p.Bearing.Den
      rw [c]; omega
    · rw [List.getElem?_append_left (by have := hI.n; omega)] at hx
      exact hI.first x hx
    · simp at hx; rw [← hx]
end Go.Proofs.Ytdhjccionnbljaa
namespace Go.Proofs.Ytdhjccionnbljaa
open Go Go.Sx
open Classical
theorem gd_len {α β : Type} {v : List β} {r : β} {c : Nat} (hc : c ≤ 1000) (h : v.length ≤ 100) (x : Option α) : gd ((v.length + ([r] : List β).length) * c ≤ 140737488355328 ∧ v.length + ([r] : List β).length ≤ 9223372036854775807) x = x := by
  unfold gd; rw [if_pos]
  simp only [List.length_singleton]
  have : (v.length + 1) * c ≤ 101 * 1000 := Nat.mul_le_mul (by omega) hc
  omega
structure ShI (v : List TSheet) (k : Nat) : Prop where
  n : v.length = k
  ok : ∀ j, j < v.length → okSheet v j
  src : ∀ p, p ∈ v → p.Source < 3 * k + 2
theorem rd_nonneg {n d : Int} (h : 0 ≤ n) : 0 ≤ (rd n d).Num := Int.ediv_nonneg h (Int.natCast_nonneg _)
theorem off_ok {n d : Int} (hn : 0 ≤ n ∧ n ≤ 39) (hd : 1 ≤ d ∧ d ≤ 9) : vf (rd n d) 100 = true ∧ 0 ≤ (rd n d).Num ∧ (rd n d).Num ≤ 90 * (rd n d).Den := by
  have hv : vf ⟨n, d⟩ 100 = true := vf_iff.2 ⟨by show 1 ≤ d; omega, by show d ≤ 100; omega, by show -(360 * d) ≤ n; omega, by show n ≤ 360 * d; omega⟩
  have := rd_bd (n := n) (d := d) (B := 90) (by omega) ⟨by omega, by omega⟩
  exact ⟨vf_rd hv, rd_nonneg hn.1, this.2⟩
theorem sh_body (r : TRaw) (hbig : r.Rows.length ≤ 4611686018427387904) (w v : List TSheet) (k : Nat) (hk : k ≤ 3) (h : ShI v k) : (m_R02_Made_L1 r ((k : Int), w, v) = some (.inr ((k : Int), w, v))) ∨ (k < 3 ∧ ∃ x, m_R02_Made_L1 r ((k : Int), w, v) = some (.inl (((k + 1 : Nat) : Int), w, v ++ [x])) ∧ ShI (v ++ [x]) (k + 1)) := by
  unfold m_R02_Made_L1
  by_cases h1 : (k : Int) < (r.Sheets.length : Int)
  rotate_left
  · left; simp only [h1, decide_false, Bool.false_eq_true, if_false]
  by_cases h2 : (k : Int) < 3
  rotate_left
  · left; simp only [h1, h2, decide_true, if_true, decide_false, Bool.false_eq_true, if_false]
  right
  have hkl : k < r.Sheets.length := by omega
  refine ⟨by omega, ?_⟩
  obtain ⟨x1, e1, f1, g1⟩ := Mod_ex (r.Sheets[k]).1 (m := 2) (by omega) (by omega)
  obtain ⟨x2, e2, f2, g2⟩ := Mod_ex (r.Sheets[k]).2.1 (m := 10) (by omega) (by omega)
  obtain ⟨x3, e3, f3, g3⟩ := Mod_ex (r.Sheets[k]).2.2.1 (m := 40) (by omega) (by omega)
  obtain ⟨x4, e4, f4, g4⟩ := Mod_ex (W ((r.Sheets[k]).2.2.1.tdiv 40)) (m := 9) (by omega) (by omega)
  obtain ⟨x5, e5, f5, g5⟩ := Mod_ex (r.Sheets[k]).2.2.2 (m := 500) (by omega) (by omega)
  obtain ⟨x6, e6, f6, g6⟩ := Mod_ex (W ((r.Sheets[k]).2.2.2.tdiv 500)) (m := 400) (by omega) (by omega)
  have w1 : W (1 + x4) = 1 + x4 := W_id (by omega)
  have w2 : W (3 * (k : Int)) = 3 * k := W_id (by omega)
  have w3 : W (3 * (k : Int) + 2) = 3 * k + 2 := W_id (by omega)
  have w4 : W (x1 + 5) = x1 + 5 := W_id (by omega)
  have w5 : W (x5 + x6) = x5 + x6 := W_id (by omega)
  have w7 : W ((k : Int) + 1) = ((k + 1 : Nat) : Int) := by rw [W_s (by omega)]; rfl
  have fr1 : m_R02_frac x3 (1 + x4) = some (rd x3 (1 + x4)) := frac_eq (by omega) (by omega) (by omega)
  obtain ⟨o1, o2, o3⟩ := off_ok (n := x3) (d := 1 + x4) (by omega) (by omega)
  generalize rd x3 (1 + x4) = F at *
  have hl : v.length ≤ 100 := by have := h.n; omega
  have fin : ∀ rows, VRows rows → ShI (v ++ [(⟨3 * k + 2, x1 + 5, x2, 0, rows, F, ⟨x5, x5 + x6⟩⟩ : TSheet)]) (k + 1) := by
    intro rows hr
    refine ⟨by simp [h.n], okSheet_snoc h.ok ⟨by show 1 ≤ 3 * (k : Int) + 2 ∧ 3 * (k : Int) + 2 ≤ 99999; omega, by show 0 ≤ x1 + 5 ∧ x1 + 5 ≤ 100000; omega, by show 0 ≤ x2 ∧ x2 ≤ 100000; omega, .inl rfl, hr.len, o1, o2, o3, by show 0 ≤ x5 ∧ x5 ≤ x5 + x6 ∧ x5 + x6 ≤ 1000; omega, hr.rows, hr.first, hr.last⟩ (fun p _ hp => ?_), fun p hp => ?_⟩
    · exact h.src p (List.mem_of_getElem? hp)
    · rcases List.mem_append.1 hp with h' | h'
      · have := h.src p h'; push_cast; omega
      · obtain rfl := List.mem_singleton.1 h'
        show 3 * (k : Int) + 2 < _; push_cast; omega
  simp only [h1, h2, decide_true, if_true, idx_nat hkl, Option.bind_some, e1, e2, e3, e4, e5, e6, w1, w2, w3, w4, w5, w7, fr1, gd_len (c := 88) (by omega) hl]
  by_cases h3 : (r.Rows.length : Int) > 0
  · obtain ⟨j, ej, fj, gj⟩ := Mod_ex (k : Int) (m := (r.Rows.length : Int)) (by omega) (by omega)
    obtain ⟨jn, rfl⟩ : ∃ jn : Nat, j = jn := ⟨j.toNat, by omega⟩
    obtain ⟨rows, er, hr⟩ := rows_ex (r.Rows[jn]'(by omega))
    refine ⟨_, ?_, fin rows hr⟩
    simp only [h3, decide_true, if_true, ej, Option.bind_some, idx_nat (show jn < r.Rows.length by omega), er, gd_len (c := 88) (by omega) hl]
  · obtain ⟨rows, er, hr⟩ := rows_ex []
    refine ⟨_, ?_, fin rows hr⟩
    simp only [h3, decide_false, Bool.false_eq_true, if_false, er, Option.bind_some, gd_len (c := 88) (by omega) hl]
theorem sheets_made (r : TRaw) (hbig : r.Rows.length ≤ 4611686018427387904) : ∃ i w v, loopF (m_R02_Made_L1 r) (0, [], []) = some (i, w, v) ∧ v.length ≤ 3 ∧ ∀ j, j < v.length → okSheet v j := by
  obtain ⟨e, he, k, w, v, hk, hI, rfl⟩ := loopF_rule (body := m_R02_Made_L1 r) (fun st => ∃ (k : Nat) (w v : List TSheet), k ≤ 3 ∧ ShI v k ∧ st = ((k : Int), w, v)) (fun st => 3 - st.1.toNat) (fun st => ∃ (k : Nat) (w v : List TSheet), k ≤ 3 ∧ ShI v k ∧ st = ((k : Int), w, v)) (by
    rintro st ⟨k, w, v, hk, hI, rfl⟩
    rcases sh_body r hbig w v k hk hI with h | ⟨h1, x, h, hI'⟩
    · exact .inl ⟨_, h, k, w, v, hk, hI, rfl⟩
    · exact .inr ⟨_, h, ⟨k + 1, w, _, by omega, hI', rfl⟩, by simp only; omega⟩) (0, [], []) ⟨0, [], [], by omega, ⟨rfl, fun j hj => by simp at hj, fun p hp => by simp at hp⟩, rfl⟩ (lt_FUEL (by simp))
  exact ⟨_, _, _, he, by have := hI.n; omega, hI.ok⟩
theorem roof_body (r : TRaw) (v : List TRoof) (k : Nat) (hk : k ≤ 5) (hn : v.length = k) (hv : ∀ y, y ∈ v → VRoof y) : (m_R02_Made_L2 r ((k : Int), v) = some (.inr ((k : Int), v))) ∨ (k < 5 ∧ ∃ x, m_R02_Made_L2 r ((k : Int), v) = some (.inl (((k + 1 : Nat) : Int), v ++ [x])) ∧ VRoof x) := by
  unfold m_R02_Made_L2
  by_cases h1 : (k : Int) < (r.Roofs.length : Int)
  rotate_left
  · left; simp only [h1, decide_false, Bool.false_eq_true, if_false]
  by_cases h2 : (k : Int) < 5
  rotate_left
  · left; simp only [h1, h2, decide_true, if_true, decide_false, Bool.false_eq_true, if_false]
  right
  have hkl : k < r.Roofs.length := by omega
  obtain ⟨x1, e1, f1, g1⟩ := Mod_ex (r.Roofs[k]).1 (m := 300) (by omega) (by omega)
  obtain ⟨x2, e2, f2, g2⟩ := Mod_ex (r.Roofs[k]).2.1 (m := 59) (by omega) (by omega)
  obtain ⟨x3, e3, f3, g3⟩ := Mod_ex (r.Roofs[k]).2.2 (m := 30) (by omega) (by omega)
  have w1 : W (x1 + 1) = x1 + 1 := W_id (by omega)
  have w2 : W (x1 + 1 + x2) = x1 + 1 + x2 := W_id (by omega)
  have w7 : W ((k : Int) + 1) = ((k + 1 : Nat) : Int) := by rw [W_s (by omega)]; rfl
  have hl : v.length ≤ 100 := by omega
  refine ⟨by omega, ⟨x1, x1 + 1 + x2, x3⟩, ?_, ⟨by show 0 ≤ x1; omega, by show x1 < x1 + 1 + x2; omega, by show x1 + 1 + x2 ≤ 360; omega, by show 0 ≤ x3; omega, by show x3 ≤ 90; omega⟩⟩
  simp only [h1, h2, decide_true, if_true, idx_nat hkl, Option.bind_some, e1, e2, e3, w1, w2, w7, gd_len (c := 24) (by omega) hl]
theorem roofs_made (r : TRaw) : ∃ i v, loopF (m_R02_Made_L2 r) (0, []) = some (i, v) ∧ VRoofs v := by
  obtain ⟨e, he, k, v, hk, hn, hv, rfl⟩ := loopF_rule (body := m_R02_Made_L2 r) (fun st => ∃ (k : Nat) (v : List TRoof), k ≤ 5 ∧ v.length = k ∧ (∀ y, y ∈ v → VRoof y) ∧ st = ((k : Int), v)) (fun st => 5 - st.1.toNat) (fun st => ∃ (k : Nat) (v : List TRoof), k ≤ 5 ∧ v.length = k ∧ (∀ y, y ∈ v → VRoof y) ∧ st = ((k : Int), v)) (by
    rintro st ⟨k, v, hk, hn, hv, rfl⟩
    rcases roof_body r v k hk hn hv with h | ⟨h1, x, h, hx⟩
    · exact .inl ⟨_, h, k, v, hk, hn, hv, rfl⟩
    · refine .inr ⟨_, h, ⟨k + 1, _, by omega, by simp [hn], fun y hy => ?_, rfl⟩, by simp only; omega⟩
      rcases List.mem_append.1 hy with h' | h'
      · exact hv y h'
      · rw [List.mem_singleton.1 h']; exact hx) (0, []) ⟨0, [], by omega, rfl, fun y hy => by simp at hy, rfl⟩ (lt_FUEL (by simp))
  exact ⟨_, _, he, hv, by omega⟩
theorem rinForce_ex (s : TSky) (hl : s.Sheets.length ≤ 60) (n a : Int) : ∃ j : Int, m_R02_inForce s n a = some j ∧ (j < 0 ∨ ∃ q : Nat, j = q ∧ q < s.Sheets.length) := by
  obtain ⟨e, he, i, j, hj, rfl⟩ := loopF_rule (body := m_R02_inForce_L1 s n a) (fun st => ∃ (k : Nat) (j : Int), k ≤ s.Sheets.length ∧ (j < 0 ∨ ∃ q : Nat, j = q ∧ q < s.Sheets.length) ∧ st = (j, (k : Int))) (fun st => s.Sheets.length - st.2.toNat) (fun st => ∃ (i j : Int), (j < 0 ∨ ∃ q : Nat, j = q ∧ q < s.Sheets.length) ∧ st = (j, i)) (by
    rintro st ⟨k, j, hk, hj, rfl⟩
    unfold m_R02_inForce_L1
    by_cases h1 : (k : Int) < (s.Sheets.length : Int)
    rotate_left
    · left; exact ⟨(j, (k : Int)), by simp only [h1, decide_false, Bool.false_eq_true, if_false], (k : Int), j, hj, rfl⟩
    right
    have hkl : k < s.Sheets.length := by omega
    have w7 : W ((k : Int) + 1) = ((k + 1 : Nat) : Int) := by rw [W_s (by omega)]; rfl
    simp only [h1, decide_true, if_true, idx_nat hkl, Option.bind_some, rcounts_eq, w7]
    have go : ∀ j' : Int, (j' < 0 ∨ ∃ q : Nat, j' = q ∧ q < s.Sheets.length) → ∃ s', some (Sum.inl (j', ((k + 1 : Nat) : Int)) : Sum (Int × Int) (Int × Int)) = some (.inl s') ∧ (∃ (k : Nat) (j : Int), k ≤ s.Sheets.length ∧ (j < 0 ∨ ∃ q : Nat, j = q ∧ q < s.Sheets.length) ∧ s' = (j, (k : Int))) ∧ s.Sheets.length - s'.2.toNat < s.Sheets.length - k := fun j' hj' => ⟨_, rfl, ⟨k + 1, j', by omega, hj', rfl⟩, by simp only; omega⟩
    split
    · split
      · split
        · exact go _ (.inr ⟨k, rfl, hkl⟩)
        · rename_i hneg
          rcases hj with hj | ⟨q, rfl, hq⟩
          · simp [hj] at hneg
          · have : (if (0 : Int) > (q : Int) then 0 else (q : Int)) = (q : Int) := by rw [if_neg]; omega
            rw [this, idx_nat hq, Option.bind_some]
            split
            · exact go _ (.inr ⟨k, rfl, hkl⟩)
            · exact go _ (.inr ⟨q, rfl, hq⟩)
      · exact go _ hj
    · exact go _ hj) (-1, 0) ⟨0, -1, by omega, .inl (by omega), rfl⟩ (lt_FUEL (by simp only; omega))
  refine ⟨j, ?_, hj⟩
  unfold m_R02_inForce
  rw [he]; rfl
theorem sign_ex (x y : TFrac) : ∃ z, m_R02_sign x y = some z := by
  unfold m_R02_sign; split
  · exact ⟨_, rfl⟩
  · split <;> exact ⟨_, rfl⟩
theorem True_ex {x : TSheet} (hx : VSheet x) (o : Int) : ∃ f, m_R02_True x o = some f := by
  obtain ⟨k, e, f, g⟩ := Mod_ex o (m := 25) (by omega) (by omega)
  obtain ⟨v1, v2, v3, v4⟩ := vf_iff.1 hx.off
  have hb := mul_bd (a := x.Off.Num) (b := k) (A := 36000) (B := 25) ⟨by omega, by omega⟩ ⟨by omega, by omega⟩
  have e2 : x.Off.Num * (k - 12) = x.Off.Num * k - 12 * x.Off.Num := by rw [Int.mul_sub]; omega
  refine ⟨rd (x.Off.Num * (k - 12)) (x.Off.Den * 12), ?_⟩
  · unfold m_R02_True
    rw [e, Option.bind_some, W_id (z := k - 12) (by omega), W_id (z := x.Off.Num * (k - 12)) (by omega), W_id (z := x.Off.Den * 12) (by omega), frac_eq (by omega) (by omega) (by omega)]; rfl
structure SiI (v : List TSighting) (k : Nat) : Prop where
  n : v.length ≤ k
  ok : ∀ j, j < v.length → okSight v j
  src : ∀ p, p ∈ v → p.Source < 5 * k + 40
theorem SiI.snoc {v : List TSighting} {k : Nat} (hk : k < 6) (h : SiI v k) (n m u : Int) (b : Bool) (hn : 0 ≤ n ∧ n ≤ 10) (hm : 0 ≤ m ∧ m ≤ 1439) (hu : 0 ≤ u ∧ u ≤ 100) : SiI (v ++ [⟨5 * k + 40, n, m, b, u, 0⟩]) (k + 1) := by
  refine ⟨by have := h.n; simp; omega, okSight_snoc h.ok ⟨by show 1 ≤ 5 * (k : Int) + 40 ∧ 5 * (k : Int) + 40 ≤ 99999; omega, by show 0 ≤ n ∧ n ≤ 100000; omega, hm, by show 0 ≤ u ∧ u ≤ 100000; omega, .inl rfl⟩ (fun p _ hp => h.src p (List.mem_of_getElem? hp)), fun p hp => ?_⟩
  rcases List.mem_append.1 hp with h' | h'
  · have := h.src p h'; push_cast; omega
  · obtain rfl := List.mem_singleton.1 h'
    show 5 * (k : Int) + 40 < _; push_cast; omega
theorem sight_body (r : TRaw) (S : List TSheet) (hS : S.length ≤ 3 ∧ ∀ x, x ∈ S → VSheet x) (R : List TRoof) (hR : VRoofs R) (w v : List TSighting) (k : Nat) (hk : k ≤ 6) (h : SiI v k) : (m_R02_Made_L3 r S R ((k : Int), w, v) = some (.inr ((k : Int), w, v))) ∨ (k < 6 ∧ ∃ v', m_R02_Made_L3 r S R ((k : Int), w, v) = some (.inl (((k + 1 : Nat) : Int), w, v')) ∧ SiI v' (k + 1)) := by
  unfold m_R02_Made_L3
  by_cases h1 : (k : Int) < (r.Sightings.length : Int)
  rotate_left
  · left; simp only [h1, decide_false, Bool.false_eq_true, if_false]
  by_cases h2 : (k : Int) < 6
  rotate_left
  · left; simp only [h1, h2, decide_true, if_true, decide_false, Bool.false_eq_true, if_false]
  right
  have hkl : k < r.Sightings.length := by omega
  have hk6 : k < 6 := by omega
  refine ⟨hk6, ?_⟩
  obtain ⟨x1, e1, f1, g1⟩ := Mod_ex (r.Sightings[k]).1 (m := 2) (by omega) (by omega)
  obtain ⟨x2, e2, f2, g2⟩ := Mod_ex (r.Sightings[k]).2.1 (m := 1440) (by omega) (by omega)
  obtain ⟨x3, e3, f3, g3⟩ := Mod_ex (r.Sightings[k]).2.2.2 (m := 20) (by omega) (by omega)
  obtain ⟨x4, e4, f4, g4⟩ := Mod_ex (r.Sightings[k]).2.2.1 (m := 9) (by omega) (by omega)
  have w1 : W (x1 + 5) = x1 + 5 := W_id (by omega)
  have w2 : W (5 * (k : Int)) = 5 * k := W_id (by omega)
  have w3 : W (5 * (k : Int) + 40) = 5 * k + 40 := W_id (by omega)
  have w7 : W ((k : Int) + 1) = ((k + 1 : Nat) : Int) := by rw [W_s (by omega)]; rfl
  have hl : v.length ≤ 100 := by have := h.n; omega
  obtain ⟨j, ej, hj⟩ := rinForce_ex ⟨S, R, v⟩ (by show S.length ≤ 60; omega) (x1 + 5) 20
  simp only [h1, h2, decide_true, if_true, idx_nat hkl, Option.bind_some, e1, e2, e3, e4, w1, w2, w3, w7, ej, gd_len (c := 48) (by omega) hl]
  rcases hj with hj | ⟨q, rfl, hq⟩
  · refine ⟨v, by simp only [hj, decide_true, if_true], by have := h.n; omega, h.ok, fun p hp => ?_⟩
    have := h.src p hp; push_cast; omega
  · have hq : q < S.length := hq
    have hneg : ¬ (q : Int) < 0 := by omega
    have hv := hS.2 _ (List.getElem_mem hq)
    obtain ⟨f, ef⟩ := True_ex hv r.Off
    obtain ⟨_, _, _, _, em⟩ := margin_ex hv hR (t := x2) (by omega) (by omega)
    have mi : ∀ x : TFrac, m_R02_minus x = some ⟨W (0 - x.Num), x.Den⟩ := fun _ => rfl
    simp only [hneg, decide_false, Bool.false_eq_true, if_false, idx_nat hq, Option.bind_some, ef, em, mi]
    obtain ⟨z, ez⟩ := sign_ex f ⟨W (0 - (lessF _ (hz R _)).Num), (lessF _ (hz R _)).Den⟩
    rw [ez, Option.bind_some]
    split
    · exact ⟨_, rfl, h.snoc hk6 _ _ _ _ (by omega) (by omega) (by omega)⟩
    · exact ⟨_, rfl, h.snoc hk6 _ _ _ _ (by omega) (by omega) (by omega)⟩
theorem sights_made (r : TRaw) (S : List TSheet) (hS : S.length ≤ 3 ∧ ∀ x, x ∈ S → VSheet x) (R : List TRoof) (hR : VRoofs R) : ∃ i w v, loopF (m_R02_Made_L3 r S R) (0, [], []) = some (i, w, v) ∧ v.length ≤ 6 ∧ ∀ j, j < v.length → okSight v j := by
  obtain ⟨e, he, k, w, v, hk, hI, rfl⟩ := loopF_rule (body := m_R02_Made_L3 r S R) (fun st => ∃ (k : Nat) (w v : List TSighting), k ≤ 6 ∧ SiI v k ∧ st = ((k : Int), w, v)) (fun st => 6 - st.1.toNat) (fun st => ∃ (k : Nat) (w v : List TSighting), k ≤ 6 ∧ SiI v k ∧ st = ((k : Int), w, v)) (by
    rintro st ⟨k, w, v, hk, hI, rfl⟩
    rcases sight_body r S hS R hR w v k hk hI with h | ⟨h1, x, h, hI'⟩
    · exact .inl ⟨_, h, k, w, v, hk, hI, rfl⟩
    · exact .inr ⟨_, h, ⟨k + 1, w, _, by omega, hI', rfl⟩, by simp only; omega⟩) (0, [], []) ⟨0, [], [], by omega, ⟨by simp, fun j hj => by simp at hj, fun p hp => by simp at hp⟩, rfl⟩ (lt_FUEL (by simp))
  exact ⟨_, _, _, he, by have := hI.n; omega, hI.ok⟩
theorem Made_ex (r : TRaw) (hbig : r.Rows.length ≤ 4611686018427387904) : ∃ s, m_R02_Made r = some s ∧ VSky s ∧ s.Sheets.length ≤ 3 ∧ s.Sightings.length ≤ 6 := by
  obtain ⟨i1, w1, S, e1, n1, h1⟩ := sheets_made r hbig
  obtain ⟨i2, R, e2, h2⟩ := roofs_made r
  have hS : S.length ≤ 3 ∧ ∀ x, x ∈ S → VSheet x := ⟨n1, fun x hx => by
    obtain ⟨k, hk, rfl⟩ := List.getElem_of_mem hx
    obtain ⟨y, hy, v, _⟩ := h1 k hk
    rw [List.getElem?_eq_getElem hk] at hy
    rw [Option.some.inj hy]; exact v⟩
  obtain ⟨i3, w3, v, e3, n3, h3⟩ := sights_made r S hS R h2
  refine ⟨⟨S, R, v⟩, ?_, ⟨by show S.length ≤ 60; omega, by show v.length ≤ 60; omega, h2, h1, h3⟩, n1, n3⟩
  unfold m_R02_Made
  rw [e1, Option.bind_some]
  simp only [e2, e3, Option.bind_some]
end Go.Proofs.Ytdhjccionnbljaa
namespace Go.Proofs.Ytdhjccionnbljaa
open Go Go.Sx
open Classical
theorem vf_mono {x : TFrac} (h : vf x 100 = true) : vf x 20000000 = true := by
  rw [vf_iff] at h ⊢; omega
theorem VSheet.strict {s : TSheet} (hs : VSheet s) {i j : Nat} (hi : i < s.Rows.length) (hj : j < s.Rows.length) (h : i < j) : s.Rows[i].Minute < s.Rows[j].Minute := by
  have a := hs.step (k := i) (by omega)
  have b := hs.mono (i := i + 1) (j := j) (by omega) hj (by omega)
  omega
theorem At.row {s : TSheet} (hs : VSheet s) {t : Int} {h g : TFrac} (ha : At s t h g) {i : Nat} (hi : i + 1 < s.Rows.length) (h1 : s.Rows[i].Minute ≤ t) (h2 : t ≤ s.Rows[i + 1].Minute) : h = seg s.Rows[i].Height s.Rows[i + 1].Height s.Rows[i].Minute s.Rows[i + 1].Minute t ∧ g = seg s.Rows[i].Bearing s.Rows[i + 1].Bearing s.Rows[i].Minute s.Rows[i + 1].Minute t := by
  obtain ⟨k, hk, a1, a2, rfl, rfl⟩ := ha.ex
  have key : ∀ (i k : Nat) (hi : i + 1 < s.Rows.length) (hk : k + 1 < s.Rows.length), s.Rows[i].Minute ≤ t → t ≤ s.Rows[i + 1].Minute → s.Rows[k].Minute ≤ t → t ≤ s.Rows[k + 1].Minute → k < i → seg s.Rows[k].Height s.Rows[k + 1].Height s.Rows[k].Minute s.Rows[k + 1].Minute t = seg s.Rows[i].Height s.Rows[i + 1].Height s.Rows[i].Minute s.Rows[i + 1].Minute t ∧ seg s.Rows[k].Bearing s.Rows[k + 1].Bearing s.Rows[k].Minute s.Rows[k + 1].Minute t = seg s.Rows[i].Bearing s.Rows[i + 1].Bearing s.Rows[i].Minute s.Rows[i + 1].Minute t := by
    intro i k hi hk h1 h2 a1 a2 hlt
    obtain rfl : i = k + 1 := by
      rcases Nat.lt_or_ge (k + 1) i with hc | hc
      · have := hs.strict (i := k + 1) (j := i) (by omega) (by omega) hc; omega
      · omega
    obtain rfl : t = s.Rows[k + 1].Minute := by omega
    have p1 := hs.segH hk a1 a2
    have p2 := hs.segB hk a1 a2
    have p3 := hs.segH hi h1 h2
    have p4 := hs.segB hi h1 h2
    rw [seg_end p1, seg_end p2, seg_start p3, seg_start p4]; exact ⟨rfl, rfl⟩
  rcases Nat.lt_trichotomy k i with hc | rfl | hc
  · exact key i k hi hk h1 h2 a1 a2 hc
  · exact ⟨rfl, rfl⟩
  · obtain ⟨e1, e2⟩ := key k i hk hi a1 a2 h1 h2 hc
    exact ⟨e1.symm, e2.symm⟩
theorem fcmp_rd_le {x : TFrac} {n d : Int} (hd : 0 < d) : fcmp x (rd n d) ≤ 0 ↔ x.Num * d ≤ n * x.Den := by
  obtain ⟨g, hg, e1, e2, hp⟩ := rd_spec (n := n) hd
  rw [fcmp_le]
  generalize rd n d = p at *
  subst e1 e2
  have a : x.Num * (g * p.Den) = g * (x.Num * p.Den) := by grind
  have b : g * p.Num * x.Den = g * (p.Num * x.Den) := by grind
  rw [a, b]
  exact ⟨fun h => Int.mul_le_mul_of_nonneg_left h (by omega), fun h => Int.le_of_mul_le_mul_left h hg⟩
theorem fcmp_rd_ge {x : TFrac} {n d : Int} (hd : 0 < d) : fcmp (rd n d) x ≤ 0 ↔ n * x.Den ≤ x.Num * d := by
  obtain ⟨g, hg, e1, e2, hp⟩ := rd_spec (n := n) hd
  rw [fcmp_le]
  generalize rd n d = p at *
  subst e1 e2
  have a : x.Num * (g * p.Den) = g * (x.Num * p.Den) := by grind
  have b : g * p.Num * x.Den = g * (p.Num * x.Den) := by grind
  rw [a, b]
  exact ⟨fun h => Int.mul_le_mul_of_nonneg_left h (by omega), fun h => Int.le_of_mul_le_mul_left h hg⟩
theorem seg_up {a b : TFrac} {m n t : Int} (h : SegOK a b m n t) (hab : fcmp a b ≤ 0) : fcmp a (seg a b m n t) ≤ 0 ∧ fcmp (seg a b m n t) b ≤ 0 := by
  have hd := h.den.1
  obtain ⟨va, vb, mn, mt, tn, _, _⟩ := h
  have da := (vf_iff.1 va).1
  have db := (vf_iff.1 vb).1
  have hD := fcmp_le.1 hab
  have p1 : 0 ≤ (b.Num * a.Den - a.Num * b.Den) * (t - m) := Int.mul_nonneg (by omega) (by omega)
  have p2 : 0 ≤ (b.Num * a.Den - a.Num * b.Den) * (n - t) := Int.mul_nonneg (by omega) (by omega)
  have q1 : 0 ≤ a.Den * ((b.Num * a.Den - a.Num * b.Den) * (t - m)) := Int.mul_nonneg (by omega) p1
  have q2 : 0 ≤ b.Den * ((b.Num * a.Den - a.Num * b.Den) * (n - t)) := Int.mul_nonneg (by omega) p2
  constructor
  · refine (fcmp_rd_le hd).2 ?_
    unfold segN segD
    have : (a.Num * b.Den * (n - m) + (b.Num * a.Den - a.Num * b.Den) * (t - m)) * a.Den - a.Num * (a.Den * b.Den * (n - m)) = a.Den * ((b.Num * a.Den - a.Num * b.Den) * (t - m)) := by grind
    omega
  · refine (fcmp_rd_ge hd).2 ?_
    unfold segN segD
    have : (a.Num * b.Den * (n - m) + (b.Num * a.Den - a.Num * b.Den) * (t - m)) * b.Den - b.Num * (a.Den * b.Den * (n - m)) = -(b.Den * ((b.Num * a.Den - a.Num * b.Den) * (n - t))) := by grind
    omega
theorem seg_down {a b : TFrac} {m n t : Int} (h : SegOK a b m n t) (hab : ¬ fcmp a b ≤ 0) : fcmp a (seg a b m n t) ≥ 0 ∧ fcmp (seg a b m n t) b ≥ 0 := by
  have hd := h.den.1
  obtain ⟨va, vb, mn, mt, tn, _, _⟩ := h
  have da := (vf_iff.1 va).1
  have db := (vf_iff.1 vb).1
  have hD : ¬ a.Num * b.Den ≤ b.Num * a.Den := fun x => hab (fcmp_le.2 x)
  have p1 : 0 ≤ (a.Num * b.Den - b.Num * a.Den) * (t - m) := Int.mul_nonneg (by omega) (by omega)
  have p2 : 0 ≤ (a.Num * b.Den - b.Num * a.Den) * (n - t) := Int.mul_nonneg (by omega) (by omega)
  have q1 : 0 ≤ a.Den * ((a.Num * b.Den - b.Num * a.Den) * (t - m)) := Int.mul_nonneg (by omega) p1
  have q2 : 0 ≤ b.Den * ((a.Num * b.Den - b.Num * a.Den) * (n - t)) := Int.mul_nonneg (by omega) p2
  constructor
  · have : fcmp (seg a b m n t) a ≤ 0 := by
      refine (fcmp_rd_ge hd).2 ?_
      unfold segN segD
      have : (a.Num * b.Den * (n - m) + (b.Num * a.Den - a.Num * b.Den) * (t - m)) * a.Den - a.Num * (a.Den * b.Den * (n - m)) = -(a.Den * ((a.Num * b.Den - b.Num * a.Den) * (t - m))) := by grind
      omega
    rw [fcmp_anti] at this; omega
  · have : fcmp b (seg a b m n t) ≤ 0 := by
      refine (fcmp_rd_le hd).2 ?_
      unfold segN segD
      have : (a.Num * b.Den * (n - m) + (b.Num * a.Den - a.Num * b.Den) * (t - m)) * b.Den - b.Num * (a.Den * b.Den * (n - m)) = b.Den * ((a.Num * b.Den - b.Num * a.Den) * (n - t)) := by grind
      omega
    rw [fcmp_anti] at this; omega
theorem fcmp_bd (x y : TFrac) : -1 ≤ fcmp x y ∧ fcmp x y ≤ 1 := by unfold fcmp cmpI; split <;> (try split) <;> omega
theorem W_prod (a b c d : TFrac) : W (fcmp a b * fcmp c d) = fcmp a b * fcmp c d := by
  have h1 := fcmp_bd a b
  have h2 := fcmp_bd c d
  have : ∀ p q : Int, -1 ≤ p ∧ p ≤ 1 → -1 ≤ q ∧ q ≤ 1 → -1 ≤ p * q ∧ p * q ≤ 1 := by
    intro p q hp hq
    have : p = -1 ∨ p = 0 ∨ p = 1 := by omega
    rcases this with rfl | rfl | rfl <;> omega
  exact W_id (by have := this _ _ h1 h2; omega)
theorem Horizon_val {l : List TRoof} (hr : VRoofs l) {g : TFrac} (hv : vf g 20000000 = true) (h1 : 0 ≤ g.Num) (h2 : g.Num < 360 * g.Den) : m_moon_Horizon l g = some (hz l g, 0) := by
  have hb := vf_iff.1 hv
  have hw : W (360 * g.Den) = 360 * g.Den := W_id (by omega)
  have n1 : ¬ g.Num < 0 := by omega
  have n2 : ¬ g.Num ≥ 360 * g.Den := by omega
  unfold m_moon_Horizon
  rw [areRoofs_eq l (by have := hr.len; unfold maxLen; omega)]
  simp only [hr, decide_true, Option.bind_some, Bool.not_true, Bool.false_eq_true, if_false]
  rw [isFrac_eq _ (Int.le_refl _)]
  have sg := vf_Sm (Int.le_refl _) hv
  simp [hv, hw, n1, n2, horizon_eq hr sg]
theorem Margin_val {s : TSheet} (hs : VSheet s) {l : List TRoof} (hr : VRoofs l) {t : Int} (ht : 0 ≤ t ∧ t ≤ 1439) : ∃ h g, At s t h g ∧ m_moon_Margin s l t = some (lessF h (hz l g), 0) := by
  obtain ⟨h, g, ha, e1, _⟩ := margin_ex hs hr ht.1 ht.2
  refine ⟨h, g, ha, ?_⟩
  unfold m_moon_Margin
  rw [CheckSheet_eq, areRoofs_eq l (by have := hr.len; unfold maxLen; omega), isMinute_eq]
  simp [hs, hr, ht, e1]
theorem Places_val {s : TSheet} (hs : VSheet s) {t : Int} (ht : 0 ≤ t ∧ t ≤ 1439) : ∃ h g, At s t h g ∧ m_moon_Height s t = some (h, 0) ∧ m_moon_Bearing s t = some (g, 0) := by
  obtain ⟨h, g, ha, e1, e2, _⟩ := at_ex hs ht.1 ht.2
  refine ⟨h, g, ha, ?_, ?_⟩
  · unfold m_moon_Height; rw [asked_eq]; simp [hs, ht, e1]
  · unfold m_moon_Bearing; rw [asked_eq]; simp [hs, ht, e2]
theorem back_eq {h : TFrac} (hv : vf h 20000000 = true) (hr : rd h.Num h.Den = h) {n : Int} (hn : 0 ≤ n ∧ n ≤ 90) : m_moon_Reduced ⟨W ((lessF h n).Num + W (n * (lessF h n).Den)), (lessF h n).Den⟩ = some (h, 0) := by
  obtain ⟨v1, v2, v3, v4⟩ := vf_iff.1 hv
  have hd : 0 < h.Den := by omega
  obtain ⟨g, hg, e1, e2, hp⟩ := rd_spec (n := h.Num - n * h.Den) hd
  have hle : (lessF h n).Den ≤ h.Den := rd_le hd
  have p1 : n * h.Den ≤ 90 * h.Den := Int.mul_le_mul_of_nonneg_right hn.2 (by omega)
  have p2 : 0 ≤ n * h.Den := Int.mul_nonneg hn.1 (by omega)
  have hb : -(450 * (lessF h n).Den) ≤ (lessF h n).Num ∧ (lessF h n).Num ≤ 450 * (lessF h n).Den := rd_bd hd ⟨by omega, by omega⟩
  have f1 : h.Num - n * h.Den = g * (lessF h n).Num := e1
  have f2 : h.Den = g * (lessF h n).Den := e2
  have f3 : 0 < (lessF h n).Den := hp
  generalize lessF h n = m at *
  have q1 : n * m.Den ≤ 90 * m.Den := Int.mul_le_mul_of_nonneg_right hn.2 (by omega)
  have q2 : 0 ≤ n * m.Den := Int.mul_nonneg hn.1 (by omega)
  rw [W_id (z := n * m.Den) (by omega), W_id (z := m.Num + n * m.Den) (by omega), Reduced_eq]
  have key : h.Num = g * (m.Num + n * m.Den) := by rw [f2] at f1; grind
  have hvf : vf ⟨m.Num + n * m.Den, m.Den⟩ 20000000 = true := by
    refine vf_iff.2 ⟨by show 1 ≤ m.Den; omega, by show m.Den ≤ 20000000; omega, ?_, ?_⟩
    · refine Int.le_of_mul_le_mul_left ?_ hg
      show g * -(360 * m.Den) ≤ g * (m.Num + n * m.Den)
      rw [← key]
      have : g * -(360 * m.Den) = -(360 * h.Den) := by rw [f2]; grind
      omega
    · refine Int.le_of_mul_le_mul_left ?_ hg
      show g * (m.Num + n * m.Den) ≤ g * (360 * m.Den)
      rw [← key]
      have : g * (360 * m.Den) = 360 * h.Den := by rw [f2]; grind
      omega
  rw [if_pos hvf]
  have : rd (m.Num + n * m.Den) m.Den = h := by
    rw [← hr]
    refine rd_eq f3 hd ?_
    rw [key, f2]; grind
  show some (rd (m.Num + n * m.Den) m.Den, (0 : Int)) = _
  rw [this]
end Go.Proofs.Ytdhjccionnbljaa
namespace Go.Proofs.Ytdhjccionnbljaa
open Go Go.Sx
open Classical
theorem Same_refl (a : List Int) (h : a.length ≤ maxLen) : m_R02_Same a a = some true := by
  obtain ⟨e, he, i, rfl⟩ := loopF_rule (body := m_R02_Same_L1 a a) (fun i => ∃ k : Nat, i = k ∧ k ≤ a.length) (fun i => a.length - i.toNat) (fun e => ∃ i, e = .inl i) (by
    rintro i ⟨k, rfl, hk⟩
    unfold m_R02_Same_L1
    by_cases h1 : (k : Int) < (a.length : Int)
    · right
      have hkl : k < a.length := by omega
      have hm : k < 9223372036854775807 := by unfold maxLen at h; omega
      refine ⟨((k + 1 : Nat) : Int), ?_, ⟨k + 1, rfl, by omega⟩, by omega⟩
      simp only [h1, decide_true, if_true, idx_nat hkl, Option.bind_some, bne_self_eq_false, Bool.false_eq_true, if_false, W_s hm]; rfl
    · left
      exact ⟨.inl (k : Int), by simp only [h1, decide_false, Bool.false_eq_true, if_false], _, rfl⟩) 0 ⟨0, rfl, by omega⟩ (lt_FUEL (by unfold maxLen at h; omega))
  unfold m_R02_Same
  simp only [bne_self_eq_false, Bool.false_eq_true, if_false, he, Option.bind_some]
theorem clash_eq {k : Tknown} (hk : KOK k) {l : List TSighting} (hl : ∀ y, y ∈ l → y ∈ k.sightings) (hn : l.length ≤ 60) : m_moon_known_clash k l = some (emp (slp k.Sheet k.roofs l)) := by
  have hm : ∀ y, y ∈ l → 0 ≤ y.Minute ∧ y.Minute ≤ 1439 := fun y hy => hk.sg y (hl y hy)
  unfold m_moon_known_clash
  rw [slipOf_eq hk.sh hk.rf hm hn, Option.bind_some, isEmpty_eq (slp_ok hk.sh hk.rf hm)]; rfl
def conf (k : Tknown) : Option (List Int × Int) :=
  Option.bind (loopF (m_moon_Conflict_L1 k) 0) fun e => match e with
    | .inl _ => Option.bind (loopF (m_moon_Conflict_L4 k) 0) fun e => match e with | .inl _ => some ([], 27) | .inr r => some r
    | .inr r => some r
theorem conf_ex {k : Tknown} (hk : KOK k) : ∃ c e, conf k = some (c, e) ∧ c.length ≤ 2 := by
  have hn := hk.n
  obtain ⟨e1, he1, q1⟩ := loopF_rule (body := m_moon_Conflict_L1 k) (fun i => ∃ j : Nat, i = j ∧ j ≤ k.sightings.length) (fun i => k.sightings.length - i.toNat) (fun e => (∃ i, e = .inl i) ∨ ∃ c, e = .inr (c, 0) ∧ c.length ≤ 2) (by
    rintro i ⟨j, rfl, hj⟩
    unfold m_moon_Conflict_L1
    by_cases h1 : (j : Int) < (k.sightings.length : Int)
    · have hkl : j < k.sightings.length := by omega
      simp only [h1, decide_true, if_true, idx_nat hkl, Option.bind_some]
      rw [clash_eq hk (l := [k.sightings[j]]) (fun y hy => by rw [List.mem_singleton.1 hy]; exact List.getElem_mem hkl) (by simp), Option.bind_some]
      split
      · left; exact ⟨_, rfl, .inr ⟨_, rfl, by simp⟩⟩
      · right; exact ⟨_, rfl, ⟨j + 1, by rw [W_s (by omega)]; rfl, by omega⟩, by rw [W_s (by omega)]; omega⟩
    · left; exact ⟨.inl (j : Int), by simp only [h1, decide_false, Bool.false_eq_true, if_false], .inl ⟨_, rfl⟩⟩) 0 ⟨0, rfl, by omega⟩ (lt_FUEL (by omega))
  have inner : ∀ (x : TSighting) (l : List TSighting), x ∈ k.sightings → (∀ y, y ∈ l → y ∈ k.sightings) → l.length ≤ 60 → ∃ e, loopF (m_moon_Conflict_L5 k x l) 0 = some e ∧ ((∃ i, e = .inl i) ∨ ∃ c, e = .inr (c, 0) ∧ c.length ≤ 2) := by
    intro x l hx hl hln
    refine loopF_rule (fun i : Int => ∃ j : Nat, i = j ∧ j ≤ l.length) (fun i => l.length - i.toNat) _ ?_ 0 ⟨0, rfl, by omega⟩ (lt_FUEL (by omega))
    rintro i ⟨j, rfl, hj⟩
    unfold m_moon_Conflict_L5
    by_cases h1 : (j : Int) < (l.length : Int)
    · have hkl : j < l.length := by omega
      simp only [h1, decide_true, if_true, idx_nat hkl, Option.bind_some]
      rw [clash_eq hk (l := [x, l[j]]) (fun y hy => by
        simp only [List.mem_cons, List.not_mem_nil, or_false] at hy
        rcases hy with rfl | rfl
        · exact hx
        · exact hl _ (List.getElem_mem hkl)) (by simp), Option.bind_some]
      split
      · left; exact ⟨_, rfl, .inr ⟨_, rfl, by simp⟩⟩
      · right; exact ⟨_, rfl, ⟨j + 1, by rw [W_s (by omega)]; rfl, by omega⟩, by rw [W_s (by omega)]; omega⟩
    · left; exact ⟨.inl (j : Int), by simp only [h1, decide_false, Bool.false_eq_true, if_false], .inl ⟨_, rfl⟩⟩
  obtain ⟨e2, he2, q2⟩ := loopF_rule (body := m_moon_Conflict_L4 k) (fun i => ∃ j : Nat, i = j ∧ j ≤ k.sightings.length) (fun i => k.sightings.length - i.toNat) (fun e => (∃ i, e = .inl i) ∨ ∃ c, e = .inr (c, 0) ∧ c.length ≤ 2) (by
    rintro i ⟨j, rfl, hj⟩
    unfold m_moon_Conflict_L4
    by_cases h1 : (j : Int) < (k.sightings.length : Int)
    · have hkl : j < k.sightings.length := by omega
      have hw : W ((j : Int) + 1) = (j : Int) + 1 := W_s (by omega)
      have hg : 0 ≤ (j : Int) + 1 ∧ (j : Int) + 1 ≤ (k.sightings.length : Int) := by omega
      simp only [h1, decide_true, if_true, idx_nat hkl, Option.bind_some, hw, gd, hg, and_self]
      have hsub : ∀ y, y ∈ sub k.sightings ((j : Int) + 1).toNat k.sightings.length → y ∈ k.sightings := fun y hy => by
        unfold sub at hy
        exact List.mem_of_mem_drop (List.mem_of_mem_take hy)
      have hsl : (sub k.sightings ((j : Int) + 1).toNat k.sightings.length).length ≤ 60 := by
        unfold sub; simp only [List.length_take, List.length_drop]; omega
      obtain ⟨e, he, q⟩ := inner k.sightings[j] _ (List.getElem_mem hkl) hsub hsl
      rw [he, Option.bind_some]
      rcases q with ⟨i, rfl⟩ | ⟨c, rfl, hc⟩
      · right; exact ⟨_, rfl, ⟨j + 1, rfl, by omega⟩, by omega⟩
      · left; exact ⟨_, rfl, .inr ⟨c, rfl, hc⟩⟩
    · left; exact ⟨.inl (j : Int), by simp only [h1, decide_false, Bool.false_eq_true, if_false], .inl ⟨_, rfl⟩⟩) 0 ⟨0, rfl, by omega⟩ (lt_FUEL (by omega))
  unfold conf
  rw [he1, Option.bind_some]
  rcases q1 with ⟨i, rfl⟩ | ⟨c, rfl, hc⟩
  · simp only [he2, Option.bind_some]
    rcases q2 with ⟨i, rfl⟩ | ⟨c, rfl, hc⟩
    · exact ⟨_, _, rfl, by simp⟩
    · exact ⟨_, _, rfl, hc⟩
  · exact ⟨_, _, rfl, hc⟩
theorem Conflict_eq (s : TSky) (hr : s.Roofs.length ≤ maxLen) (n a : Int) : m_moon_Conflict s n a = match lookP s n a [] with | (none, e) => some ([], e) | (some k, _) => conf k := by
  unfold m_moon_Conflict
  rw [look_eq s hr n a [] (by simp)]
  cases hk : lookP s n a [] with
  | mk o e =>
    cases o with
    | none =>
      have h := lookP_none hk
      simp only [bne_iff_ne, ne_eq] at h
      simp [optM, h]
    | some k =>
      obtain ⟨rfl, _⟩ := lookP_ok hk
      simp only [Option.bind_some, optM, bne_self_eq_false, Bool.false_eq_true, if_false]
      rfl
theorem Conflict_ex (s : TSky) (hr : s.Roofs.length ≤ maxLen) (n a : Int) : ∃ c e, m_moon_Conflict s n a = some (c, e) ∧ c.length ≤ 2 := by
  rw [Conflict_eq s hr]
  cases hk : lookP s n a [] with
  | mk o e =>
    cases o with
    | none => exact ⟨[], e, rfl, by simp⟩
    | some k => exact conf_ex (lookP_ok hk).2.1
theorem sheets_pair {l : List TSheet} : (∀ k, k < l.length → okSheet l k) ↔ (∀ x, x ∈ l → VSheet x) ∧ l.Pairwise (fun a b => a.Source < b.Source) := by
  constructor
  · intro h
    have at_ : ∀ k (hk : k < l.length), VSheet l[k] ∧ ∀ h0 : 0 < k, l[k - 1].Source < l[k].Source := by
      intro k hk
      obtain ⟨x, hx, v, hp⟩ := h k hk
      rw [List.getElem?_eq_getElem hk] at hx
      rw [Option.some.inj hx]
      exact ⟨v, fun h0 => hp _ h0 (List.getElem?_eq_getElem (by omega))⟩
    refine ⟨fun x hx => ?_, List.pairwise_iff_getElem.2 ?_⟩
    · obtain ⟨k, hk, rfl⟩ := List.getElem_of_mem hx
      exact (at_ k hk).1
    · intro i j hi hj hij
      induction j with
      | zero => omega
      | succ j ih =>
        have h1 := (at_ (j + 1) hj).2 (by omega)
        have h1 : l[j].Source < l[j + 1].Source := h1
        rcases Nat.lt_or_ge i j with hc | hc
        · exact Int.lt_trans (ih (by omega) hc) h1
        · obtain rfl : i = j := by omega
          exact h1
  · rintro ⟨hv, hp⟩ k hk
    refine ⟨l[k], List.getElem?_eq_getElem hk, hv _ (List.getElem_mem hk), fun p h0 hp' => ?_⟩
    rw [List.getElem?_eq_getElem (by omega)] at hp'
    rw [← Option.some.inj hp']
    exact List.pairwise_iff_getElem.1 hp _ _ _ _ (by omega)
theorem sights_pair {l : List TSighting} : (∀ k, k < l.length → okSight l k) ↔ (∀ x, x ∈ l → VSight x) ∧ l.Pairwise (fun a b => a.Source < b.Source) := by
  constructor
  · intro h
    have at_ : ∀ k (hk : k < l.length), VSight l[k] ∧ ∀ h0 : 0 < k, l[k - 1].Source < l[k].Source := by
      intro k hk
      obtain ⟨x, hx, v, hp⟩ := h k hk
      rw [List.getElem?_eq_getElem hk] at hx
      rw [Option.some.inj hx]
      exact ⟨v, fun h0 => hp _ h0 (List.getElem?_eq_getElem (by omega))⟩
    refine ⟨fun x hx => ?_, List.pairwise_iff_getElem.2 ?_⟩
    · obtain ⟨k, hk, rfl⟩ := List.getElem_of_mem hx
      exact (at_ k hk).1
    · intro i j hi hj hij
      induction j with
      | zero => omega
      | succ j ih =>
        have h1 := (at_ (j + 1) hj).2 (by omega)
        have h1 : l[j].Source < l[j + 1].Source := h1
        rcases Nat.lt_or_ge i j with hc | hc
        · exact Int.lt_trans (ih (by omega) hc) h1
        · obtain rfl : i = j := by omega
          exact h1
  · rintro ⟨hv, hp⟩ k hk
    refine ⟨l[k], List.getElem?_eq_getElem hk, hv _ (List.getElem_mem hk), fun p h0 hp' => ?_⟩
    rw [List.getElem?_eq_getElem (by omega)] at hp'
    rw [← Option.some.inj hp']
    exact List.pairwise_iff_getElem.1 hp _ _ _ _ (by omega)
theorem VSky.part {s : TSky} (h : VSky s) (p : TSheet → Bool) (q : TSighting → Bool) : VSky ⟨s.Sheets.filter p, s.Roofs, s.Sightings.filter q⟩ := by
  obtain ⟨n1, n2, hr, h1, h2⟩ := h
  rw [sheets_pair] at h1
  rw [sights_pair] at h2
  refine ⟨Nat.le_trans (List.length_filter_le _ _) n1, Nat.le_trans (List.length_filter_le _ _) n2, hr, sheets_pair.2 ⟨fun x hx => h1.1 x (List.mem_filter.1 hx).1, h1.2.filter _⟩, sights_pair.2 ⟨fun x hx => h2.1 x (List.mem_filter.1 hx).1, h2.2.filter _⟩⟩
theorem foldl_skip {α β : Type} {f : β → α → β} {p : α → Bool} (h : ∀ b x, p x = false → f b x = b) : ∀ (l : List α) (b : β), (l.filter p).foldl f b = l.foldl f b
  | [], b => rfl
  | x :: l, b => by
    by_cases hx : p x = true
    · rw [List.filter_cons_of_pos hx]; exact foldl_skip h l _
    · rw [List.filter_cons_of_neg hx, List.foldl_cons, h b x (by simpa using hx)]; exact foldl_skip h l _
def fewS (n a : Int) (x : TSheet) : Bool := decide (x.Night = n ∧ x.Known ≤ a)
def fewG (n a : Int) (x : TSighting) : Bool := decide (x.Night = n ∧ x.Known ≤ a)
theorem inF_few (l : List TSheet) (n a : Int) : inF (l.filter (fewS n a)) n a = inF l n a := by
  refine foldl_skip (fun b x hx => ?_) l none
  unfold inFs
  rw [if_neg]
  rintro ⟨h1, h2⟩
  unfold fewS at hx
  unfold cnt at h2
  simp at hx h2
  have := hx h1; omega
theorem sg_few (l : List TSighting) (n a : Int) : sg (l.filter (fewG n a)) n a = sg l n a := by
  unfold sg
  rw [List.filter_filter]
  refine List.filter_congr fun x _ => ?_
  unfold sgf fewG cnt
  by_cases h1 : x.Night = n
  · by_cases h2 : x.Known ≤ a <;> simp [h1, h2]
  · simp [h1]
theorem lookP_few {s : TSky} (h : VSky s) (n a : Int) (mins : List Int) : lookP ⟨s.Sheets.filter (fewS n a), s.Roofs, s.Sightings.filter (fewG n a)⟩ n a mins = lookP s n a mins := by
  unfold lookP
  have h2 := h.part (fewS n a) (fewG n a)
  simp only [h, h2, inF_few, sg_few]
theorem clearP_few {s : TSky} (h : VSky s) (n a : Int) (mins : List Int) : clearP ⟨s.Sheets.filter (fewS n a), s.Roofs, s.Sightings.filter (fewG n a)⟩ n a mins = clearP s n a mins := by
  unfold clearP; rw [lookP_few h]
end Go.Proofs.Ytdhjccionnbljaa
namespace Go.Proofs.Ytdhjccionnbljaa
open Go Go.Sx
open Classical
noncomputable def ansL (k : Tknown) : Nat → Int → List (Int × Int)
  | 0, _ => []
  | n + 1, f => (f, abP k f) :: ansL k n (f + 1)
theorem answers_eq {k : Tknown} (hk : KOK k) {f t : Int} (h0 : 0 ≤ f) (h1 : f ≤ t) (h2 : t ≤ 1439) : it_moon_known_answers_1__moon_known_above t f k = some (ansL k (t - f + 1).toNat f, ()) := by
  have key : ∀ (m j : Nat) (fuel : Nat), (j : Int) + m = t - f + 1 → m < fuel → loopIO (it_moon_known_answers_1__moon_known_above_L1 t f k) fuel (j : Int) = some (ansL k m (f + j), t - f + 1) := by
    intro m
    induction m with
    | zero =>
      intro j fuel hj hf
      obtain ⟨n, rfl⟩ : ∃ n, fuel = n + 1 := ⟨fuel - 1, by omega⟩
      have hw : W (W (t - f) + 1) = t - f + 1 := by rw [W_id (z := t - f) (by omega), W_id (by omega)]
      have hlt : ¬ (j : Int) < t - f + 1 := by omega
      have hj' : (j : Int) = t - f + 1 := by omega
      have hb : it_moon_known_answers_1__moon_known_above_L1 t f k (j : Int) = some ([], .inr (j : Int)) := by
        unfold it_moon_known_answers_1__moon_known_above_L1
        simp only [hw, hlt, decide_false, Bool.false_eq_true, if_false]
      unfold loopIO
      rw [hb]
      simp [ansL, hj']
    | succ m ih =>
      intro j fuel hj hf
      obtain ⟨n, rfl⟩ : ∃ n, fuel = n + 1 := ⟨fuel - 1, by omega⟩
      have hw : W (W (t - f) + 1) = t - f + 1 := by rw [W_id (z := t - f) (by omega), W_id (by omega)]
      have hlt : (j : Int) < t - f + 1 := by omega
      have w1 : W (f + (j : Int)) = f + j := W_id (by omega)
      have w2 : W ((j : Int) + 1) = ((j + 1 : Nat) : Int) := by rw [W_s (by omega)]; rfl
      have hb : it_moon_known_answers_1__moon_known_above_L1 t f k (j : Int) = some ([(f + (j : Int), abP k (f + j))], .inl ((j + 1 : Nat) : Int)) := by
        unfold it_moon_known_answers_1__moon_known_above_L1
        simp only [hw, hlt, decide_true, if_true, w1, above_eq hk (t := f + (j : Int)) (by omega), Option.bind_some, emit, w2]
      have e := ih (j + 1) n (by push_cast; omega) (by omega)
      unfold loopIO
      rw [hb]
      simp only [e]
      have : f + ((j + 1 : Nat) : Int) = f + j + 1 := by push_cast; omega
      rw [this]; rfl
  unfold it_moon_known_answers_1__moon_known_above loopIF
  have e := key (t - f + 1).toNat 0 FUEL (by omega) (by unfold FUEL; omega)
  have e' : loopIO (it_moon_known_answers_1__moon_known_above_L1 t f k) FUEL 0 = some (ansL k (t - f + 1).toNat (f + (0 : Nat)), t - f + 1) := e
  rw [e']
  simp [bindI]
noncomputable def rsL (k : Tknown) : Nat → Int → Int → Int × Int
  | 0, _, lo => (lo, 1440)
  | n + 1, f, lo =>
    if abP k f = 1 then ((if f < lo then f else lo), f)
    else if abP k f = 0 then rsL k n (f + 1) lo else rsL k n (f + 1) (if f < lo then f else lo)
theorem rises_range (k : Tknown) : ∀ (n : Nat) (f lo : Int), ∃ e, rangeF m_moon_Rises_L1 (ansL k n f) (lo, 1440) = some e ∧ (e = .inl (rsL k n f lo) ∨ e = .inr (rsL k n f lo))
  | 0, f, lo => ⟨_, rfl, .inl rfl⟩
  | n + 1, f, lo => by
    unfold ansL rangeF rsL
    by_cases h1 : abP k f = 1
    · exact ⟨.inr ((if f < lo then f else lo), f), by simp [m_moon_Rises_L1, h1], .inr (by simp [h1])⟩
    · by_cases h0 : abP k f = 0
      · obtain ⟨e, he, hq⟩ := rises_range k n (f + 1) lo
        have hb : m_moon_Rises_L1 (lo, 1440) (f, abP k f) = some (.inl (lo, 1440)) := by simp [m_moon_Rises_L1, h0]
        rw [hb]
        exact ⟨e, he, by simpa [h0] using hq⟩
      · obtain ⟨e, he, hq⟩ := rises_range k n (f + 1) (if f < lo then f else lo)
        have hb : m_moon_Rises_L1 (lo, 1440) (f, abP k f) = some (.inl ((if f < lo then f else lo), 1440)) := by simp [m_moon_Rises_L1, h0, h1]
        rw [hb]
        exact ⟨e, he, by simpa [h0, h1] using hq⟩
theorem mins2 {f t : Int} (h0 : 0 ≤ f) (h1 : f ≤ t) (h2 : t ≤ 1439) : minsOK [f, t] := by
  intro k hk
  match k, hk with
  | 0, _ => exact ⟨by show 0 ≤ f ∧ f ≤ 1439; omega, fun h => by omega⟩
  | 1, _ => exact ⟨by show 0 ≤ t ∧ t ≤ 1439; omega, fun _ => h1⟩
theorem Rises_eq (s : TSky) (hr : s.Roofs.length ≤ maxLen) (n a : Int) {f t : Int} (h0 : 0 ≤ f) (h1 : f ≤ t) (h2 : t ≤ 1439) : m_moon_Rises s n a f t = some (match clearP s n a [f, t] with | (none, e) => (⟨0, 0⟩, e) | (some k, _) => (⟨(rsL k (t - f + 1).toNat f 1440).1, (rsL k (t - f + 1).toNat f 1440).2⟩, 0)) := by
  unfold m_moon_Rises
  rw [clearly_eq s hr n a [f, t] (by simp)]
  cases hk : clearP s n a [f, t] with
  | mk o e =>
    cases o with
    | none =>
      have h := clearP_none hk
      simp only [bne_iff_ne, ne_eq] at h
      simp [optM, h]
    | some k =>
      obtain ⟨rfl, hl, _⟩ := clearP_ok hk
      obtain ⟨_, hok, _⟩ := lookP_ok hl
      obtain ⟨e, he, hq⟩ := rises_range k (t - f + 1).toNat f 1440
      simp only [Option.bind_some, optM, bne_self_eq_false, Bool.false_eq_true, if_false, m_moon_known_answers, answers_eq hok h0 h1 h2, he]
      rcases hq with rfl | rfl <;> rfl
theorem rsL_ge (k : Tknown) : ∀ (n : Nat) (f lo b : Int), f + n ≤ 1440 → b ≤ lo → b ≤ f → b ≤ (rsL k n f lo).1 ∧ f ≤ (rsL k n f lo).2
  | 0, f, lo, b, h, h1, h2 => ⟨h1, by show f ≤ 1440; omega⟩
  | n + 1, f, lo, b, h, h1, h2 => by
    unfold rsL
    split
    · refine ⟨?_, Int.le_refl _⟩
      show b ≤ if f < lo then f else lo
      split <;> omega
    · split
      · have := rsL_ge k n (f + 1) lo b (by push_cast at h; omega) h1 (by omega)
        omega
      · have := rsL_ge k n (f + 1) (if f < lo then f else lo) b (by push_cast at h; omega) (by split <;> omega) (by omega)
        omega
theorem abP_3 (k : Tknown) (t : Int) : abP k t = 0 ∨ abP k t = 1 ∨ abP k t = 2 := by
  unfold abP; split
  · exact .inr (.inl rfl)
  · split
    · exact .inl rfl
    · exact .inr (.inr rfl)
theorem rsL_low {k k' : Tknown} : ∀ (n : Nat) (f lo lo' : Int), (∀ t, f ≤ t → t < f + n → (abP k t = 1 → abP k' t = 1) ∧ (abP k t = 2 → abP k' t ≠ 0)) → f + n ≤ 1440 → lo' ≤ lo → (rsL k' n f lo').1 ≤ (rsL k n f lo).1 ∧ (rsL k' n f lo').2 ≤ (rsL k n f lo).2
  | 0, f, lo, lo', _, _, h => ⟨h, Int.le_refl _⟩
  | n + 1, f, lo, lo', hr, hb, h => by
    have hr' : ∀ t, f + 1 ≤ t → t < f + 1 + n → (abP k t = 1 → abP k' t = 1) ∧ (abP k t = 2 → abP k' t ≠ 0) := fun t h1 h2 => hr t (by omega) (by push_cast; omega)
    obtain ⟨r1, r2⟩ := hr f (Int.le_refl _) (by push_cast; omega)
    have hb' : f + 1 + (n : Int) ≤ 1440 := by push_cast at hb; omega
    have hmin : (if f < lo' then f else lo') ≤ (if f < lo then f else lo) := by split <;> split <;> omega
    have hmin2 : (if f < lo' then f else lo') ≤ lo := by split <;> omega
    have hmin3 : (if f < lo' then f else lo') ≤ f := by split <;> omega
    have z1 : ¬ (0 : Int) = 1 := by omega
    have z2 : ¬ (2 : Int) = 1 := by omega
    have z3 : ¬ (2 : Int) = 0 := by omega
    unfold rsL
    rcases abP_3 k f with a0 | a1 | a2
    · rcases abP_3 k' f with b0 | b1 | b2
      · simp only [a0, b0, z1, if_false, if_true]
        exact rsL_low n (f + 1) lo lo' hr' hb' h
      · simp only [a0, b1, z1, if_false, if_true]
        have := rsL_ge k n (f + 1) lo _ hb' hmin2 (Int.le_trans hmin3 (by omega))
        exact ⟨this.1, by show f ≤ _; omega⟩
      · simp only [a0, b2, z1, z2, z3, if_false, if_true]
        exact rsL_low n (f + 1) lo _ hr' hb' hmin2
    · simp only [a1, r1 a1, if_true]
      exact ⟨hmin, Int.le_refl _⟩
    · rcases abP_3 k' f with b0 | b1 | b2
      · exact absurd b0 (r2 a2)
      · simp only [a2, b1, z2, z3, if_false, if_true]
        have := rsL_ge k n (f + 1) (if f < lo then f else lo) _ hb' hmin (Int.le_trans hmin3 (by omega))
        exact ⟨this.1, by show f ≤ _; omega⟩
      · simp only [a2, b2, z2, z3, if_false]
        exact rsL_low n (f + 1) _ _ hr' hb' hmin
def low (r r' : TRoof) : Prop := r'.From = r.From ∧ r'.To = r.To ∧ r'.Top ≤ r.Top
theorem hz_low (g : TFrac) : ∀ (l l' : List TRoof) (t t' : Int), l'.length = l.length → (∀ j (h : j < l.length) (h' : j < l'.length), low l[j] l'[j]) → t' ≤ t → l'.foldl (hzf g) t' ≤ l.foldl (hzf g) t
  | [], [], t, t', _, _, h => h
  | [], _ :: _, _, _, hn, _, _ => by simp at hn
  | _ :: _, [], _, _, hn, _, _ => by simp at hn
  | r :: l, r' :: l', t, t', hn, hl, h => by
    obtain ⟨e1, e2, e3⟩ := hl 0 (by simp) (by simp)
    simp only [List.getElem_cons_zero] at e1 e2 e3
    refine hz_low g l l' _ _ (by simpa using hn) (fun j h h' => hl (j + 1) (by simpa using h) (by simpa using h')) ?_
    unfold hzf
    rw [e1, e2]
    split
    · split <;> split <;> omega
    · exact h
theorem eg_low {x : TSheet} (hx : VSheet x) {R R' : List TRoof} (hR : VRoofs R) (hR' : VRoofs R') (hn : R'.length = R.length) (hl : ∀ j (h : j < R.length) (h' : j < R'.length), low R[j] R'[j]) {t : Int} (ht : 0 ≤ t ∧ t ≤ 1439) : fcmp (eg x R' t) (eg x R t) ≤ 0 := by
  obtain ⟨_, _, _, h, g, ha, e1⟩ := mg_eq hx hR ht
  obtain ⟨_, _, _, h', g', ha', e2⟩ := mg_eq hx hR' ht
  obtain ⟨k, hk, a1, a2, q1, q2⟩ := ha.ex
  obtain ⟨q3, q4⟩ := ha'.row hx hk a1 a2
  have hh : h' = h := by rw [q1, q3]
  have hg : g' = g := by rw [q2, q4]
  subst hh hg
  have hz' : hz R' g' ≤ hz R g' := hz_low g' R R' 0 0 hn hl (Int.le_refl _)
  have vh := (vf_iff.1 (ha.vh hx)).1
  unfold eg
  rw [e1, e2]
  have key : ∀ n, neg (lessF h' n) = rd (n * h'.Den - h'.Num) h'.Den := by
    intro n
    unfold neg lessF
    rw [← rd_neg]
    congr 1; omega
  rw [key, key]
  have hd : 0 < h'.Den := by omega
  refine (fcmp_rd_ge hd).2 ?_
  obtain ⟨G, hG, f1, f2, hp⟩ := rd_spec (n := hz R g' * h'.Den - h'.Num) hd
  generalize rd (hz R g' * h'.Den - h'.Num) h'.Den = y at *
  have m1 : hz R' g' * h'.Den ≤ hz R g' * h'.Den := Int.mul_le_mul_of_nonneg_right hz' (by omega)
  have m2 : (hz R' g' * h'.Den - h'.Num) * y.Den ≤ (G * y.Num) * y.Den := by
    rw [← f1]; exact Int.mul_le_mul_of_nonneg_right (by omega) (by omega)
  have m3 : G * y.Num * y.Den = y.Num * h'.Den := by rw [f2]; grind
  omega
end Go.Proofs.Ytdhjccionnbljaa
namespace Go.Proofs.Ytdhjccionnbljaa
open Go Go.Sx
set_option maxRecDepth 1000000 in
theorem pl_sane : m_L02_sane = some true := by decide +kernel
end Go.Proofs.Ytdhjccionnbljaa
namespace Go.Proofs.Ytdhjccionnbljaa
open Go Go.Sx
open Classical
theorem reach_len {n c : Nat} (hc : 1 ≤ c) (h : n * c ≤ reachBytes) : n ≤ 4611686018427387904 := by
  have : n * 1 ≤ n * c := Nat.mul_le_mul_left n hc
  unfold reachBytes at h; omega
theorem emp0 {x : TSheet} (hx : VSheet x) : emp (slip0 x) = false := by
  unfold emp slip0
  have h1 := (off_edge hx).den
  have h0 : 0 ≤ (off x).Num := rd_nonneg hx.off0
  have : fcmp (neg (off x)) (off x) ≤ 0 := by
    refine fcmp_le.2 ?_
    show -(off x).Num * (off x).Den ≤ (off x).Num * (off x).Den
    exact Int.mul_le_mul_of_nonneg_right (by omega) (by omega)
  have h3 : ¬ fcmp (neg (off x)) (off x) > 0 := by omega
  simp [h3]
theorem bare {S : List TSheet} {R : List TRoof} (h : VSky ⟨S, R, []⟩) {n a : Int} (hn : 0 ≤ n ∧ n ≤ 100000) (ha : 0 ≤ a ∧ a ≤ 100000) {mins : List Int} (hm : minsOK mins) : clearP ⟨S, R, []⟩ n a mins = match inF S n a with | none => (none, 25) | some x => (some ⟨x, R, [], slip0 x⟩, 0) := by
  unfold clearP lookP
  simp only [h, hn, ha, hm, and_self, not_true_eq_false, if_false]
  cases hx : inF S n a with
  | none => rfl
  | some x =>
    have vx : VSheet x := h.sheet (inF_mem hx).1
    have e1 : slp x R [] = slip0 x := rfl
    have e2 : sg ([] : List TSighting) n a = [] := rfl
    simp only [e2, e1, emp0 vx, Bool.false_eq_true, if_false]
theorem cmp_A {lo p q : TFrac} (d4 : 0 < lo.Den) (d2 : 0 < q.Den) (d1 : 0 < p.Den) (hle : q.Num * p.Den ≤ p.Num * q.Den) (h : fcmp lo p > 0) : fcmp lo q > 0 := by
  have h : fcmp p lo < 0 := by rw [fcmp_anti]; omega
  have : fcmp q lo < 0 := by
    rw [fcmp_lt] at h ⊢
    refine Int.not_le.1 fun hc => ?_
    have := frac_trans d4 d2 d1 hc hle
    omega
  rw [fcmp_anti] at this; omega
theorem cmp_B {hi p q : TFrac} (d3 : 0 < hi.Den) (d2 : 0 < q.Den) (d1 : 0 < p.Den) (hle : q.Num * p.Den ≤ p.Num * q.Den) (h : ¬ fcmp hi p ≤ 0) : ¬ fcmp hi q ≤ 0 := fun hc => h (fcmp_le.2 (frac_trans d3 d2 d1 (fcmp_le.1 hc) hle))
theorem abP_one {k : Tknown} {t : Int} (h : fcmp k.slip.Lo (eg k.Sheet k.roofs t) > 0 ∨ (fcmp k.slip.Lo (eg k.Sheet k.roofs t) = 0 ∧ k.slip.Open = true)) : abP k t = 1 := by
  unfold abP; rw [if_pos h]
theorem abP_zero {k : Tknown} {t : Int} (h : ¬ (fcmp k.slip.Lo (eg k.Sheet k.roofs t) > 0 ∨ (fcmp k.slip.Lo (eg k.Sheet k.roofs t) = 0 ∧ k.slip.Open = true))) (h2 : fcmp k.slip.Hi (eg k.Sheet k.roofs t) ≤ 0) : abP k t = 0 := by
  unfold abP; rw [if_neg h, if_pos h2]
theorem abP_two {k : Tknown} {t : Int} (h : ¬ (fcmp k.slip.Lo (eg k.Sheet k.roofs t) > 0 ∨ (fcmp k.slip.Lo (eg k.Sheet k.roofs t) = 0 ∧ k.slip.Open = true))) (h2 : ¬ fcmp k.slip.Hi (eg k.Sheet k.roofs t) ≤ 0) : abP k t = 2 := by
  unfold abP; rw [if_neg h, if_neg h2]
theorem abP_low {x : TSheet} (hx : VSheet x) {R R' : List TRoof} (hR : VRoofs R) (hR' : VRoofs R') (hn : R'.length = R.length) (hl : ∀ j (h : j < R.length) (h' : j < R'.length), low R[j] R'[j]) {t : Int} (ht : 0 ≤ t ∧ t ≤ 1439) : (abP ⟨x, R, [], slip0 x⟩ t = 1 → abP ⟨x, R', [], slip0 x⟩ t = 1) ∧ (abP ⟨x, R, [], slip0 x⟩ t = 2 → abP ⟨x, R', [], slip0 x⟩ t ≠ 0) := by
  have hle := fcmp_le.1 (eg_low hx hR hR' hn hl ht)
  have d1 := (mg_eq hx hR ht).2.2.1.neg.den
  have d2 := (mg_eq hx hR' ht).2.2.1.neg.den
  have d3 := (off_edge hx).den
  have d4 : 0 < (neg (off x)).Den := d3
  have e : ∀ R, eg x R t = neg (mg x R t) := fun _ => rfl
  rw [← e] at d1 d2
  have A := fun h => cmp_A d4 d2 d1 hle h
  have B := fun h => cmp_B d3 d2 d1 hle h
  by_cases c1 : fcmp (neg (off x)) (eg x R t) > 0
  · have e1 : abP ⟨x, R, [], slip0 x⟩ t = 1 := abP_one (.inl c1)
    have e2 : abP ⟨x, R', [], slip0 x⟩ t = 1 := abP_one (.inl (A c1))
    rw [e1, e2]; decide
  · have n1 : ¬ (fcmp (neg (off x)) (eg x R t) > 0 ∨ (fcmp (neg (off x)) (eg x R t) = 0 ∧ false = true)) := fun h => h.elim c1 (fun h => by simp at h)
    by_cases c2 : fcmp (off x) (eg x R t) ≤ 0
    · have e1 : abP ⟨x, R, [], slip0 x⟩ t = 0 := abP_zero n1 c2
      rw [e1]; exact ⟨fun h => by simp at h, fun h => by simp at h⟩
    · have e1 : abP ⟨x, R, [], slip0 x⟩ t = 2 := abP_two n1 c2
      rw [e1]
      refine ⟨fun h => by simp at h, fun _ => ?_⟩
      by_cases c3 : fcmp (neg (off x)) (eg x R' t) > 0
      · have e2 : abP ⟨x, R', [], slip0 x⟩ t = 1 := abP_one (.inl c3)
        rw [e2]; decide
      · have n3 : ¬ (fcmp (neg (off x)) (eg x R' t) > 0 ∨ (fcmp (neg (off x)) (eg x R' t) = 0 ∧ false = true)) := fun h => h.elim c3 (fun h => by simp at h)
        have e2 : abP ⟨x, R', [], slip0 x⟩ t = 2 := abP_two n3 (B c2)
        rw [e2]; decide
theorem lowers (by_ : List Int) (hb : by_.length ≤ maxLen) (s : TSky) (hs : VRoofs s.Roofs) : ∃ i w R', loopF (m_L02_MoonLower_L1 by_ s) (0, [], []) = some (i, w, R') ∧ VRoofs R' ∧ R'.length = s.Roofs.length ∧ ∀ j (h : j < s.Roofs.length) (h' : j < R'.length), low s.Roofs[j] R'[j] := by
  have hn := hs.len
  obtain ⟨e, he, i, w, R', rfl, hR, hl, hw⟩ := loopF_rule (body := m_L02_MoonLower_L1 by_ s) (fun st => ∃ (k : Nat) (w R' : List TRoof), k ≤ s.Roofs.length ∧ st = ((k : Int), w, R') ∧ (∀ r, r ∈ R' → VRoof r) ∧ R'.length = k ∧ ∀ j (h : j < s.Roofs.length) (h' : j < R'.length), low s.Roofs[j] R'[j]) (fun st => s.Roofs.length - st.1.toNat) (fun e => ∃ i w R', e = (i, w, R') ∧ (∀ r, r ∈ R' → VRoof r) ∧ R'.length = s.Roofs.length ∧ ∀ j (h : j < s.Roofs.length) (h' : j < R'.length), low s.Roofs[j] R'[j]) (by
    rintro st ⟨k, w, R', hk, rfl, hR, hl, hw⟩
    unfold m_L02_MoonLower_L1
    by_cases h1 : (k : Int) < (s.Roofs.length : Int)
    rotate_left
    · left
      exact ⟨(((k : Nat) : Int), w, R'), by simp only [h1, decide_false, Bool.false_eq_true, if_false], (k : Int), w, R', rfl, hR, by omega, hw⟩
    right
    have hkl : k < s.Roofs.length := by omega
    have w7 : W ((k : Int) + 1) = ((k + 1 : Nat) : Int) := by rw [W_s (by omega)]; rfl
    have hlen : R'.length ≤ 100 := by omega
    have vr := hs.all _ (List.getElem_mem hkl)
    have go : ∀ r : TRoof, VRoof r → low s.Roofs[k] r → ∃ s', some (Sum.inl (((k + 1 : Nat) : Int), w, R' ++ [r]) : Sum (Int × List TRoof × List TRoof) (Int × List TRoof × List TRoof)) = some (.inl s') ∧ (∃ (k : Nat) (w R' : List TRoof), k ≤ s.Roofs.length ∧ s' = ((k : Int), w, R') ∧ (∀ r, r ∈ R' → VRoof r) ∧ R'.length = k ∧ ∀ j (h : j < s.Roofs.length) (h' : j < R'.length), low s.Roofs[j] R'[j]) ∧ s.Roofs.length - s'.1.toNat < s.Roofs.length - ((k : Int)).toNat := by
      intro r hr hlow
      refine ⟨_, rfl, ⟨k + 1, w, _, by omega, rfl, fun y hy => ?_, by simp [hl], fun j h h' => ?_⟩, by simp only; omega⟩
      · rcases List.mem_append.1 hy with h' | h'
        · exact hR y h'
        · rw [List.mem_singleton.1 h']; exact hr
      · by_cases hj : j < R'.length
        · rw [List.getElem_append_left hj]; exact hw j h hj
        · simp only [List.length_append, List.length_singleton] at h'
          obtain rfl : j = k := by omega
          rw [List.getElem_append_right (by omega)]
          simpa using hlow
    by_cases h2 : (by_.length : Int) > 0
    · have hne : (by_.length : Int) ≠ 0 := by omega
      have hm : (k : Int).tmod (by_.length : Int) = ((k % by_.length : Nat) : Int) := by
        rw [Int.tmod_eq_emod_of_nonneg (by omega)]; rfl
      have hlt : k % by_.length < by_.length := Nat.mod_lt _ (by omega)
      obtain ⟨m, em, fm, gm⟩ := Mod_ex (by_[k % by_.length]) (m := 9) (by omega) (by omega)
      have := vr.d
      have := vr.e
      have wt : W (s.Roofs[k].Top - m) = s.Roofs[k].Top - m := W_id (by omega)
      simp only [h1, h2, decide_true, if_true, idx_nat hkl, Option.bind_some, hm, idx_nat hlt, em, wt, w7, gd_len (c := 24) (by omega) hlen]
      unfold gd
      rw [if_pos hne]
      refine go _ ⟨vr.a, vr.b, vr.c, ?_, ?_⟩ ⟨rfl, rfl, ?_⟩
      · show 0 ≤ if s.Roofs[k].Top - m > 0 then s.Roofs[k].Top - m else 0
        split <;> omega
      · show (if s.Roofs[k].Top - m > 0 then s.Roofs[k].Top - m else 0) ≤ 90
        split <;> omega
      · show (if s.Roofs[k].Top - m > 0 then s.Roofs[k].Top - m else 0) ≤ s.Roofs[k].Top
        split <;> omega
    · simp only [h1, h2, decide_true, decide_false, Bool.false_eq_true, if_false, if_true, idx_nat hkl, Option.bind_some, w7, gd_len (c := 24) (by omega) hlen]
      exact go _ vr ⟨rfl, rfl, Int.le_refl _⟩) (0, [], []) ⟨0, [], [], by omega, rfl, fun r hr => by simp at hr, rfl, fun j h h' => by simp at h'⟩ (lt_FUEL (by simp only; omega))
  exact ⟨i, w, R', he, ⟨hR, by omega⟩, hl, hw⟩
theorem pl_MoonLower (r_ : TRaw) (n : (Int × Int × Int)) (by_ : List Int) (hr : TRaw.G r_) (_ : (InK .i64 n.1 ∧ InK .i64 n.2.1 ∧ InK .i64 n.2.2)) (hb : (by_.length * 8 ≤ reachBytes ∧ by_.length ≤ maxLen ∧ ∀ y : Int, y ∈ by_ → InK .i64 y)) : m_L02_MoonLower r_ n by_ = some true := by
  obtain ⟨s, es, vs, n1, n2⟩ := Made_ex r_ (reach_len (by omega) hr.1.1)
  obtain ⟨m, em, fm, gm⟩ := Mod_ex n.1 (m := 2) (by omega) (by omega)
  obtain ⟨f, ef, ff, gf⟩ := Mod_ex n.2.1 (m := 1300) (by omega) (by omega)
  obtain ⟨d, ed, fd, hd⟩ := Mod_ex n.2.2 (m := 140) (by omega) (by omega)
  obtain ⟨i, w, R', el, vR, hlen, hlow⟩ := lowers by_ hb.2.1 s vs.roofs
  have hm : W (5 + m) = 5 + m := W_id (by omega)
  have hfd : W (f + d) = f + d := W_id (by omega)
  have v1 : VSky ⟨s.Sheets, s.Roofs, []⟩ := ⟨vs.n1, by simp, vs.roofs, vs.sheets, fun k hk => by simp at hk⟩
  have v2 : VSky ⟨s.Sheets, R', []⟩ := ⟨vs.n1, by simp, vR, vs.sheets, fun k hk => by simp at hk⟩
  have hR1 : s.Roofs.length ≤ maxLen := by have := vs.roofs.len; unfold maxLen; omega
  have hR2 : R'.length ≤ maxLen := by have := vR.len; unfold maxLen; omega
  have hN : 0 ≤ 5 + m ∧ 5 + m ≤ 100000 := by omega
  have hA : (0 : Int) ≤ 20 ∧ (20 : Int) ≤ 100000 := by omega
  have mn := mins2 (f := f) (t := f + d) (by omega) (by omega) (by omega)
  have c1 := bare v1 hN hA mn
  have c2 := bare v2 hN hA mn
  have r1 := Rises_eq ⟨s.Sheets, s.Roofs, []⟩ hR1 (5 + m) 20 (f := f) (t := f + d) (by omega) (by omega) (by omega)
  have r2 := Rises_eq ⟨s.Sheets, R', []⟩ hR2 (5 + m) 20 (f := f) (t := f + d) (by omega) (by omega) (by omega)
  rw [c1] at r1
  rw [c2] at r2
  unfold m_L02_MoonLower
  simp only [es, em, ef, ed, el, hm, hfd, Option.bind_some]
  cases hx : inF s.Sheets (5 + m) 20 with
  | none =>
    simp only [hx] at r1 r2
    have hl : loopF (m_L02_MoonLower_L2 s m R' f d 25) f = some (.inl f) := by
      obtain ⟨e, he, rfl⟩ := loopF_rule (body := m_L02_MoonLower_L2 s m R' f d 25) (fun st => st = f) (fun _ => 0) (fun e => e = .inl f) (by
        rintro _ rfl
        left
        refine ⟨_, ?_, rfl⟩
        unfold m_L02_MoonLower_L2
        have : ((25 : Int) == 0) = false := rfl
        simp only [this, Bool.false_eq_true, if_false]
        split <;> rfl) f rfl (lt_FUEL (by omega))
      exact he
    simp only [r1, r2, Option.bind_some, hl, pl_sane]
    rfl
  | some x =>
    simp only [hx] at r1 r2
    have vx : VSheet x := v1.sheet (inF_mem hx).1
    have ab := fun t ht => abP_low vx vs.roofs vR hlen hlow (t := t) ht
    have rl := rsL_low (k := ⟨x, s.Roofs, [], slip0 x⟩) (k' := ⟨x, R', [], slip0 x⟩) (f + d - f + 1).toNat f 1440 1440 (fun t h1 h2 => ab t (by omega)) (by omega) (Int.le_refl _)
    have hl : ∃ t, loopF (m_L02_MoonLower_L2 s m R' f d 0) f = some (.inl t) := by
      obtain ⟨e, he, t, rfl⟩ := loopF_rule (body := m_L02_MoonLower_L2 s m R' f d 0) (fun t => 0 ≤ t ∧ t ≤ 1500) (fun t => 1600 - t.toNat) (fun e => ∃ t, e = .inl t) (by
        rintro t ⟨h0, h1⟩
        unfold m_L02_MoonLower_L2
        by_cases ht : t ≤ f + d
        rotate_left
        · left; exact ⟨.inl t, by simp only [hfd, ht, decide_false, Bool.false_eq_true, if_false], t, rfl⟩
        right
        have a1 := Above_eq ⟨s.Sheets, s.Roofs, []⟩ hR1 (5 + m) 20 t
        have a2 := Above_eq ⟨s.Sheets, R', []⟩ hR2 (5 + m) 20 t
        rw [bare v1 hN hA (mins1.2 (by omega))] at a1
        rw [bare v2 hN hA (mins1.2 (by omega))] at a2
        simp only [hx] at a1 a2
        have hw : W (t + 7) = t + 7 := W_id (by omega)
        obtain ⟨p1, p2⟩ := ab t (by omega)
        refine ⟨t + 7, ?_, by omega, by omega⟩
        simp only [hfd, ht, decide_true, if_true, hm, a1, a2, Option.bind_some, hw, beq_self_eq_true, bne_self_eq_false, Bool.false_eq_true, if_false]
        rcases abP_3 ⟨x, s.Roofs, [], slip0 x⟩ t with a0 | a0 | a0
        · simp [a0]
        · simp [a0, p1 a0]
        · have := p2 a0
          simp [a0, this]) f ⟨by omega, by omega⟩ (lt_FUEL (by omega))
      exact ⟨t, he⟩
    obtain ⟨t, hl⟩ := hl
    have g1 := Int.not_lt.2 rl.1
    have g2 := Int.not_lt.2 rl.2
    simp only [r1, r2, Option.bind_some, bne_self_eq_false, Bool.false_eq_true, if_false, gt_iff_lt, g1, g2, decide_false, hl, pl_sane]
end Go.Proofs.Ytdhjccionnbljaa
