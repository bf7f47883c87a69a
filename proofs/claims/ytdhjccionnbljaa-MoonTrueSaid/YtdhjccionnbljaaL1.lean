/- Functions of the program as pure Lean functions, and that calls do what these say. Printed by a program out of the given form. -/
import Derived.Test.YtdhjccionnbljaaL0
set_option linter.unusedVariables false
set_option linter.unusedSimpArgs false
namespace Go.Proofs.Ytdhjccionnbljaa
open Go Go.RowKit Go.Sx
def m_R02_Mod (n : Int) (m : Int) : Option Int :=
  gd (m ≠ 0) <|
  gd (m ≠ 0) <|
  some ((W ((n.tmod m) + m)).tmod m)
set_option maxRecDepth 100000 in
set_option maxHeartbeats 2000000 in
theorem d_R02_Mod (n : Int) (m : Int) (r : Int) (hm : m_R02_Mod n m = some r) : Does Try.prog 14 [DI n, DI m] (fun x => x = DI r) := by
  refine does_y (X := ⟨Try.prog, tt, Try.f14.ntmps, [], [], [], []⟩) pok _ Try.func14 rfl rfl (Nat.le_of_ble_eq_true rfl) ?_
  obtain ⟨hg, hm⟩ := gd_some hm
  refine ⟨hg, ?_⟩
  obtain ⟨hg, hm⟩ := gd_some hm
  refine ⟨hg, ?_⟩
  cases hm
  exact RetY.le (leD.refl _)

def m_R02_frac_L1 : (Int × Int) → Option (Sum (Int × Int) (Int × Int)) := fun (a4, b5) =>
  if (b5 != 0) = true then
    gd (b5 ≠ 0) <|
    some (.inl (b5, (a4.tmod b5)))
  else
    some (.inr (a4, b5))
def m_R02_frac (num : Int) (den : Int) : Option TFrac :=
  if (decide (den < 0)) = true then
    if (decide ((W (0 - num)) < 0)) = true then
      Option.bind (loopF m_R02_frac_L1 ((W (0 - (W (0 - num)))), (W (0 - den)))) fun (a8, b9) =>
      if (a8 == 0) = true then
        some (⟨(W ((W (0 - num)).tdiv 1)), (W ((W (0 - den)).tdiv 1))⟩ : TFrac)
      else
        gd (a8 ≠ 0) <|
        gd (a8 ≠ 0) <|
        some (⟨(W ((W (0 - num)).tdiv a8)), (W ((W (0 - den)).tdiv a8))⟩ : TFrac)
    else
      Option.bind (loopF m_R02_frac_L1 ((W (0 - num)), (W (0 - den)))) fun (a22, b23) =>
      if (a22 == 0) = true then
        some (⟨(W ((W (0 - num)).tdiv 1)), (W ((W (0 - den)).tdiv 1))⟩ : TFrac)
      else
        gd (a22 ≠ 0) <|
        gd (a22 ≠ 0) <|
        some (⟨(W ((W (0 - num)).tdiv a22)), (W ((W (0 - den)).tdiv a22))⟩ : TFrac)
  else
    if (decide (num < 0)) = true then
      Option.bind (loopF m_R02_frac_L1 ((W (0 - num)), den)) fun (a37, b38) =>
      if (a37 == 0) = true then
        some (⟨(W (num.tdiv 1)), (W (den.tdiv 1))⟩ : TFrac)
      else
        gd (a37 ≠ 0) <|
        gd (a37 ≠ 0) <|
        some (⟨(W (num.tdiv a37)), (W (den.tdiv a37))⟩ : TFrac)
    else
      Option.bind (loopF m_R02_frac_L1 (num, den)) fun (a51, b52) =>
      if (a51 == 0) = true then
        some (⟨(W (num.tdiv 1)), (W (den.tdiv 1))⟩ : TFrac)
      else
        gd (a51 ≠ 0) <|
        gd (a51 ≠ 0) <|
        some (⟨(W (num.tdiv a51)), (W (den.tdiv a51))⟩ : TFrac)
set_option maxRecDepth 100000 in
set_option maxHeartbeats 2000000 in
theorem d_R02_frac (num : Int) (den : Int) (r : TFrac) (hm : m_R02_frac num den = some r) : Does Try.prog 55 [DI num, DI den] (fun x => x = .agg (TFrac.c r)) := by
  refine does_y (X := ⟨Try.prog, tt, Try.f55.ntmps, pl55, [], [], []⟩) pok _ Try.func55 rfl rfl (Nat.le_of_ble_eq_true rfl) ?_
  refine VIf.mk (fun (h1 : (decide (den < 0)) = true) => ?_) (fun (h1 : (decide (den < 0)) = false) => ?_)
  · replace hm := if_t h1 hm
    refine VIf.mk (fun (h2 : (decide ((W (0 - num)) < 0)) = true) => ?_) (fun (h2 : (decide ((W (0 - num)) < 0)) = false) => ?_)
    · replace hm := if_t h2 hm
      obtain ⟨ev11, he, hk12⟩ := bd_some hm
      refine LoopY.of (fun (lpx : Nat × (Int × Int)) => match lpx with | (fu13, a4, b5) => (⟨[(0, DI (W (0 - num))), (1, DI (W (0 - den))), (4, .own 0 0), (5, DI a4), (6, DI b5), (9, DB (decide (den < 0))), (16, DB (decide ((W (0 - num)) < 0)))], [(0, .blk [DI 0, DI 0] 37)], 1⟩ : Sy)) (fun lpx => loopO m_R02_frac_L1 lpx.1 lpx.2 = some ev11) (fun lpx => lpx.1) (FUEL, ((W (0 - (W (0 - num)))), (W (0 - den)))) (SubY.of 1 rfl ⟨⟨_, rfl, leD.refl _⟩, ⟨_, rfl, leD.refl _⟩, ⟨_, rfl, leD.refl _⟩, ⟨_, rfl, leD.refl _⟩, ⟨_, rfl, leD.refl _⟩, ⟨_, rfl, leD.refl _⟩, ⟨_, rfl, leD.refl _⟩, trivial⟩ ⟨⟨_, rfl, leDL.refl _⟩, trivial⟩) he ?_
      rintro ⟨fu13, a4, b5⟩ hi14
      obtain ⟨fu13, b, rfl, hm, hi14⟩ := loop_step hi14
      refine VIf.mk (fun (h15 : (b5 != 0) = true) => ?_) (fun (h15 : (b5 != 0) = false) => ?_)
      · replace hm := if_t h15 hm
        obtain ⟨hg, hm⟩ := gd_some hm
        refine ⟨hg, ?_⟩
        cases hm
        exact ⟨(fu13, (b5, (a4.tmod b5))), SubY.of 1 rfl ⟨⟨_, rfl, leD.refl _⟩, ⟨_, rfl, leD.refl _⟩, ⟨_, rfl, leD.refl _⟩, ⟨_, rfl, leD.refl _⟩, ⟨_, rfl, leD.refl _⟩, ⟨_, rfl, leD.refl _⟩, ⟨_, rfl, leD.refl _⟩, trivial⟩ ⟨⟨_, rfl, leDL.refl _⟩, trivial⟩, hi14, Nat.lt_succ_self _⟩
      · replace hm := if_f h15 hm
        cases hm
        cases hi14
        have hm := hk12
        refine VIf.mk (fun (h16 : (a4 == 0) = true) => ?_) (fun (h16 : (a4 == 0) = false) => ?_)
        · replace hm := if_t h16 hm
          refine ⟨rfl, ?_⟩
          refine ⟨by decide, ?_⟩
          refine ⟨by decide, ?_⟩
          cases hm
          exact RetY.le (leD.refl _)
        · replace hm := if_f h16 hm
          refine ⟨rfl, ?_⟩
          obtain ⟨hg, hm⟩ := gd_some hm
          refine ⟨hg, ?_⟩
          obtain ⟨hg, hm⟩ := gd_some hm
          refine ⟨hg, ?_⟩
          cases hm
          exact RetY.le (leD.refl _)
    · replace hm := if_f h2 hm
      obtain ⟨ev25, he, hk26⟩ := bd_some hm
      refine LoopY.of (fun (lpx : Nat × (Int × Int)) => match lpx with | (fu27, a18, b19) => (⟨[(0, DI (W (0 - num))), (1, DI (W (0 - den))), (4, .own 0 0), (5, DI a18), (6, DI b19), (9, DB (decide (den < 0))), (16, DB (decide ((W (0 - num)) < 0)))], [(0, .blk [DI 0, DI 0] 37)], 1⟩ : Sy)) (fun lpx => loopO m_R02_frac_L1 lpx.1 lpx.2 = some ev25) (fun lpx => lpx.1) (FUEL, ((W (0 - num)), (W (0 - den)))) (SubY.of 1 rfl ⟨⟨_, rfl, leD.refl _⟩, ⟨_, rfl, leD.refl _⟩, ⟨_, rfl, leD.refl _⟩, ⟨_, rfl, leD.refl _⟩, ⟨_, rfl, leD.refl _⟩, ⟨_, rfl, leD.refl _⟩, ⟨_, rfl, leD.refl _⟩, trivial⟩ ⟨⟨_, rfl, leDL.refl _⟩, trivial⟩) he ?_
      rintro ⟨fu27, a18, b19⟩ hi28
      obtain ⟨fu27, b, rfl, hm, hi28⟩ := loop_step hi28
      refine VIf.mk (fun (h29 : (b19 != 0) = true) => ?_) (fun (h29 : (b19 != 0) = false) => ?_)
      · replace hm := if_t h29 hm
        obtain ⟨hg, hm⟩ := gd_some hm
        refine ⟨hg, ?_⟩
        cases hm
        exact ⟨(fu27, (b19, (a18.tmod b19))), SubY.of 1 rfl ⟨⟨_, rfl, leD.refl _⟩, ⟨_, rfl, leD.refl _⟩, ⟨_, rfl, leD.refl _⟩, ⟨_, rfl, leD.refl _⟩, ⟨_, rfl, leD.refl _⟩, ⟨_, rfl, leD.refl _⟩, ⟨_, rfl, leD.refl _⟩, trivial⟩ ⟨⟨_, rfl, leDL.refl _⟩, trivial⟩, hi28, Nat.lt_succ_self _⟩
      · replace hm := if_f h29 hm
        cases hm
        cases hi28
        have hm := hk26
        refine VIf.mk (fun (h30 : (a18 == 0) = true) => ?_) (fun (h30 : (a18 == 0) = false) => ?_)
        · replace hm := if_t h30 hm
          refine ⟨rfl, ?_⟩
          refine ⟨by decide, ?_⟩
          refine ⟨by decide, ?_⟩
          cases hm
          exact RetY.le (leD.refl _)
        · replace hm := if_f h30 hm
          refine ⟨rfl, ?_⟩
          obtain ⟨hg, hm⟩ := gd_some hm
          refine ⟨hg, ?_⟩
          obtain ⟨hg, hm⟩ := gd_some hm
          refine ⟨hg, ?_⟩
          cases hm
          exact RetY.le (leD.refl _)
  · replace hm := if_f h1 hm
    refine VIf.mk (fun (h31 : (decide (num < 0)) = true) => ?_) (fun (h31 : (decide (num < 0)) = false) => ?_)
    · replace hm := if_t h31 hm
      obtain ⟨ev40, he, hk41⟩ := bd_some hm
      refine LoopY.of (fun (lpx : Nat × (Int × Int)) => match lpx with | (fu42, a33, b34) => (⟨[(0, DI num), (1, DI den), (4, .own 0 0), (5, DI a33), (6, DI b34), (9, DB (decide (den < 0))), (16, DB (decide (num < 0)))], [(0, .blk [DI 0, DI 0] 37)], 1⟩ : Sy)) (fun lpx => loopO m_R02_frac_L1 lpx.1 lpx.2 = some ev40) (fun lpx => lpx.1) (FUEL, ((W (0 - num)), den)) (SubY.of 1 rfl ⟨⟨_, rfl, leD.refl _⟩, ⟨_, rfl, leD.refl _⟩, ⟨_, rfl, leD.refl _⟩, ⟨_, rfl, leD.refl _⟩, ⟨_, rfl, leD.refl _⟩, ⟨_, rfl, leD.refl _⟩, ⟨_, rfl, leD.refl _⟩, trivial⟩ ⟨⟨_, rfl, leDL.refl _⟩, trivial⟩) he ?_
      rintro ⟨fu42, a33, b34⟩ hi43
      obtain ⟨fu42, b, rfl, hm, hi43⟩ := loop_step hi43
      refine VIf.mk (fun (h44 : (b34 != 0) = true) => ?_) (fun (h44 : (b34 != 0) = false) => ?_)
      · replace hm := if_t h44 hm
        obtain ⟨hg, hm⟩ := gd_some hm
        refine ⟨hg, ?_⟩
        cases hm
        exact ⟨(fu42, (b34, (a33.tmod b34))), SubY.of 1 rfl ⟨⟨_, rfl, leD.refl _⟩, ⟨_, rfl, leD.refl _⟩, ⟨_, rfl, leD.refl _⟩, ⟨_, rfl, leD.refl _⟩, ⟨_, rfl, leD.refl _⟩, ⟨_, rfl, leD.refl _⟩, ⟨_, rfl, leD.refl _⟩, trivial⟩ ⟨⟨_, rfl, leDL.refl _⟩, trivial⟩, hi43, Nat.lt_succ_self _⟩
      · replace hm := if_f h44 hm
        cases hm
        cases hi43
        have hm := hk41
        refine VIf.mk (fun (h45 : (a33 == 0) = true) => ?_) (fun (h45 : (a33 == 0) = false) => ?_)
        · replace hm := if_t h45 hm
          refine ⟨rfl, ?_⟩
          refine ⟨by decide, ?_⟩
          refine ⟨by decide, ?_⟩
          cases hm
          exact RetY.le (leD.refl _)
        · replace hm := if_f h45 hm
          refine ⟨rfl, ?_⟩
          obtain ⟨hg, hm⟩ := gd_some hm
          refine ⟨hg, ?_⟩
          obtain ⟨hg, hm⟩ := gd_some hm
          refine ⟨hg, ?_⟩
          cases hm
          exact RetY.le (leD.refl _)
    · replace hm := if_f h31 hm
      obtain ⟨ev54, he, hk55⟩ := bd_some hm
      refine LoopY.of (fun (lpx : Nat × (Int × Int)) => match lpx with | (fu56, a47, b48) => (⟨[(0, DI num), (1, DI den), (4, .own 0 0), (5, DI a47), (6, DI b48), (9, DB (decide (den < 0))), (16, DB (decide (num < 0)))], [(0, .blk [DI 0, DI 0] 37)], 1⟩ : Sy)) (fun lpx => loopO m_R02_frac_L1 lpx.1 lpx.2 = some ev54) (fun lpx => lpx.1) (FUEL, (num, den)) (SubY.of 1 rfl ⟨⟨_, rfl, leD.refl _⟩, ⟨_, rfl, leD.refl _⟩, ⟨_, rfl, leD.refl _⟩, ⟨_, rfl, leD.refl _⟩, ⟨_, rfl, leD.refl _⟩, ⟨_, rfl, leD.refl _⟩, ⟨_, rfl, leD.refl _⟩, trivial⟩ ⟨⟨_, rfl, leDL.refl _⟩, trivial⟩) he ?_
      rintro ⟨fu56, a47, b48⟩ hi57
      obtain ⟨fu56, b, rfl, hm, hi57⟩ := loop_step hi57
      refine VIf.mk (fun (h58 : (b48 != 0) = true) => ?_) (fun (h58 : (b48 != 0) = false) => ?_)
      · replace hm := if_t h58 hm
        obtain ⟨hg, hm⟩ := gd_some hm
        refine ⟨hg, ?_⟩
        cases hm
        exact ⟨(fu56, (b48, (a47.tmod b48))), SubY.of 1 rfl ⟨⟨_, rfl, leD.refl _⟩, ⟨_, rfl, leD.refl _⟩, ⟨_, rfl, leD.refl _⟩, ⟨_, rfl, leD.refl _⟩, ⟨_, rfl, leD.refl _⟩, ⟨_, rfl, leD.refl _⟩, ⟨_, rfl, leD.refl _⟩, trivial⟩ ⟨⟨_, rfl, leDL.refl _⟩, trivial⟩, hi57, Nat.lt_succ_self _⟩
      · replace hm := if_f h58 hm
        cases hm
        cases hi57
        have hm := hk55
        refine VIf.mk (fun (h59 : (a47 == 0) = true) => ?_) (fun (h59 : (a47 == 0) = false) => ?_)
        · replace hm := if_t h59 hm
          refine ⟨rfl, ?_⟩
          refine ⟨by decide, ?_⟩
          refine ⟨by decide, ?_⟩
          cases hm
          exact RetY.le (leD.refl _)
        · replace hm := if_f h59 hm
          refine ⟨rfl, ?_⟩
          obtain ⟨hg, hm⟩ := gd_some hm
          refine ⟨hg, ?_⟩
          obtain ⟨hg, hm⟩ := gd_some hm
          refine ⟨hg, ?_⟩
          cases hm
          exact RetY.le (leD.refl _)

def m_R02_True (x : TSheet) (off : Int) : Option TFrac :=
  Option.bind (m_R02_Mod off 25) fun x1 =>
  Option.bind (m_R02_frac (W (x.Off.Num * (W (x1 - 12)))) (W (x.Off.Den * 12))) fun x3 =>
  some x3
set_option maxRecDepth 100000 in
set_option maxHeartbeats 2000000 in
theorem d_R02_True (x : TSheet) (off : Int) (r : TFrac) (hm : m_R02_True x off = some r) : Does Try.prog 28 [.agg (TSheet.c x), DI off] (fun x => x = .agg (TFrac.c r)) := by
  refine does_y (X := ⟨Try.prog, tt, Try.f28.ntmps, [], [], [], []⟩) pok _ Try.func28 rfl rfl (Nat.le_of_ble_eq_true rfl) ?_
  obtain ⟨x1, hx2, hm⟩ := bd_some hm
  refine CallY.det (d_R02_Mod off 25 _ hx2) ?_
  obtain ⟨x3, hx4, hm⟩ := bd_some hm
  refine CallY.det (d_R02_frac (W (x.Off.Num * (W (x1 - 12)))) (W (x.Off.Den * 12)) _ hx4) ?_
  cases hm
  exact RetY.le (leD.refl _)

def m_R02_sign (x : TFrac) (y : TFrac) : Option Int :=
  if (decide ((W (x.Num * y.Den)) < (W (y.Num * x.Den)))) = true then
    some (-1)
  else
    if (decide ((W (x.Num * y.Den)) > (W (y.Num * x.Den)))) = true then
      some 1
    else
      some 0
set_option maxRecDepth 100000 in
set_option maxHeartbeats 2000000 in
theorem d_R02_sign (x : TFrac) (y : TFrac) (r : Int) (hm : m_R02_sign x y = some r) : Does Try.prog 58 [.agg (TFrac.c x), .agg (TFrac.c y)] (fun x => x = DI r) := by
  refine does_y (X := ⟨Try.prog, tt, Try.f58.ntmps, [], [], [], []⟩) pok _ Try.func58 rfl rfl (Nat.le_of_ble_eq_true rfl) ?_
  refine VIf.mk (fun (h1 : (decide ((W (x.Num * y.Den)) < (W (y.Num * x.Den)))) = true) => ?_) (fun (h1 : (decide ((W (x.Num * y.Den)) < (W (y.Num * x.Den)))) = false) => ?_)
  · replace hm := if_t h1 hm
    cases hm
    exact RetY.le (leD.refl _)
  · replace hm := if_f h1 hm
    refine VIf.mk (fun (h2 : (decide ((W (x.Num * y.Den)) > (W (y.Num * x.Den)))) = true) => ?_) (fun (h2 : (decide ((W (x.Num * y.Den)) > (W (y.Num * x.Den)))) = false) => ?_)
    · replace hm := if_t h2 hm
      cases hm
      exact RetY.le (leD.refl _)
    · replace hm := if_f h2 hm
      cases hm
      exact RetY.le (leD.refl _)

def m_R02_whole (n : Int) : Option TFrac :=
  some (⟨n, 1⟩ : TFrac)
set_option maxRecDepth 100000 in
set_option maxHeartbeats 2000000 in
theorem d_R02_whole (n : Int) (r : TFrac) (hm : m_R02_whole n = some r) : Does Try.prog 112 [DI n] (fun x => x = .agg (TFrac.c r)) := by
  refine does_y (X := ⟨Try.prog, tt, Try.f112.ntmps, [], [], [], []⟩) pok _ Try.func112 rfl rfl (Nat.le_of_ble_eq_true rfl) ?_
  cases hm
  exact RetY.le (leD.refl _)

def m_R02_rows_L1 (l : (List (Int × Int × Int × Int))) : (Int × (List TRow)) → Option (Sum (Int × (List TRow)) (Int × (List TRow))) := fun (i48, v49) =>
  if (decide (i48 < (l.length : Int))) = true then
    if (decide (i48 < 4)) = true then
      Option.bind (idx v49 (W ((v49.length : Int) - 1))) fun e100 =>
      Option.bind (idx v49 (W ((v49.length : Int) - 1))) fun e102 =>
      Option.bind (idx l i48) fun e104 =>
      Option.bind (idx l i48) fun e106 =>
      Option.bind (idx l i48) fun e108 =>
      Option.bind (m_R02_Mod e104.1 200) fun x110 =>
      Option.bind (m_R02_Mod e106.2.1 490) fun x112 =>
      Option.bind (m_R02_Mod e108.2.2.2 7) fun x114 =>
      Option.bind (m_R02_frac (W (x112 - 90)) (W (1 + x114))) fun x116 =>
      Option.bind (idx l i48) fun e118 =>
      Option.bind (m_R02_Mod e118.2.2.1 60) fun x120 =>
      Option.bind (m_R02_frac (W (e102.Bearing.Num + (W (e102.Bearing.Den * x120)))) e102.Bearing.Den) fun x122 =>
      Option.bind (m_R02_whole 90) fun x124 =>
      Option.bind (m_R02_sign x116 x124) fun x126 =>
      if (decide (x126 > 0)) = true then
        Option.bind (idx l i48) fun e129 =>
        Option.bind (m_R02_Mod e129.2.1 60) fun x131 =>
        Option.bind (m_R02_whole x131) fun x133 =>
        gd ((v49.length + ([(⟨(W ((W (e102.Minute + 50)) + x110)), x133, x122⟩ : TRow)] : List TRow).length) * 40 ≤ 140737488355328 ∧ v49.length + ([(⟨(W ((W (e102.Minute + 50)) + x110)), x133, x122⟩ : TRow)] : List TRow).length ≤ 9223372036854775807) <|
        some (.inl ((W (i48 + 1)), (v49 ++ ([(⟨(W ((W (e102.Minute + 50)) + x110)), x133, x122⟩ : TRow)] : List TRow))))
      else
        Option.bind (m_R02_whole (-90)) fun x135 =>
        Option.bind (m_R02_sign x135 x116) fun x137 =>
        if (decide (x137 > 0)) = true then
          Option.bind (idx l i48) fun e140 =>
          Option.bind (m_R02_Mod e140.2.1 60) fun x142 =>
          Option.bind (m_R02_whole x142) fun x144 =>
          gd ((v49.length + ([(⟨(W ((W (e102.Minute + 50)) + x110)), x144, x122⟩ : TRow)] : List TRow).length) * 40 ≤ 140737488355328 ∧ v49.length + ([(⟨(W ((W (e102.Minute + 50)) + x110)), x144, x122⟩ : TRow)] : List TRow).length ≤ 9223372036854775807) <|
          some (.inl ((W (i48 + 1)), (v49 ++ ([(⟨(W ((W (e102.Minute + 50)) + x110)), x144, x122⟩ : TRow)] : List TRow))))
        else
          gd ((v49.length + ([(⟨(W ((W (e102.Minute + 50)) + x110)), x116, x122⟩ : TRow)] : List TRow).length) * 40 ≤ 140737488355328 ∧ v49.length + ([(⟨(W ((W (e102.Minute + 50)) + x110)), x116, x122⟩ : TRow)] : List TRow).length ≤ 9223372036854775807) <|
          some (.inl ((W (i48 + 1)), (v49 ++ ([(⟨(W ((W (e102.Minute + 50)) + x110)), x116, x122⟩ : TRow)] : List TRow))))
    else
      some (.inr (i48, v49))
  else
    some (.inr (i48, v49))
def m_R02_rows (l : (List (Int × Int × Int × Int))) : Option (List TRow) :=
  Option.bind (loopF (m_R02_rows_L1 l) (0, ([(⟨0, (⟨(-20), 1⟩ : TFrac), (⟨60, 1⟩ : TFrac)⟩ : TRow)] : List TRow))) fun (i146, v147) =>
  Option.bind (idx v147 (W ((v147.length : Int) - 1))) fun e148 =>
  Option.bind (idx v147 (W ((v147.length : Int) - 1))) fun e150 =>
  Option.bind (m_R02_whole (-10)) fun x152 =>
  Option.bind (m_R02_frac (W (e150.Bearing.Num + (W (e150.Bearing.Den * 20)))) e150.Bearing.Den) fun x154 =>
  gd ((v147.length + ([(⟨1439, x152, x154⟩ : TRow)] : List TRow).length) * 40 ≤ 140737488355328 ∧ v147.length + ([(⟨1439, x152, x154⟩ : TRow)] : List TRow).length ≤ 9223372036854775807) <|
  some (v147 ++ ([(⟨1439, x152, x154⟩ : TRow)] : List TRow))
set_option maxRecDepth 100000 in
set_option maxHeartbeats 2000000 in
theorem d_R02_rows (l : (List (Int × Int × Int × Int))) (r : (List TRow)) (hm : m_R02_rows l = some r) : Does Try.prog 56 [.lst 4 l.length (l.flatMap (fun (x : (Int × Int × Int × Int)) => [DI x.1, DI x.2.1, DI x.2.2.1, DI x.2.2.2]))] (fun x => x = .lst 5 r.length (r.flatMap TRow.c)) := by
  refine does_y (X := ⟨Try.prog, tt, Try.f56.ntmps, pl56, [], [], []⟩) pok _ Try.func56 rfl rfl (Nat.le_of_ble_eq_true rfl) ?_
  refine ⟨([(⟨0, (⟨(-20), 1⟩ : TFrac), (⟨60, 1⟩ : TFrac)⟩ : TRow)] : List TRow).flatMap TRow.c, ([(⟨0, (⟨(-20), 1⟩ : TFrac), (⟨60, 1⟩ : TFrac)⟩ : TRow)] : List TRow).length, ⟨rfl, rfl⟩, ?_⟩
  obtain ⟨ev156, he, hk157⟩ := bd_some hm
  refine LoopY.of (fun (lpx : Nat × (Int × (List TRow))) => match lpx with | (fu158, i48, v49) => (⟨[(0, .lst 4 l.length (l.flatMap (fun (x : (Int × Int × Int × Int)) => [DI x.1, DI x.2.1, DI x.2.2.1, DI x.2.2.2]))), (2, .v (.slice none 0 0)), (3, .row 0 5), (4, DI i48)], [(0, .row 5 v49.length (v49.flatMap TRow.c) 104)], 1⟩ : Sy)) (fun lpx => loopO (m_R02_rows_L1 l) lpx.1 lpx.2 = some ev156) (fun lpx => lpx.1) (FUEL, (0, ([(⟨0, (⟨(-20), 1⟩ : TFrac), (⟨60, 1⟩ : TFrac)⟩ : TRow)] : List TRow))) (SubY.of 1 rfl ⟨⟨_, rfl, leD.refl _⟩, ⟨_, rfl, leD.refl _⟩, ⟨_, rfl, leD.refl _⟩, ⟨_, rfl, leD.refl _⟩, trivial⟩ ⟨⟨_, _, rfl, (by first | rfl | simp), rfl⟩, trivial⟩) he ?_
  rintro ⟨fu158, i48, v49⟩ hi159
  obtain ⟨fu158, b, rfl, hm, hi159⟩ := loop_step hi159
  refine VIf.mk (fun (h160 : (decide (i48 < (l.length : Int))) = true) => ?_) (fun (h160 : (decide (i48 < (l.length : Int))) = false) => ?_)
  · replace hm := if_t h160 hm
    refine VIf.mk (fun (h161 : (decide (i48 < 4)) = true) => ?_) (fun (h161 : (decide (i48 < 4)) = false) => ?_)
    · replace hm := if_t h161 hm
      obtain ⟨e162, hx163, hm⟩ := bd_some hm
      refine ⟨idx_bd hx163, ?_⟩
      obtain ⟨e164, hx165, hm⟩ := bd_some hm
      refine ⟨_, el_row (fun _ => rfl) hx165, ?_⟩
      refine ⟨rfl, ?_⟩
      obtain ⟨e166, hx167, hm⟩ := bd_some hm
      refine ⟨_, el_idx (fun _ => rfl) hx167, ?_⟩
      refine ⟨by decide, ?_⟩
      obtain ⟨e168, hx169, hm⟩ := bd_some hm
      refine ⟨_, el_idx (fun _ => rfl) hx169, ?_⟩
      refine ⟨by decide, ?_⟩
      obtain ⟨e170, hx171, hm⟩ := bd_some hm
      refine ⟨_, el_idx (fun _ => rfl) hx171, ?_⟩
      refine ⟨by decide, ?_⟩
      obtain ⟨x172, hx173, hm⟩ := bd_some hm
      refine CallY.det (d_R02_Mod e166.1 200 _ hx173) ?_
      obtain ⟨x174, hx175, hm⟩ := bd_some hm
      refine CallY.det (d_R02_Mod e168.2.1 490 _ hx175) ?_
      obtain ⟨x176, hx177, hm⟩ := bd_some hm
      refine CallY.det (d_R02_Mod e170.2.2.2 7 _ hx177) ?_
      obtain ⟨x178, hx179, hm⟩ := bd_some hm
      refine CallY.det (d_R02_frac (W (x174 - 90)) (W (1 + x176)) _ hx179) ?_
      refine ⟨rfl, ?_⟩
      obtain ⟨e180, hx181, hm⟩ := bd_some hm
      refine ⟨_, el_idx (fun _ => rfl) hx181, ?_⟩
      refine ⟨by decide, ?_⟩
      obtain ⟨x182, hx183, hm⟩ := bd_some hm
      refine CallY.det (d_R02_Mod e180.2.2.1 60 _ hx183) ?_
      obtain ⟨x184, hx185, hm⟩ := bd_some hm
      refine CallY.det (d_R02_frac (W (e164.Bearing.Num + (W (e164.Bearing.Den * x182)))) e164.Bearing.Den _ hx185) ?_
      refine ⟨rfl, ?_⟩
      obtain ⟨x186, hx187, hm⟩ := bd_some hm
      refine CallY.det (d_R02_whole 90 _ hx187) ?_
      obtain ⟨x188, hx189, hm⟩ := bd_some hm
      refine CallY.det (d_R02_sign x178 x186 _ hx189) ?_
      refine VIf.mk (fun (h190 : (decide (x188 > 0)) = true) => ?_) (fun (h190 : (decide (x188 > 0)) = false) => ?_)
      · replace hm := if_t h190 hm
        obtain ⟨e191, hx192, hm⟩ := bd_some hm
        refine ⟨_, el_idx (fun _ => rfl) hx192, ?_⟩
        refine ⟨by decide, ?_⟩
        obtain ⟨x193, hx194, hm⟩ := bd_some hm
        refine CallY.det (d_R02_Mod e191.2.1 60 _ hx194) ?_
        obtain ⟨x195, hx196, hm⟩ := bd_some hm
        refine CallY.det (d_R02_whole x193 _ hx196) ?_
        refine ⟨([(⟨(W ((W (e164.Minute + 50)) + x172)), x195, x184⟩ : TRow)] : List TRow).flatMap TRow.c, ([(⟨(W ((W (e164.Minute + 50)) + x172)), x195, x184⟩ : TRow)] : List TRow).length, ⟨rfl, rfl⟩, ?_⟩
        obtain ⟨hg, hm⟩ := gd_some hm
        refine ⟨hg, _, _, flat_app (c := TRow.c) (l := (v49 : List TRow)) (r := (([(⟨(W ((W (e164.Minute + 50)) + x172)), x195, x184⟩ : TRow)] : List TRow) : List TRow)), ?_⟩
        cases hm
        exact ⟨(fu158, ((W (i48 + 1)), (v49 ++ ([(⟨(W ((W (e164.Minute + 50)) + x172)), x195, x184⟩ : TRow)] : List TRow)))), SubY.of 1 rfl ⟨⟨_, rfl, leD.refl _⟩, ⟨_, rfl, leD.refl _⟩, ⟨_, rfl, leD.refl _⟩, ⟨_, rfl, leD.refl _⟩, trivial⟩ ⟨⟨_, _, rfl, (by first | rfl | simp), rfl⟩, trivial⟩, hi159, Nat.lt_succ_self _⟩
      · replace hm := if_f h190 hm
        obtain ⟨x197, hx198, hm⟩ := bd_some hm
        refine CallY.det (d_R02_whole (-90) _ hx198) ?_
        obtain ⟨x199, hx200, hm⟩ := bd_some hm
        refine CallY.det (d_R02_sign x197 x178 _ hx200) ?_
        refine VIf.mk (fun (h201 : (decide (x199 > 0)) = true) => ?_) (fun (h201 : (decide (x199 > 0)) = false) => ?_)
        · replace hm := if_t h201 hm
          obtain ⟨e202, hx203, hm⟩ := bd_some hm
          refine ⟨_, el_idx (fun _ => rfl) hx203, ?_⟩
          refine ⟨by decide, ?_⟩
          obtain ⟨x204, hx205, hm⟩ := bd_some hm
          refine CallY.det (d_R02_Mod e202.2.1 60 _ hx205) ?_
          obtain ⟨x206, hx207, hm⟩ := bd_some hm
          refine CallY.det (d_R02_whole x204 _ hx207) ?_
          refine ⟨([(⟨(W ((W (e164.Minute + 50)) + x172)), x206, x184⟩ : TRow)] : List TRow).flatMap TRow.c, ([(⟨(W ((W (e164.Minute + 50)) + x172)), x206, x184⟩ : TRow)] : List TRow).length, ⟨rfl, rfl⟩, ?_⟩
          obtain ⟨hg, hm⟩ := gd_some hm
          refine ⟨hg, _, _, flat_app (c := TRow.c) (l := (v49 : List TRow)) (r := (([(⟨(W ((W (e164.Minute + 50)) + x172)), x206, x184⟩ : TRow)] : List TRow) : List TRow)), ?_⟩
          cases hm
          exact ⟨(fu158, ((W (i48 + 1)), (v49 ++ ([(⟨(W ((W (e164.Minute + 50)) + x172)), x206, x184⟩ : TRow)] : List TRow)))), SubY.of 1 rfl ⟨⟨_, rfl, leD.refl _⟩, ⟨_, rfl, leD.refl _⟩, ⟨_, rfl, leD.refl _⟩, ⟨_, rfl, leD.refl _⟩, trivial⟩ ⟨⟨_, _, rfl, (by first | rfl | simp), rfl⟩, trivial⟩, hi159, Nat.lt_succ_self _⟩
        · replace hm := if_f h201 hm
          refine ⟨([(⟨(W ((W (e164.Minute + 50)) + x172)), x178, x184⟩ : TRow)] : List TRow).flatMap TRow.c, ([(⟨(W ((W (e164.Minute + 50)) + x172)), x178, x184⟩ : TRow)] : List TRow).length, ⟨rfl, rfl⟩, ?_⟩
          obtain ⟨hg, hm⟩ := gd_some hm
          refine ⟨hg, _, _, flat_app (c := TRow.c) (l := (v49 : List TRow)) (r := (([(⟨(W ((W (e164.Minute + 50)) + x172)), x178, x184⟩ : TRow)] : List TRow) : List TRow)), ?_⟩
          cases hm
          exact ⟨(fu158, ((W (i48 + 1)), (v49 ++ ([(⟨(W ((W (e164.Minute + 50)) + x172)), x178, x184⟩ : TRow)] : List TRow)))), SubY.of 1 rfl ⟨⟨_, rfl, leD.refl _⟩, ⟨_, rfl, leD.refl _⟩, ⟨_, rfl, leD.refl _⟩, ⟨_, rfl, leD.refl _⟩, trivial⟩ ⟨⟨_, _, rfl, (by first | rfl | simp), rfl⟩, trivial⟩, hi159, Nat.lt_succ_self _⟩
    · replace hm := if_f h161 hm
      cases hm
      cases hi159
      have hm := hk157
      obtain ⟨e208, hx209, hm⟩ := bd_some hm
      refine ⟨idx_bd hx209, ?_⟩
      obtain ⟨e210, hx211, hm⟩ := bd_some hm
      refine ⟨_, el_row (fun _ => rfl) hx211, ?_⟩
      refine ⟨rfl, ?_⟩
      obtain ⟨x212, hx213, hm⟩ := bd_some hm
      refine CallY.det (d_R02_whole (-10) _ hx213) ?_
      obtain ⟨x214, hx215, hm⟩ := bd_some hm
      refine CallY.det (d_R02_frac (W (e210.Bearing.Num + (W (e210.Bearing.Den * 20)))) e210.Bearing.Den _ hx215) ?_
      refine ⟨([(⟨1439, x212, x214⟩ : TRow)] : List TRow).flatMap TRow.c, ([(⟨1439, x212, x214⟩ : TRow)] : List TRow).length, ⟨rfl, rfl⟩, ?_⟩
      obtain ⟨hg, hm⟩ := gd_some hm
      refine ⟨hg, _, _, flat_app (c := TRow.c) (l := (v49 : List TRow)) (r := (([(⟨1439, x212, x214⟩ : TRow)] : List TRow) : List TRow)), ?_⟩
      cases hm
      exact RetY.le (leD.refl _)
  · replace hm := if_f h160 hm
    cases hm
    cases hi159
    have hm := hk157
    obtain ⟨e216, hx217, hm⟩ := bd_some hm
    refine ⟨idx_bd hx217, ?_⟩
    obtain ⟨e218, hx219, hm⟩ := bd_some hm
    refine ⟨_, el_row (fun _ => rfl) hx219, ?_⟩
    refine ⟨rfl, ?_⟩
    obtain ⟨x220, hx221, hm⟩ := bd_some hm
    refine CallY.det (d_R02_whole (-10) _ hx221) ?_
    obtain ⟨x222, hx223, hm⟩ := bd_some hm
    refine CallY.det (d_R02_frac (W (e218.Bearing.Num + (W (e218.Bearing.Den * 20)))) e218.Bearing.Den _ hx223) ?_
    refine ⟨([(⟨1439, x220, x222⟩ : TRow)] : List TRow).flatMap TRow.c, ([(⟨1439, x220, x222⟩ : TRow)] : List TRow).length, ⟨rfl, rfl⟩, ?_⟩
    obtain ⟨hg, hm⟩ := gd_some hm
    refine ⟨hg, _, _, flat_app (c := TRow.c) (l := (v49 : List TRow)) (r := (([(⟨1439, x220, x222⟩ : TRow)] : List TRow) : List TRow)), ?_⟩
    cases hm
    exact RetY.le (leD.refl _)

def m_R02_counts (known : Int) (until_ : Int) (on : Int) : Option Bool :=
  if (decide (known ≤ on)) = true then
    if (until_ == 0) = true then
      some true
    else
      some (decide (until_ > on))
  else
    some false
set_option maxRecDepth 100000 in
set_option maxHeartbeats 2000000 in
theorem d_R02_counts (known : Int) (until_ : Int) (on : Int) (r : Bool) (hm : m_R02_counts known until_ on = some r) : Does Try.prog 113 [DI known, DI until_, DI on] (fun x => x = DB r) := by
  refine does_y (X := ⟨Try.prog, tt, Try.f113.ntmps, [], [], [], []⟩) pok _ Try.func113 rfl rfl (Nat.le_of_ble_eq_true rfl) ?_
  refine VIf.mk (fun (h1 : (decide (known ≤ on)) = true) => ?_) (fun (h1 : (decide (known ≤ on)) = false) => ?_)
  · replace hm := if_t h1 hm
    refine VIf.mk (fun (h2 : (until_ == 0) = true) => ?_) (fun (h2 : (until_ == 0) = false) => ?_)
    · replace hm := if_t h2 hm
      cases hm
      exact RetY.le (leD.refl _)
    · replace hm := if_f h2 hm
      cases hm
      exact RetY.le (leD.refl _)
  · replace hm := if_f h1 hm
    cases hm
    exact RetY.le (leD.refl _)

def m_R02_inForce_L1 (s : TSky) (night : Int) (known : Int) : (Int × Int) → Option (Sum (Int × Int) (Int × Int)) := fun (out8, i9) =>
  if (decide (i9 < (s.Sheets.length : Int))) = true then
    Option.bind (idx s.Sheets i9) fun e22 =>
    if (e22.Night == night) = true then
      Option.bind (m_R02_counts e22.Known e22.Until known) fun x25 =>
      if x25 = true then
        if (decide (out8 < 0)) = true then
          some (.inl (i9, (W (i9 + 1))))
        else
          Option.bind (idx s.Sheets (if 0 > out8 then 0 else out8)) fun e29 =>
          if (decide (e22.Known ≥ e29.Known)) = true then
            some (.inl (i9, (W (i9 + 1))))
          else
            some (.inl (out8, (W (i9 + 1))))
      else
        some (.inl (out8, (W (i9 + 1))))
    else
      some (.inl (out8, (W (i9 + 1))))
  else
    some (.inr (out8, i9))
def m_R02_inForce (s : TSky) (night : Int) (known : Int) : Option Int :=
  Option.bind (loopF (m_R02_inForce_L1 s night known) ((-1), 0)) fun (out32, i33) =>
  some out32
set_option maxRecDepth 100000 in
set_option maxHeartbeats 2000000 in
theorem d_R02_inForce (s : TSky) (night : Int) (known : Int) (r : Int) (hm : m_R02_inForce s night known = some r) : Does Try.prog 57 [.agg (TSky.c s), DI night, DI known] (fun x => x = DI r) := by
  refine does_y (X := ⟨Try.prog, tt, Try.f57.ntmps, pl57, [], [], []⟩) pok _ Try.func57 rfl rfl (Nat.le_of_ble_eq_true rfl) ?_
  obtain ⟨ev34, he, hk35⟩ := bd_some hm
  refine LoopY.of (fun (lpx : Nat × (Int × Int)) => match lpx with | (fu36, out8, i9) => (⟨[(0, .agg [.lst 9 s.Sheets.length (s.Sheets.flatMap TSheet.c), .lst 3 s.Roofs.length (s.Roofs.flatMap TRoof.c), .lst 6 s.Sightings.length (s.Sightings.flatMap TSighting.c)]), (1, DI night), (2, DI known), (3, .own 0 0), (6, DI 0), (7, DI out8), (8, DI i9)], [(0, .blk [.lst 9 s.Sheets.length (s.Sheets.flatMap TSheet.c), .lst 3 s.Roofs.length (s.Roofs.flatMap TRoof.c), .lst 6 s.Sightings.length (s.Sightings.flatMap TSighting.c)] 32)], 1⟩ : Sy)) (fun lpx => loopO (m_R02_inForce_L1 s night known) lpx.1 lpx.2 = some ev34) (fun lpx => lpx.1) (FUEL, ((-1), 0)) (SubY.of 1 rfl ⟨⟨_, rfl, leD.refl _⟩, ⟨_, rfl, leD.refl _⟩, ⟨_, rfl, leD.refl _⟩, ⟨_, rfl, leD.refl _⟩, ⟨_, rfl, leD.refl _⟩, ⟨_, rfl, leD.refl _⟩, ⟨_, rfl, leD.refl _⟩, trivial⟩ ⟨⟨_, rfl, leDL.refl _⟩, trivial⟩) he ?_
  rintro ⟨fu36, out8, i9⟩ hi37
  obtain ⟨fu36, b, rfl, hm, hi37⟩ := loop_step hi37
  refine VIf.mk (fun (h38 : (decide (i9 < (s.Sheets.length : Int))) = true) => ?_) (fun (h38 : (decide (i9 < (s.Sheets.length : Int))) = false) => ?_)
  · replace hm := if_t h38 hm
    obtain ⟨e39, hx40, hm⟩ := bd_some hm
    refine ⟨_, el_idx (fun _ => rfl) hx40, ?_⟩
    refine ⟨rfl, ?_⟩
    refine VIf.mk (fun (h41 : (e39.Night == night) = true) => ?_) (fun (h41 : (e39.Night == night) = false) => ?_)
    · replace hm := if_t h41 hm
      obtain ⟨x42, hx43, hm⟩ := bd_some hm
      refine CallY.det (d_R02_counts e39.Known e39.Until known _ hx43) ?_
      refine VIf.mk (fun (h44 : x42 = true) => ?_) (fun (h44 : x42 = false) => ?_)
      · replace hm := if_t h44 hm
        refine VIf.mk (fun (h45 : (decide (out8 < 0)) = true) => ?_) (fun (h45 : (decide (out8 < 0)) = false) => ?_)
        · replace hm := if_t h45 hm
          cases hm
          exact ⟨(fu36, (i9, (W (i9 + 1)))), SubY.of 1 rfl ⟨⟨_, rfl, leD.refl _⟩, ⟨_, rfl, leD.refl _⟩, ⟨_, rfl, leD.refl _⟩, ⟨_, rfl, leD.refl _⟩, ⟨_, rfl, leD.refl _⟩, ⟨_, rfl, leD.refl _⟩, ⟨_, rfl, leD.refl _⟩, trivial⟩ ⟨⟨_, rfl, leDL.refl _⟩, trivial⟩, hi37, Nat.lt_succ_self _⟩
        · replace hm := if_f h45 hm
          obtain ⟨e46, hx47, hm⟩ := bd_some hm
          refine ⟨_, el_idx (fun _ => rfl) hx47, ?_⟩
          refine VIf.mk (fun (h48 : (decide (e39.Known ≥ e46.Known)) = true) => ?_) (fun (h48 : (decide (e39.Known ≥ e46.Known)) = false) => ?_)
          · replace hm := if_t h48 hm
            cases hm
            exact ⟨(fu36, (i9, (W (i9 + 1)))), SubY.of 1 rfl ⟨⟨_, rfl, leD.refl _⟩, ⟨_, rfl, leD.refl _⟩, ⟨_, rfl, leD.refl _⟩, ⟨_, rfl, leD.refl _⟩, ⟨_, rfl, leD.refl _⟩, ⟨_, rfl, leD.refl _⟩, ⟨_, rfl, leD.refl _⟩, trivial⟩ ⟨⟨_, rfl, leDL.refl _⟩, trivial⟩, hi37, Nat.lt_succ_self _⟩
          · replace hm := if_f h48 hm
            cases hm
            exact ⟨(fu36, (out8, (W (i9 + 1)))), SubY.of 1 rfl ⟨⟨_, rfl, leD.refl _⟩, ⟨_, rfl, leD.refl _⟩, ⟨_, rfl, leD.refl _⟩, ⟨_, rfl, leD.refl _⟩, ⟨_, rfl, leD.refl _⟩, ⟨_, rfl, leD.refl _⟩, ⟨_, rfl, leD.refl _⟩, trivial⟩ ⟨⟨_, rfl, leDL.refl _⟩, trivial⟩, hi37, Nat.lt_succ_self _⟩
      · replace hm := if_f h44 hm
        cases hm
        exact ⟨(fu36, (out8, (W (i9 + 1)))), SubY.of 1 rfl ⟨⟨_, rfl, leD.refl _⟩, ⟨_, rfl, leD.refl _⟩, ⟨_, rfl, leD.refl _⟩, ⟨_, rfl, leD.refl _⟩, ⟨_, rfl, leD.refl _⟩, ⟨_, rfl, leD.refl _⟩, ⟨_, rfl, leD.refl _⟩, trivial⟩ ⟨⟨_, rfl, leDL.refl _⟩, trivial⟩, hi37, Nat.lt_succ_self _⟩
    · replace hm := if_f h41 hm
      cases hm
      exact ⟨(fu36, (out8, (W (i9 + 1)))), SubY.of 1 rfl ⟨⟨_, rfl, leD.refl _⟩, ⟨_, rfl, leD.refl _⟩, ⟨_, rfl, leD.refl _⟩, ⟨_, rfl, leD.refl _⟩, ⟨_, rfl, leD.refl _⟩, ⟨_, rfl, leD.refl _⟩, ⟨_, rfl, leD.refl _⟩, trivial⟩ ⟨⟨_, rfl, leDL.refl _⟩, trivial⟩, hi37, Nat.lt_succ_self _⟩
  · replace hm := if_f h38 hm
    cases hm
    cases hi37
    have hm := hk35
    cases hm
    exact RetY.le (leD.refl _)

def m_R02_minus (x : TFrac) : Option TFrac :=
  some (⟨(W (0 - x.Num)), x.Den⟩ : TFrac)
set_option maxRecDepth 100000 in
set_option maxHeartbeats 2000000 in
theorem d_R02_minus (x : TFrac) (r : TFrac) (hm : m_R02_minus x = some r) : Does Try.prog 59 [.agg (TFrac.c x)] (fun x => x = .agg (TFrac.c r)) := by
  refine does_y (X := ⟨Try.prog, tt, Try.f59.ntmps, [], [], [], []⟩) pok _ Try.func59 rfl rfl (Nat.le_of_ble_eq_true rfl) ?_
  cases hm
  exact RetY.le (leD.refl _)

def m_R02_between (a : TFrac) (b_ : TFrac) (at_ : (Int × Int × Int)) : Option TFrac :=
  Option.bind (m_R02_frac (W ((W ((W (a.Num * b_.Den)) * (W (at_.2.1 - at_.1)))) + (W ((W ((W (b_.Num * a.Den)) - (W (a.Num * b_.Den)))) * (W (at_.2.2 - at_.1)))))) (W ((W (a.Den * b_.Den)) * (W (at_.2.1 - at_.1))))) fun x1 =>
  some x1
set_option maxRecDepth 100000 in
set_option maxHeartbeats 2000000 in
theorem d_R02_between (a : TFrac) (b_ : TFrac) (at_ : (Int × Int × Int)) (r : TFrac) (hm : m_R02_between a b_ at_ = some r) : Does Try.prog 128 [.agg (TFrac.c a), .agg (TFrac.c b_), .agg [DI at_.1, DI at_.2.1, DI at_.2.2]] (fun x => x = .agg (TFrac.c r)) := by
  refine does_y (X := ⟨Try.prog, tt, Try.f128.ntmps, [], [], [], []⟩) pok _ Try.func128 rfl rfl (Nat.le_of_ble_eq_true rfl) ?_
  refine ⟨by decide, ?_⟩
  refine ⟨by decide, ?_⟩
  refine ⟨by decide, ?_⟩
  obtain ⟨x1, hx2, hm⟩ := bd_some hm
  refine CallY.det (d_R02_frac (W ((W ((W (a.Num * b_.Den)) * (W (at_.2.1 - at_.1)))) + (W ((W ((W (b_.Num * a.Den)) - (W (a.Num * b_.Den)))) * (W (at_.2.2 - at_.1)))))) (W ((W (a.Den * b_.Den)) * (W (at_.2.1 - at_.1)))) _ hx2) ?_
  cases hm
  exact RetY.le (leD.refl _)

def m_R02_place_L1 (s : TSheet) (t : Int) : Int → Option (Sum Int Int) := fun i5 =>
  if (decide ((W (i5 + 2)) < (s.Rows.length : Int))) = true then
    Option.bind (idx s.Rows (W (i5 + 1))) fun e11 =>
    if (decide (e11.Minute ≤ t)) = true then
      some (.inl (W (i5 + 1)))
    else
      some (.inr i5)
  else
    some (.inr i5)
def m_R02_place (s : TSheet) (t : Int) : Option (TFrac × TFrac) :=
  Option.bind (loopF (m_R02_place_L1 s t) 0) fun i14 =>
  Option.bind (idx s.Rows i14) fun e15 =>
  Option.bind (idx s.Rows (W (i14 + 1))) fun e17 =>
  Option.bind (m_R02_between e15.Height e17.Height (e15.Minute, e17.Minute, t)) fun x19 =>
  Option.bind (m_R02_between e15.Bearing e17.Bearing (e15.Minute, e17.Minute, t)) fun x21 =>
  some (x19, x21)
set_option maxRecDepth 100000 in
set_option maxHeartbeats 2000000 in
theorem d_R02_place (s : TSheet) (t : Int) (r : (TFrac × TFrac)) (hm : m_R02_place s t = some r) : Does Try.prog 81 [.agg (TSheet.c s), DI t] (fun x => x = .tup [.agg (TFrac.c r.1), .agg (TFrac.c r.2)]) := by
  refine does_y (X := ⟨Try.prog, tt, Try.f81.ntmps, pl81, [], [], []⟩) pok _ Try.func81 rfl rfl (Nat.le_of_ble_eq_true rfl) ?_
  obtain ⟨ev23, he, hk24⟩ := bd_some hm
  refine LoopY.of (fun (lpx : Nat × Int) => match lpx with | (fu25, i5) => (⟨[(0, .agg [DI s.Source, DI s.Night, DI s.Known, DI s.Until, .lst 5 s.Rows.length (s.Rows.flatMap TRow.c), DI s.Off.Num, DI s.Off.Den, DI s.Light.Lo, DI s.Light.Hi]), (1, DI t), (2, .own 0 0), (4, .own 1 0), (5, .own 2 0), (6, DI i5)], [(0, .blk [DI s.Source, DI s.Night, DI s.Known, DI s.Until, .lst 5 s.Rows.length (s.Rows.flatMap TRow.c), DI s.Off.Num, DI s.Off.Den, DI s.Light.Lo, DI s.Light.Hi] 41), (1, .blk [DI 0, DI 0] 37), (2, .blk [DI 0, DI 0] 37)], 3⟩ : Sy)) (fun lpx => loopO (m_R02_place_L1 s t) lpx.1 lpx.2 = some ev23) (fun lpx => lpx.1) (FUEL, 0) (SubY.of 3 rfl ⟨⟨_, rfl, leD.refl _⟩, ⟨_, rfl, leD.refl _⟩, ⟨_, rfl, leD.refl _⟩, ⟨_, rfl, leD.refl _⟩, ⟨_, rfl, leD.refl _⟩, ⟨_, rfl, leD.refl _⟩, trivial⟩ ⟨⟨_, rfl, leDL.refl _⟩, ⟨_, rfl, leDL.refl _⟩, ⟨_, rfl, leDL.refl _⟩, trivial⟩) he ?_
  rintro ⟨fu25, i5⟩ hi26
  obtain ⟨fu25, b, rfl, hm, hi26⟩ := loop_step hi26
  refine VIf.mk (fun (h27 : (decide ((W (i5 + 2)) < (s.Rows.length : Int))) = true) => ?_) (fun (h27 : (decide ((W (i5 + 2)) < (s.Rows.length : Int))) = false) => ?_)
  · replace hm := if_t h27 hm
    obtain ⟨e28, hx29, hm⟩ := bd_some hm
    refine ⟨_, el_idx (fun _ => rfl) hx29, ?_⟩
    refine VIf.mk (fun (h30 : (decide (e28.Minute ≤ t)) = true) => ?_) (fun (h30 : (decide (e28.Minute ≤ t)) = false) => ?_)
    · replace hm := if_t h30 hm
      cases hm
      exact ⟨(fu25, (W (i5 + 1))), SubY.of 3 rfl ⟨⟨_, rfl, leD.refl _⟩, ⟨_, rfl, leD.refl _⟩, ⟨_, rfl, leD.refl _⟩, ⟨_, rfl, leD.refl _⟩, ⟨_, rfl, leD.refl _⟩, ⟨_, rfl, leD.refl _⟩, trivial⟩ ⟨⟨_, rfl, leDL.refl _⟩, ⟨_, rfl, leDL.refl _⟩, ⟨_, rfl, leDL.refl _⟩, trivial⟩, hi26, Nat.lt_succ_self _⟩
    · replace hm := if_f h30 hm
      cases hm
      cases hi26
      have hm := hk24
      obtain ⟨e31, hx32, hm⟩ := bd_some hm
      refine ⟨_, el_idx (fun _ => rfl) hx32, ?_⟩
      obtain ⟨e33, hx34, hm⟩ := bd_some hm
      refine ⟨_, el_idx (fun _ => rfl) hx34, ?_⟩
      obtain ⟨x35, hx36, hm⟩ := bd_some hm
      refine CallY.det (d_R02_between e31.Height e33.Height (e31.Minute, e33.Minute, t) _ hx36) ?_
      obtain ⟨x37, hx38, hm⟩ := bd_some hm
      refine CallY.det (d_R02_between e31.Bearing e33.Bearing (e31.Minute, e33.Minute, t) _ hx38) ?_
      refine ⟨rfl, ?_⟩
      cases hm
      exact RetY.le (leD.refl _)
  · replace hm := if_f h27 hm
    cases hm
    cases hi26
    have hm := hk24
    obtain ⟨e39, hx40, hm⟩ := bd_some hm
    refine ⟨_, el_idx (fun _ => rfl) hx40, ?_⟩
    obtain ⟨e41, hx42, hm⟩ := bd_some hm
    refine ⟨_, el_idx (fun _ => rfl) hx42, ?_⟩
    obtain ⟨x43, hx44, hm⟩ := bd_some hm
    refine CallY.det (d_R02_between e39.Height e41.Height (e39.Minute, e41.Minute, t) _ hx44) ?_
    obtain ⟨x45, hx46, hm⟩ := bd_some hm
    refine CallY.det (d_R02_between e39.Bearing e41.Bearing (e39.Minute, e41.Minute, t) _ hx46) ?_
    refine ⟨rfl, ?_⟩
    cases hm
    exact RetY.le (leD.refl _)

def m_R02_horizon_L1 (l : (List TRoof)) (g : TFrac) : (Int × Int) → Option (Sum (Int × Int) (Int × Int)) := fun (top18, i19) =>
  if (decide (i19 < (l.length : Int))) = true then
    Option.bind (idx l i19) fun e38 =>
    Option.bind (m_R02_whole e38.From) fun x40 =>
    Option.bind (m_R02_sign x40 g) fun x42 =>
    if (decide (x42 ≤ 0)) = true then
      Option.bind (idx l i19) fun e45 =>
      Option.bind (m_R02_whole e45.To) fun x47 =>
      Option.bind (m_R02_sign g x47) fun x49 =>
      if (decide (x49 < 0)) = true then
        Option.bind (idx l i19) fun e52 =>
        some (.inl ((if e52.Top > top18 then e52.Top else top18), (W (i19 + 1))))
      else
        some (.inl (top18, (W (i19 + 1))))
    else
      some (.inl (top18, (W (i19 + 1))))
  else
    some (.inr (top18, i19))
def m_R02_horizon (l : (List TRoof)) (g : TFrac) : Option Int :=
  Option.bind (loopF (m_R02_horizon_L1 l g) (0, 0)) fun (top54, i55) =>
  some top54
set_option maxRecDepth 100000 in
set_option maxHeartbeats 2000000 in
theorem d_R02_horizon (l : (List TRoof)) (g : TFrac) (r : Int) (hm : m_R02_horizon l g = some r) : Does Try.prog 86 [.lst 3 l.length (l.flatMap TRoof.c), .agg (TFrac.c g)] (fun x => x = DI r) := by
  refine does_y (X := ⟨Try.prog, tt, Try.f86.ntmps, pl86, [], [], []⟩) pok _ Try.func86 rfl rfl (Nat.le_of_ble_eq_true rfl) ?_
  obtain ⟨ev56, he, hk57⟩ := bd_some hm
  refine LoopY.of (fun (lpx : Nat × (Int × Int)) => match lpx with | (fu58, top18, i19) => (⟨[(0, .lst 3 l.length (l.flatMap TRoof.c)), (1, .agg [DI g.Num, DI g.Den]), (3, .own 0 0), (4, DI 0), (5, DI top18), (6, DI i19)], [(0, .blk [DI g.Num, DI g.Den] 37)], 1⟩ : Sy)) (fun lpx => loopO (m_R02_horizon_L1 l g) lpx.1 lpx.2 = some ev56) (fun lpx => lpx.1) (FUEL, (0, 0)) (SubY.of 1 rfl ⟨⟨_, rfl, leD.refl _⟩, ⟨_, rfl, leD.refl _⟩, ⟨_, rfl, leD.refl _⟩, ⟨_, rfl, leD.refl _⟩, ⟨_, rfl, leD.refl _⟩, ⟨_, rfl, leD.refl _⟩, trivial⟩ ⟨⟨_, rfl, leDL.refl _⟩, trivial⟩) he ?_
  rintro ⟨fu58, top18, i19⟩ hi59
  obtain ⟨fu58, b, rfl, hm, hi59⟩ := loop_step hi59
  refine VIf.mk (fun (h60 : (decide (i19 < (l.length : Int))) = true) => ?_) (fun (h60 : (decide (i19 < (l.length : Int))) = false) => ?_)
  · replace hm := if_t h60 hm
    refine ⟨rfl, ?_⟩
    obtain ⟨e61, hx62, hm⟩ := bd_some hm
    refine ⟨_, el_idx (fun _ => rfl) hx62, ?_⟩
    obtain ⟨x63, hx64, hm⟩ := bd_some hm
    refine CallY.det (d_R02_whole e61.From _ hx64) ?_
    obtain ⟨x65, hx66, hm⟩ := bd_some hm
    refine CallY.det (d_R02_sign x63 g _ hx66) ?_
    refine VIf.mk (fun (h67 : (decide (x65 ≤ 0)) = true) => ?_) (fun (h67 : (decide (x65 ≤ 0)) = false) => ?_)
    · replace hm := if_t h67 hm
      obtain ⟨e68, hx69, hm⟩ := bd_some hm
      refine ⟨_, el_idx (fun _ => rfl) hx69, ?_⟩
      obtain ⟨x70, hx71, hm⟩ := bd_some hm
      refine CallY.det (d_R02_whole e68.To _ hx71) ?_
      obtain ⟨x72, hx73, hm⟩ := bd_some hm
      refine CallY.det (d_R02_sign g x70 _ hx73) ?_
      refine VIf.mk (fun (h74 : (decide (x72 < 0)) = true) => ?_) (fun (h74 : (decide (x72 < 0)) = false) => ?_)
      · replace hm := if_t h74 hm
        obtain ⟨e75, hx76, hm⟩ := bd_some hm
        refine ⟨_, el_idx (fun _ => rfl) hx76, ?_⟩
        cases hm
        exact ⟨(fu58, ((if e75.Top > top18 then e75.Top else top18), (W (i19 + 1)))), SubY.of 1 rfl ⟨⟨_, rfl, leD.refl _⟩, ⟨_, rfl, leD.refl _⟩, ⟨_, rfl, leD.refl _⟩, ⟨_, rfl, leD.refl _⟩, ⟨_, rfl, leD.refl _⟩, ⟨_, rfl, leD.refl _⟩, trivial⟩ ⟨⟨_, rfl, leDL.refl _⟩, trivial⟩, hi59, Nat.lt_succ_self _⟩
      · replace hm := if_f h74 hm
        cases hm
        exact ⟨(fu58, (top18, (W (i19 + 1)))), SubY.of 1 rfl ⟨⟨_, rfl, leD.refl _⟩, ⟨_, rfl, leD.refl _⟩, ⟨_, rfl, leD.refl _⟩, ⟨_, rfl, leD.refl _⟩, ⟨_, rfl, leD.refl _⟩, ⟨_, rfl, leD.refl _⟩, trivial⟩ ⟨⟨_, rfl, leDL.refl _⟩, trivial⟩, hi59, Nat.lt_succ_self _⟩
    · replace hm := if_f h67 hm
      cases hm
      exact ⟨(fu58, (top18, (W (i19 + 1)))), SubY.of 1 rfl ⟨⟨_, rfl, leD.refl _⟩, ⟨_, rfl, leD.refl _⟩, ⟨_, rfl, leD.refl _⟩, ⟨_, rfl, leD.refl _⟩, ⟨_, rfl, leD.refl _⟩, ⟨_, rfl, leD.refl _⟩, trivial⟩ ⟨⟨_, rfl, leDL.refl _⟩, trivial⟩, hi59, Nat.lt_succ_self _⟩
  · replace hm := if_f h60 hm
    cases hm
    cases hi59
    have hm := hk57
    cases hm
    exact RetY.le (leD.refl _)

def m_R02_less (x : TFrac) (n : Int) : Option TFrac :=
  Option.bind (m_R02_frac (W (x.Num - (W (n * x.Den)))) x.Den) fun x1 =>
  some x1
set_option maxRecDepth 100000 in
set_option maxHeartbeats 2000000 in
theorem d_R02_less (x : TFrac) (n : Int) (r : TFrac) (hm : m_R02_less x n = some r) : Does Try.prog 114 [.agg (TFrac.c x), DI n] (fun x => x = .agg (TFrac.c r)) := by
  refine does_y (X := ⟨Try.prog, tt, Try.f114.ntmps, [], [], [], []⟩) pok _ Try.func114 rfl rfl (Nat.le_of_ble_eq_true rfl) ?_
  obtain ⟨x1, hx2, hm⟩ := bd_some hm
  refine CallY.det (d_R02_frac (W (x.Num - (W (n * x.Den)))) x.Den _ hx2) ?_
  cases hm
  exact RetY.le (leD.refl _)

def m_R02_margin (s : TSheet) (l : (List TRoof)) (t : Int) : Option TFrac :=
  Option.bind (m_R02_place s t) fun ⟨x1, x2⟩ =>
  Option.bind (m_R02_horizon l x2) fun x4 =>
  Option.bind (m_R02_less x1 x4) fun x6 =>
  some x6
set_option maxRecDepth 100000 in
set_option maxHeartbeats 2000000 in
theorem d_R02_margin (s : TSheet) (l : (List TRoof)) (t : Int) (r : TFrac) (hm : m_R02_margin s l t = some r) : Does Try.prog 60 [.agg (TSheet.c s), .lst 3 l.length (l.flatMap TRoof.c), DI t] (fun x => x = .agg (TFrac.c r)) := by
  refine does_y (X := ⟨Try.prog, tt, Try.f60.ntmps, pl60, [], [], []⟩) pok _ Try.func60 rfl rfl (Nat.le_of_ble_eq_true rfl) ?_
  obtain ⟨⟨x1, x2⟩, hx3, hm⟩ := bd_some hm
  refine CallY.det (d_R02_place s t _ hx3) ?_
  refine ⟨rfl, ?_⟩
  obtain ⟨x4, hx5, hm⟩ := bd_some hm
  refine CallY.det (d_R02_horizon l x2 _ hx5) ?_
  obtain ⟨x6, hx7, hm⟩ := bd_some hm
  refine CallY.det (d_R02_less x1 x4 _ hx7) ?_
  cases hm
  exact RetY.le (leD.refl _)

def m_R02_Made_L1 (r_ : TRaw) : (Int × (List TSheet) × (List TSheet)) → Option (Sum (Int × (List TSheet) × (List TSheet)) (Int × (List TSheet) × (List TSheet))) := fun (i29, v30, v31) =>
  if (decide (i29 < (r_.Sheets.length : Int))) = true then
    if (decide (i29 < 3)) = true then
      Option.bind (idx r_.Sheets i29) fun e63 =>
      Option.bind (m_R02_Mod e63.1 2) fun x65 =>
      Option.bind (m_R02_Mod e63.2.1 10) fun x67 =>
      Option.bind (m_R02_Mod e63.2.2.1 40) fun x69 =>
      Option.bind (m_R02_Mod (W (e63.2.2.1.tdiv 40)) 9) fun x71 =>
      Option.bind (m_R02_frac x69 (W (1 + x71))) fun x73 =>
      Option.bind (m_R02_Mod e63.2.2.2 500) fun x75 =>
      Option.bind (m_R02_Mod e63.2.2.2 500) fun x77 =>
      Option.bind (m_R02_Mod (W (e63.2.2.2.tdiv 500)) 400) fun x79 =>
      if (decide ((r_.Rows.length : Int) > 0)) = true then
        Option.bind (m_R02_Mod i29 (r_.Rows.length : Int)) fun x82 =>
        Option.bind (idx r_.Rows x82) fun e84 =>
        Option.bind (m_R02_rows e84) fun x86 =>
        gd ((v31.length + ([(⟨(W ((W (3 * i29)) + 2)), (W (x65 + 5)), x67, 0, x86, x73, (⟨x75, (W (x77 + x79))⟩ : TRange)⟩ : TSheet)] : List TSheet).length) * 88 ≤ 140737488355328 ∧ v31.length + ([(⟨(W ((W (3 * i29)) + 2)), (W (x65 + 5)), x67, 0, x86, x73, (⟨x75, (W (x77 + x79))⟩ : TRange)⟩ : TSheet)] : List TSheet).length ≤ 9223372036854775807) <|
        some (.inl ((W (i29 + 1)), v30, (v31 ++ ([(⟨(W ((W (3 * i29)) + 2)), (W (x65 + 5)), x67, 0, x86, x73, (⟨x75, (W (x77 + x79))⟩ : TRange)⟩ : TSheet)] : List TSheet))))
      else
        Option.bind (m_R02_rows []) fun x88 =>
        gd ((v31.length + ([(⟨(W ((W (3 * i29)) + 2)), (W (x65 + 5)), x67, 0, x88, x73, (⟨x75, (W (x77 + x79))⟩ : TRange)⟩ : TSheet)] : List TSheet).length) * 88 ≤ 140737488355328 ∧ v31.length + ([(⟨(W ((W (3 * i29)) + 2)), (W (x65 + 5)), x67, 0, x88, x73, (⟨x75, (W (x77 + x79))⟩ : TRange)⟩ : TSheet)] : List TSheet).length ≤ 9223372036854775807) <|
        some (.inl ((W (i29 + 1)), v30, (v31 ++ ([(⟨(W ((W (3 * i29)) + 2)), (W (x65 + 5)), x67, 0, x88, x73, (⟨x75, (W (x77 + x79))⟩ : TRange)⟩ : TSheet)] : List TSheet))))
    else
      some (.inr (i29, v30, v31))
  else
    some (.inr (i29, v30, v31))
def m_R02_Made_L2 (r_ : TRaw) : (Int × (List TRoof)) → Option (Sum (Int × (List TRoof)) (Int × (List TRoof))) := fun (i102, v103) =>
  if (decide (i102 < (r_.Roofs.length : Int))) = true then
    if (decide (i102 < 5)) = true then
      Option.bind (idx r_.Roofs i102) fun e116 =>
      Option.bind (m_R02_Mod e116.1 300) fun x118 =>
      Option.bind (m_R02_Mod e116.2.1 59) fun x120 =>
      Option.bind (m_R02_Mod e116.2.2 30) fun x122 =>
      gd ((v103.length + ([(⟨x118, (W ((W (x118 + 1)) + x120)), x122⟩ : TRoof)] : List TRoof).length) * 24 ≤ 140737488355328 ∧ v103.length + ([(⟨x118, (W ((W (x118 + 1)) + x120)), x122⟩ : TRoof)] : List TRoof).length ≤ 9223372036854775807) <|
      some (.inl ((W (i102 + 1)), (v103 ++ ([(⟨x118, (W ((W (x118 + 1)) + x120)), x122⟩ : TRoof)] : List TRoof))))
    else
      some (.inr (i102, v103))
  else
    some (.inr (i102, v103))
def m_R02_Made_L3 (r_ : TRaw) (v92 : (List TSheet)) (v125 : (List TRoof)) : (Int × (List TSighting) × (List TSighting)) → Option (Sum (Int × (List TSighting) × (List TSighting)) (Int × (List TSighting) × (List TSighting))) := fun (i157, v158, v159) =>
  if (decide (i157 < (r_.Sightings.length : Int))) = true then
    if (decide (i157 < 6)) = true then
      Option.bind (idx r_.Sightings i157) fun e194 =>
      Option.bind (m_R02_Mod e194.1 2) fun x196 =>
      Option.bind (m_R02_Mod e194.2.1 1440) fun x198 =>
      Option.bind (m_R02_Mod e194.2.2.2 20) fun x200 =>
      Option.bind (m_R02_inForce (⟨v92, v125, v159⟩ : TSky) (W (x196 + 5)) 20) fun x202 =>
      if (decide (x202 < 0)) = true then
        some (.inl ((W (i157 + 1)), v158, v159))
      else
        Option.bind (idx v92 x202) fun e205 =>
        Option.bind (idx v92 x202) fun e207 =>
        Option.bind (m_R02_True e207 r_.Off) fun x209 =>
        Option.bind (idx v92 x202) fun e211 =>
        Option.bind (idx v92 x202) fun e213 =>
        Option.bind (m_R02_margin e213 v125 x198) fun x215 =>
        Option.bind (m_R02_minus x215) fun x217 =>
        Option.bind (m_R02_sign x209 x217) fun x219 =>
        Option.bind (m_R02_Mod e194.2.2.1 9) fun x221 =>
        if (x221 == 8) = true then
          gd ((v159.length + ([(⟨(W ((W (5 * i157)) + 40)), (W (x196 + 5)), x198, (!(decide (x219 > 0))), x200, 0⟩ : TSighting)] : List TSighting).length) * 48 ≤ 140737488355328 ∧ v159.length + ([(⟨(W ((W (5 * i157)) + 40)), (W (x196 + 5)), x198, (!(decide (x219 > 0))), x200, 0⟩ : TSighting)] : List TSighting).length ≤ 9223372036854775807) <|
          some (.inl ((W (i157 + 1)), v158, (v159 ++ ([(⟨(W ((W (5 * i157)) + 40)), (W (x196 + 5)), x198, (!(decide (x219 > 0))), x200, 0⟩ : TSighting)] : List TSighting))))
        else
          gd ((v159.length + ([(⟨(W ((W (5 * i157)) + 40)), (W (x196 + 5)), x198, (decide (x219 > 0)), x200, 0⟩ : TSighting)] : List TSighting).length) * 48 ≤ 140737488355328 ∧ v159.length + ([(⟨(W ((W (5 * i157)) + 40)), (W (x196 + 5)), x198, (decide (x219 > 0)), x200, 0⟩ : TSighting)] : List TSighting).length ≤ 9223372036854775807) <|
          some (.inl ((W (i157 + 1)), v158, (v159 ++ ([(⟨(W ((W (5 * i157)) + 40)), (W (x196 + 5)), x198, (decide (x219 > 0)), x200, 0⟩ : TSighting)] : List TSighting))))
    else
      some (.inr (i157, v158, v159))
  else
    some (.inr (i157, v158, v159))
def m_R02_Made (r_ : TRaw) : Option TSky :=
  Option.bind (loopF (m_R02_Made_L1 r_) (0, [], [])) fun (i90, v91, v92) =>
  Option.bind (loopF (m_R02_Made_L2 r_) (0, [])) fun (i124, v125) =>
  Option.bind (loopF (m_R02_Made_L3 r_ v92 v125) (0, [], [])) fun (i224, v225, v226) =>
  some (⟨v92, v125, v226⟩ : TSky)
set_option maxRecDepth 100000 in
set_option maxHeartbeats 2000000 in
theorem d_R02_Made (r_ : TRaw) (r : TSky) (hm : m_R02_Made r_ = some r) : Does Try.prog 13 [.agg (TRaw.c r_)] (fun x => x = .agg (TSky.c r)) := by
  refine does_y (X := ⟨Try.prog, tt, Try.f13.ntmps, pl13, [], [], []⟩) pok _ Try.func13 rfl rfl (Nat.le_of_ble_eq_true rfl) ?_
  obtain ⟨ev551, he, hk552⟩ := bd_some hm
  refine LoopY.of (fun (lpx : Nat × (Int × (List TSheet) × (List TSheet))) => match lpx with | (fu553, i29, v30, v31) => (⟨[(0, .agg [.lst 1 r_.Rows.length (r_.Rows.flatMap (fun (x : (List (Int × Int × Int × Int))) => [.lst 4 x.length (x.flatMap (fun (x : (Int × Int × Int × Int)) => [DI x.1, DI x.2.1, DI x.2.2.1, DI x.2.2.2]))])), .lst 4 r_.Sheets.length (r_.Sheets.flatMap (fun (x : (Int × Int × Int × Int)) => [DI x.1, DI x.2.1, DI x.2.2.1, DI x.2.2.2])), .lst 3 r_.Roofs.length (r_.Roofs.flatMap (fun (x : (Int × Int × Int)) => [DI x.1, DI x.2.1, DI x.2.2])), .lst 4 r_.Sightings.length (r_.Sightings.flatMap (fun (x : (Int × Int × Int × Int)) => [DI x.1, DI x.2.1, DI x.2.2.1, DI x.2.2.2])), DI r_.Off]), (1, .own 0 0), (2, .own 1 0), (3, .own 2 0), (4, DI i29)], [(0, .blk [.lst 1 r_.Rows.length (r_.Rows.flatMap (fun (x : (List (Int × Int × Int × Int))) => [.lst 4 x.length (x.flatMap (fun (x : (Int × Int × Int × Int)) => [DI x.1, DI x.2.1, DI x.2.2.1, DI x.2.2.2]))])), .lst 4 r_.Sheets.length (r_.Sheets.flatMap (fun (x : (Int × Int × Int × Int)) => [DI x.1, DI x.2.1, DI x.2.2.1, DI x.2.2.2])), .lst 3 r_.Roofs.length (r_.Roofs.flatMap (fun (x : (Int × Int × Int)) => [DI x.1, DI x.2.1, DI x.2.2])), .lst 4 r_.Sightings.length (r_.Sightings.flatMap (fun (x : (Int × Int × Int × Int)) => [DI x.1, DI x.2.1, DI x.2.2.1, DI x.2.2.2])), DI r_.Off] 26), (1, .blk [.v (.slice none 0 0), .v (.slice none 0 0), .v (.slice none 0 0)] 32), (2, .blk [.row 4 9, .v (.slice none 0 0), .v (.slice none 0 0)] 32), (3, .row 9 v30.length (v30.flatMap TSheet.c) 41), (4, .row 9 v31.length (v31.flatMap TSheet.c) 41)], 5⟩ : Sy)) (fun lpx => loopO (m_R02_Made_L1 r_) lpx.1 lpx.2 = some ev551) (fun lpx => lpx.1) (FUEL, (0, [], [])) (SubY.of 3 rfl ⟨⟨_, rfl, leD.refl _⟩, ⟨_, rfl, leD.refl _⟩, ⟨_, rfl, leD.refl _⟩, ⟨_, rfl, leD.refl _⟩, ⟨_, rfl, leD.refl _⟩, trivial⟩ ⟨⟨_, rfl, leDL.refl _⟩, ⟨_, rfl, leDL.refl _⟩, ⟨_, rfl, leDL.refl _⟩, ⟨rfl, rfl⟩, ⟨rfl, rfl⟩, trivial⟩) he ?_
  rintro ⟨fu553, i29, v30, v31⟩ hi554
  obtain ⟨fu553, b, rfl, hm, hi554⟩ := loop_step hi554
  refine VIf.mk (fun (h555 : (decide (i29 < (r_.Sheets.length : Int))) = true) => ?_) (fun (h555 : (decide (i29 < (r_.Sheets.length : Int))) = false) => ?_)
  · replace hm := if_t h555 hm
    refine VIf.mk (fun (h556 : (decide (i29 < 3)) = true) => ?_) (fun (h556 : (decide (i29 < 3)) = false) => ?_)
    · replace hm := if_t h556 hm
      obtain ⟨e557, hx558, hm⟩ := bd_some hm
      refine ⟨_, el_idx (fun _ => rfl) hx558, ?_⟩
      refine ⟨rfl, ?_⟩
      refine ⟨by decide, ?_⟩
      refine ⟨by decide, ?_⟩
      refine ⟨by decide, ?_⟩
      refine ⟨by decide, ?_⟩
      refine ⟨by decide, ?_⟩
      refine ⟨by decide, ?_⟩
      refine ⟨by decide, ?_⟩
      refine ⟨by decide, ?_⟩
      refine ⟨by decide, ?_⟩
      obtain ⟨x559, hx560, hm⟩ := bd_some hm
      refine CallY.det (d_R02_Mod e557.1 2 _ hx560) ?_
      obtain ⟨x561, hx562, hm⟩ := bd_some hm
      refine CallY.det (d_R02_Mod e557.2.1 10 _ hx562) ?_
      obtain ⟨x563, hx564, hm⟩ := bd_some hm
      refine CallY.det (d_R02_Mod e557.2.2.1 40 _ hx564) ?_
      obtain ⟨x565, hx566, hm⟩ := bd_some hm
      refine CallY.det (d_R02_Mod (W (e557.2.2.1.tdiv 40)) 9 _ hx566) ?_
      obtain ⟨x567, hx568, hm⟩ := bd_some hm
      refine CallY.det (d_R02_frac x563 (W (1 + x565)) _ hx568) ?_
      obtain ⟨x569, hx570, hm⟩ := bd_some hm
      refine CallY.det (d_R02_Mod e557.2.2.2 500 _ hx570) ?_
      obtain ⟨x571, hx572, hm⟩ := bd_some hm
      refine CallY.det (d_R02_Mod e557.2.2.2 500 _ hx572) ?_
      obtain ⟨x573, hx574, hm⟩ := bd_some hm
      refine CallY.det (d_R02_Mod (W (e557.2.2.2.tdiv 500)) 400 _ hx574) ?_
      refine VIf.mk (fun (h575 : (decide ((r_.Rows.length : Int) > 0)) = true) => ?_) (fun (h575 : (decide ((r_.Rows.length : Int) > 0)) = false) => ?_)
      · replace hm := if_t h575 hm
        refine ⟨rfl, ?_⟩
        obtain ⟨x576, hx577, hm⟩ := bd_some hm
        refine CallY.det (d_R02_Mod i29 ((r_.Rows.length : Int)) _ hx577) ?_
        obtain ⟨e578, hx579, hm⟩ := bd_some hm
        refine ⟨_, el_idx (fun _ => rfl) hx579, ?_⟩
        obtain ⟨x580, hx581, hm⟩ := bd_some hm
        refine CallY.det (d_R02_rows e578 _ hx581) ?_
        refine ⟨([(⟨(W ((W (3 * i29)) + 2)), (W (x559 + 5)), x561, 0, x580, x567, (⟨x569, (W (x571 + x573))⟩ : TRange)⟩ : TSheet)] : List TSheet).flatMap TSheet.c, ([(⟨(W ((W (3 * i29)) + 2)), (W (x559 + 5)), x561, 0, x580, x567, (⟨x569, (W (x571 + x573))⟩ : TRange)⟩ : TSheet)] : List TSheet).length, ⟨rfl, rfl⟩, ?_⟩
        obtain ⟨hg, hm⟩ := gd_some hm
        refine ⟨hg, _, _, flat_app (c := TSheet.c) (l := (v31 : List TSheet)) (r := (([(⟨(W ((W (3 * i29)) + 2)), (W (x559 + 5)), x561, 0, x580, x567, (⟨x569, (W (x571 + x573))⟩ : TRange)⟩ : TSheet)] : List TSheet) : List TSheet)), ?_⟩
        cases hm
        exact ⟨(fu553, ((W (i29 + 1)), v30, (v31 ++ ([(⟨(W ((W (3 * i29)) + 2)), (W (x559 + 5)), x561, 0, x580, x567, (⟨x569, (W (x571 + x573))⟩ : TRange)⟩ : TSheet)] : List TSheet)))), SubY.of 5 rfl ⟨⟨_, rfl, leD.refl _⟩, ⟨_, rfl, leD.refl _⟩, ⟨_, rfl, leD.refl _⟩, ⟨_, rfl, leD.refl _⟩, ⟨_, rfl, leD.refl _⟩, trivial⟩ ⟨⟨_, rfl, leDL.refl _⟩, ⟨_, rfl, leDL.refl _⟩, ⟨_, rfl, leDL.refl _⟩, ⟨_, _, rfl, (by first | rfl | simp), rfl⟩, ⟨_, _, rfl, (by first | rfl | simp), rfl⟩, trivial⟩, hi554, Nat.lt_succ_self _⟩
      · replace hm := if_f h575 hm
        obtain ⟨x582, hx583, hm⟩ := bd_some hm
        refine CallY.det ((d_R02_rows [] _ hx583).le ⟨leD.nil, trivial⟩) ?_
        refine ⟨([(⟨(W ((W (3 * i29)) + 2)), (W (x559 + 5)), x561, 0, x582, x567, (⟨x569, (W (x571 + x573))⟩ : TRange)⟩ : TSheet)] : List TSheet).flatMap TSheet.c, ([(⟨(W ((W (3 * i29)) + 2)), (W (x559 + 5)), x561, 0, x582, x567, (⟨x569, (W (x571 + x573))⟩ : TRange)⟩ : TSheet)] : List TSheet).length, ⟨rfl, rfl⟩, ?_⟩
        obtain ⟨hg, hm⟩ := gd_some hm
        refine ⟨hg, _, _, flat_app (c := TSheet.c) (l := (v31 : List TSheet)) (r := (([(⟨(W ((W (3 * i29)) + 2)), (W (x559 + 5)), x561, 0, x582, x567, (⟨x569, (W (x571 + x573))⟩ : TRange)⟩ : TSheet)] : List TSheet) : List TSheet)), ?_⟩
        cases hm
        exact ⟨(fu553, ((W (i29 + 1)), v30, (v31 ++ ([(⟨(W ((W (3 * i29)) + 2)), (W (x559 + 5)), x561, 0, x582, x567, (⟨x569, (W (x571 + x573))⟩ : TRange)⟩ : TSheet)] : List TSheet)))), SubY.of 5 rfl ⟨⟨_, rfl, leD.refl _⟩, ⟨_, rfl, leD.refl _⟩, ⟨_, rfl, leD.refl _⟩, ⟨_, rfl, leD.refl _⟩, ⟨_, rfl, leD.refl _⟩, trivial⟩ ⟨⟨_, rfl, leDL.refl _⟩, ⟨_, rfl, leDL.refl _⟩, ⟨_, rfl, leDL.refl _⟩, ⟨_, _, rfl, (by first | rfl | simp), rfl⟩, ⟨_, _, rfl, (by first | rfl | simp), rfl⟩, trivial⟩, hi554, Nat.lt_succ_self _⟩
    · replace hm := if_f h556 hm
      cases hm
      cases hi554
      have hm := hk552
      obtain ⟨ev754, he, hk755⟩ := bd_some hm
      refine LoopY.of (fun (lpx : Nat × (Int × (List TRoof))) => match lpx with | (fu756, i593, v594) => (⟨[(0, .agg [.lst 1 r_.Rows.length (r_.Rows.flatMap (fun (x : (List (Int × Int × Int × Int))) => [.lst 4 x.length (x.flatMap (fun (x : (Int × Int × Int × Int)) => [DI x.1, DI x.2.1, DI x.2.2.1, DI x.2.2.2]))])), .lst 4 r_.Sheets.length (r_.Sheets.flatMap (fun (x : (Int × Int × Int × Int)) => [DI x.1, DI x.2.1, DI x.2.2.1, DI x.2.2.2])), .lst 3 r_.Roofs.length (r_.Roofs.flatMap (fun (x : (Int × Int × Int)) => [DI x.1, DI x.2.1, DI x.2.2])), .lst 4 r_.Sightings.length (r_.Sightings.flatMap (fun (x : (Int × Int × Int × Int)) => [DI x.1, DI x.2.1, DI x.2.2.1, DI x.2.2.2])), DI r_.Off]), (1, .own 0 0), (2, .own 1 0), (3, .own 2 0), (4, DI i29), (8, DI i593), (24, DB (decide (i29 < 3)))], [(0, .blk [.lst 1 r_.Rows.length (r_.Rows.flatMap (fun (x : (List (Int × Int × Int × Int))) => [.lst 4 x.length (x.flatMap (fun (x : (Int × Int × Int × Int)) => [DI x.1, DI x.2.1, DI x.2.2.1, DI x.2.2.2]))])), .lst 4 r_.Sheets.length (r_.Sheets.flatMap (fun (x : (Int × Int × Int × Int)) => [DI x.1, DI x.2.1, DI x.2.2.1, DI x.2.2.2])), .lst 3 r_.Roofs.length (r_.Roofs.flatMap (fun (x : (Int × Int × Int)) => [DI x.1, DI x.2.1, DI x.2.2])), .lst 4 r_.Sightings.length (r_.Sightings.flatMap (fun (x : (Int × Int × Int × Int)) => [DI x.1, DI x.2.1, DI x.2.2.1, DI x.2.2.2])), DI r_.Off] 26), (1, .blk [.v (.slice none 0 0), .v (.slice none 0 0), .v (.slice none 0 0)] 32), (2, .blk [.row 4 9, .row 5 3, .v (.slice none 0 0)] 32), (3, .row 9 v30.length (v30.flatMap TSheet.c) 41), (4, .row 9 v31.length (v31.flatMap TSheet.c) 41), (5, .row 3 v594.length (v594.flatMap TRoof.c) 58)], 6⟩ : Sy)) (fun lpx => loopO (m_R02_Made_L2 r_) lpx.1 lpx.2 = some ev754) (fun lpx => lpx.1) (FUEL, (0, [])) (SubY.of 5 rfl ⟨⟨_, rfl, leD.refl _⟩, ⟨_, rfl, leD.refl _⟩, ⟨_, rfl, leD.refl _⟩, ⟨_, rfl, leD.refl _⟩, ⟨_, rfl, leD.refl _⟩, ⟨_, rfl, leD.refl _⟩, ⟨_, rfl, leD.refl _⟩, trivial⟩ ⟨⟨_, rfl, leDL.refl _⟩, ⟨_, rfl, leDL.refl _⟩, ⟨_, rfl, leDL.refl _⟩, ⟨_, _, rfl, (by first | rfl | simp), rfl⟩, ⟨_, _, rfl, (by first | rfl | simp), rfl⟩, ⟨rfl, rfl⟩, trivial⟩) he ?_
      rintro ⟨fu756, i593, v594⟩ hi757
      obtain ⟨fu756, b, rfl, hm, hi757⟩ := loop_step hi757
      refine VIf.mk (fun (h758 : (decide (i593 < (r_.Roofs.length : Int))) = true) => ?_) (fun (h758 : (decide (i593 < (r_.Roofs.length : Int))) = false) => ?_)
      · replace hm := if_t h758 hm
        refine VIf.mk (fun (h759 : (decide (i593 < 5)) = true) => ?_) (fun (h759 : (decide (i593 < 5)) = false) => ?_)
        · replace hm := if_t h759 hm
          obtain ⟨e760, hx761, hm⟩ := bd_some hm
          refine ⟨_, el_idx (fun _ => rfl) hx761, ?_⟩
          refine ⟨by decide, ?_⟩
          obtain ⟨x762, hx763, hm⟩ := bd_some hm
          refine CallY.det (d_R02_Mod e760.1 300 _ hx763) ?_
          refine ⟨rfl, ?_⟩
          refine ⟨by decide, ?_⟩
          refine ⟨by decide, ?_⟩
          obtain ⟨x764, hx765, hm⟩ := bd_some hm
          refine CallY.det (d_R02_Mod e760.2.1 59 _ hx765) ?_
          obtain ⟨x766, hx767, hm⟩ := bd_some hm
          refine CallY.det (d_R02_Mod e760.2.2 30 _ hx767) ?_
          refine ⟨([(⟨x762, (W ((W (x762 + 1)) + x764)), x766⟩ : TRoof)] : List TRoof).flatMap TRoof.c, ([(⟨x762, (W ((W (x762 + 1)) + x764)), x766⟩ : TRoof)] : List TRoof).length, ⟨rfl, rfl⟩, ?_⟩
          obtain ⟨hg, hm⟩ := gd_some hm
          refine ⟨hg, _, _, flat_app (c := TRoof.c) (l := (v594 : List TRoof)) (r := (([(⟨x762, (W ((W (x762 + 1)) + x764)), x766⟩ : TRoof)] : List TRoof) : List TRoof)), ?_⟩
          cases hm
          exact ⟨(fu756, ((W (i593 + 1)), (v594 ++ ([(⟨x762, (W ((W (x762 + 1)) + x764)), x766⟩ : TRoof)] : List TRoof)))), SubY.of 6 rfl ⟨⟨_, rfl, leD.refl _⟩, ⟨_, rfl, leD.refl _⟩, ⟨_, rfl, leD.refl _⟩, ⟨_, rfl, leD.refl _⟩, ⟨_, rfl, leD.refl _⟩, ⟨_, rfl, leD.refl _⟩, ⟨_, rfl, leD.refl _⟩, trivial⟩ ⟨⟨_, rfl, leDL.refl _⟩, ⟨_, rfl, leDL.refl _⟩, ⟨_, rfl, leDL.refl _⟩, ⟨_, _, rfl, (by first | rfl | simp), rfl⟩, ⟨_, _, rfl, (by first | rfl | simp), rfl⟩, ⟨_, _, rfl, (by first | rfl | simp), rfl⟩, trivial⟩, hi757, Nat.lt_succ_self _⟩
        · replace hm := if_f h759 hm
          cases hm
          cases hi757
          have hm := hk755
          obtain ⟨ev869, he, hk870⟩ := bd_some hm
          refine LoopY.of (fun (lpx : Nat × (Int × (List TSighting) × (List TSighting))) => match lpx with | (fu871, i799, v800, v801) => (⟨[(0, .agg [.lst 1 r_.Rows.length (r_.Rows.flatMap (fun (x : (List (Int × Int × Int × Int))) => [.lst 4 x.length (x.flatMap (fun (x : (Int × Int × Int × Int)) => [DI x.1, DI x.2.1, DI x.2.2.1, DI x.2.2.2]))])), .lst 4 r_.Sheets.length (r_.Sheets.flatMap (fun (x : (Int × Int × Int × Int)) => [DI x.1, DI x.2.1, DI x.2.2.1, DI x.2.2.2])), .lst 3 r_.Roofs.length (r_.Roofs.flatMap (fun (x : (Int × Int × Int)) => [DI x.1, DI x.2.1, DI x.2.2])), .lst 4 r_.Sightings.length (r_.Sightings.flatMap (fun (x : (Int × Int × Int × Int)) => [DI x.1, DI x.2.1, DI x.2.2.1, DI x.2.2.2])), DI r_.Off]), (1, .own 0 0), (2, .own 1 0), (3, .own 2 0), (4, DI i29), (8, DI i593), (11, DI i799), (24, DB (decide (i29 < 3))), (94, DB (decide (i593 < 5)))], [(0, .blk [.lst 1 r_.Rows.length (r_.Rows.flatMap (fun (x : (List (Int × Int × Int × Int))) => [.lst 4 x.length (x.flatMap (fun (x : (Int × Int × Int × Int)) => [DI x.1, DI x.2.1, DI x.2.2.1, DI x.2.2.2]))])), .lst 4 r_.Sheets.length (r_.Sheets.flatMap (fun (x : (Int × Int × Int × Int)) => [DI x.1, DI x.2.1, DI x.2.2.1, DI x.2.2.2])), .lst 3 r_.Roofs.length (r_.Roofs.flatMap (fun (x : (Int × Int × Int)) => [DI x.1, DI x.2.1, DI x.2.2])), .lst 4 r_.Sightings.length (r_.Sightings.flatMap (fun (x : (Int × Int × Int × Int)) => [DI x.1, DI x.2.1, DI x.2.2.1, DI x.2.2.2])), DI r_.Off] 26), (1, .blk [.v (.slice none 0 0), .v (.slice none 0 0), .v (.slice none 0 0)] 32), (2, .blk [.row 4 9, .row 5 3, .row 7 6] 32), (3, .row 9 v30.length (v30.flatMap TSheet.c) 41), (4, .row 9 v31.length (v31.flatMap TSheet.c) 41), (5, .row 3 v594.length (v594.flatMap TRoof.c) 58), (6, .row 6 v800.length (v800.flatMap TSighting.c) 43), (7, .row 6 v801.length (v801.flatMap TSighting.c) 43)], 8⟩ : Sy)) (fun lpx => loopO (m_R02_Made_L3 r_ v31 v594) lpx.1 lpx.2 = some ev869) (fun lpx => lpx.1) (FUEL, (0, [], [])) (SubY.of 6 rfl ⟨⟨_, rfl, leD.refl _⟩, ⟨_, rfl, leD.refl _⟩, ⟨_, rfl, leD.refl _⟩, ⟨_, rfl, leD.refl _⟩, ⟨_, rfl, leD.refl _⟩, ⟨_, rfl, leD.refl _⟩, ⟨_, rfl, leD.refl _⟩, ⟨_, rfl, leD.refl _⟩, ⟨_, rfl, leD.refl _⟩, trivial⟩ ⟨⟨_, rfl, leDL.refl _⟩, ⟨_, rfl, leDL.refl _⟩, ⟨_, rfl, leDL.refl _⟩, ⟨_, _, rfl, (by first | rfl | simp), rfl⟩, ⟨_, _, rfl, (by first | rfl | simp), rfl⟩, ⟨_, _, rfl, (by first | rfl | simp), rfl⟩, ⟨rfl, rfl⟩, ⟨rfl, rfl⟩, trivial⟩) he ?_
          rintro ⟨fu871, i799, v800, v801⟩ hi872
          obtain ⟨fu871, b, rfl, hm, hi872⟩ := loop_step hi872
          refine VIf.mk (fun (h873 : (decide (i799 < (r_.Sightings.length : Int))) = true) => ?_) (fun (h873 : (decide (i799 < (r_.Sightings.length : Int))) = false) => ?_)
          · replace hm := if_t h873 hm
            refine VIf.mk (fun (h874 : (decide (i799 < 6)) = true) => ?_) (fun (h874 : (decide (i799 < 6)) = false) => ?_)
            · replace hm := if_t h874 hm
              obtain ⟨e875, hx876, hm⟩ := bd_some hm
              refine ⟨_, el_idx (fun _ => rfl) hx876, ?_⟩
              refine ⟨rfl, ?_⟩
              refine ⟨by decide, ?_⟩
              refine ⟨by decide, ?_⟩
              refine ⟨by decide, ?_⟩
              obtain ⟨x877, hx878, hm⟩ := bd_some hm
              refine CallY.det (d_R02_Mod e875.1 2 _ hx878) ?_
              obtain ⟨x879, hx880, hm⟩ := bd_some hm
              refine CallY.det (d_R02_Mod e875.2.1 1440 _ hx880) ?_
              obtain ⟨x881, hx882, hm⟩ := bd_some hm
              refine CallY.det (d_R02_Mod e875.2.2.2 20 _ hx882) ?_
              obtain ⟨x883, hx884, hm⟩ := bd_some hm
              refine CallOwn.det (d_R02_inForce ((⟨v31, v594, v801⟩ : TSky)) (W (x877 + 5)) 20 _ hx884) ?_
              refine VIf.mk (fun (h885 : (decide (x883 < 0)) = true) => ?_) (fun (h885 : (decide (x883 < 0)) = false) => ?_)
              · replace hm := if_t h885 hm
                cases hm
                exact ⟨(fu871, ((W (i799 + 1)), v800, v801)), SubY.of 8 rfl ⟨⟨_, rfl, leD.refl _⟩, ⟨_, rfl, leD.refl _⟩, ⟨_, rfl, leD.refl _⟩, ⟨_, rfl, leD.refl _⟩, ⟨_, rfl, leD.refl _⟩, ⟨_, rfl, leD.refl _⟩, ⟨_, rfl, leD.refl _⟩, ⟨_, rfl, leD.refl _⟩, ⟨_, rfl, leD.refl _⟩, trivial⟩ ⟨⟨_, rfl, leDL.refl _⟩, ⟨_, rfl, leDL.refl _⟩, ⟨_, rfl, leDL.refl _⟩, ⟨_, _, rfl, (by first | rfl | simp), rfl⟩, ⟨_, _, rfl, (by first | rfl | simp), rfl⟩, ⟨_, _, rfl, (by first | rfl | simp), rfl⟩, ⟨_, _, rfl, (by first | rfl | simp), rfl⟩, ⟨_, _, rfl, (by first | rfl | simp), rfl⟩, trivial⟩, hi872, Nat.lt_succ_self _⟩
              · replace hm := if_f h885 hm
                refine ⟨rfl, ?_⟩
                obtain ⟨e886, hx887, hm⟩ := bd_some hm
                refine ⟨idx_bd hx887, ?_⟩
                obtain ⟨e888, hx889, hm⟩ := bd_some hm
                refine ⟨_, el_row (fun _ => rfl) hx889, ?_⟩
                obtain ⟨x890, hx891, hm⟩ := bd_some hm
                refine CallY.det (d_R02_True e888 r_.Off _ hx891) ?_
                refine ⟨rfl, ?_⟩
                obtain ⟨e892, hx893, hm⟩ := bd_some hm
                refine ⟨idx_bd hx893, ?_⟩
                obtain ⟨e894, hx895, hm⟩ := bd_some hm
                refine ⟨_, el_row (fun _ => rfl) hx895, ?_⟩
                obtain ⟨x896, hx897, hm⟩ := bd_some hm
                refine CallOwn.det (d_R02_margin e894 v594 x879 _ hx897) ?_
                obtain ⟨x898, hx899, hm⟩ := bd_some hm
                refine CallY.det (d_R02_minus x896 _ hx899) ?_
                obtain ⟨x900, hx901, hm⟩ := bd_some hm
                refine CallY.det (d_R02_sign x890 x898 _ hx901) ?_
                refine ⟨by decide, ?_⟩
                obtain ⟨x902, hx903, hm⟩ := bd_some hm
                refine CallY.det (d_R02_Mod e875.2.2.1 9 _ hx903) ?_
                refine VIf.mk (fun (h904 : (x902 == 8) = true) => ?_) (fun (h904 : (x902 == 8) = false) => ?_)
                · replace hm := if_t h904 hm
                  refine ⟨([(⟨(W ((W (5 * i799)) + 40)), (W (x877 + 5)), x879, (!(decide (x900 > 0))), x881, 0⟩ : TSighting)] : List TSighting).flatMap TSighting.c, ([(⟨(W ((W (5 * i799)) + 40)), (W (x877 + 5)), x879, (!(decide (x900 > 0))), x881, 0⟩ : TSighting)] : List TSighting).length, ⟨rfl, rfl⟩, ?_⟩
                  obtain ⟨hg, hm⟩ := gd_some hm
                  refine ⟨hg, _, _, flat_app (c := TSighting.c) (l := (v801 : List TSighting)) (r := (([(⟨(W ((W (5 * i799)) + 40)), (W (x877 + 5)), x879, (!(decide (x900 > 0))), x881, 0⟩ : TSighting)] : List TSighting) : List TSighting)), ?_⟩
                  cases hm
                  exact ⟨(fu871, ((W (i799 + 1)), v800, (v801 ++ ([(⟨(W ((W (5 * i799)) + 40)), (W (x877 + 5)), x879, (!(decide (x900 > 0))), x881, 0⟩ : TSighting)] : List TSighting)))), SubY.of 8 rfl ⟨⟨_, rfl, leD.refl _⟩, ⟨_, rfl, leD.refl _⟩, ⟨_, rfl, leD.refl _⟩, ⟨_, rfl, leD.refl _⟩, ⟨_, rfl, leD.refl _⟩, ⟨_, rfl, leD.refl _⟩, ⟨_, rfl, leD.refl _⟩, ⟨_, rfl, leD.refl _⟩, ⟨_, rfl, leD.refl _⟩, trivial⟩ ⟨⟨_, rfl, leDL.refl _⟩, ⟨_, rfl, leDL.refl _⟩, ⟨_, rfl, leDL.refl _⟩, ⟨_, _, rfl, (by first | rfl | simp), rfl⟩, ⟨_, _, rfl, (by first | rfl | simp), rfl⟩, ⟨_, _, rfl, (by first | rfl | simp), rfl⟩, ⟨_, _, rfl, (by first | rfl | simp), rfl⟩, ⟨_, _, rfl, (by first | rfl | simp), rfl⟩, trivial⟩, hi872, Nat.lt_succ_self _⟩
                · replace hm := if_f h904 hm
                  refine ⟨([(⟨(W ((W (5 * i799)) + 40)), (W (x877 + 5)), x879, (decide (x900 > 0)), x881, 0⟩ : TSighting)] : List TSighting).flatMap TSighting.c, ([(⟨(W ((W (5 * i799)) + 40)), (W (x877 + 5)), x879, (decide (x900 > 0)), x881, 0⟩ : TSighting)] : List TSighting).length, ⟨rfl, rfl⟩, ?_⟩
                  obtain ⟨hg, hm⟩ := gd_some hm
                  refine ⟨hg, _, _, flat_app (c := TSighting.c) (l := (v801 : List TSighting)) (r := (([(⟨(W ((W (5 * i799)) + 40)), (W (x877 + 5)), x879, (decide (x900 > 0)), x881, 0⟩ : TSighting)] : List TSighting) : List TSighting)), ?_⟩
                  cases hm
                  exact ⟨(fu871, ((W (i799 + 1)), v800, (v801 ++ ([(⟨(W ((W (5 * i799)) + 40)), (W (x877 + 5)), x879, (decide (x900 > 0)), x881, 0⟩ : TSighting)] : List TSighting)))), SubY.of 8 rfl ⟨⟨_, rfl, leD.refl _⟩, ⟨_, rfl, leD.refl _⟩, ⟨_, rfl, leD.refl _⟩, ⟨_, rfl, leD.refl _⟩, ⟨_, rfl, leD.refl _⟩, ⟨_, rfl, leD.refl _⟩, ⟨_, rfl, leD.refl _⟩, ⟨_, rfl, leD.refl _⟩, ⟨_, rfl, leD.refl _⟩, trivial⟩ ⟨⟨_, rfl, leDL.refl _⟩, ⟨_, rfl, leDL.refl _⟩, ⟨_, rfl, leDL.refl _⟩, ⟨_, _, rfl, (by first | rfl | simp), rfl⟩, ⟨_, _, rfl, (by first | rfl | simp), rfl⟩, ⟨_, _, rfl, (by first | rfl | simp), rfl⟩, ⟨_, _, rfl, (by first | rfl | simp), rfl⟩, ⟨_, _, rfl, (by first | rfl | simp), rfl⟩, trivial⟩, hi872, Nat.lt_succ_self _⟩
            · replace hm := if_f h874 hm
              cases hm
              cases hi872
              have hm := hk870
              cases hm
              exact RetY.le (leD.refl _)
          · replace hm := if_f h873 hm
            cases hm
            cases hi872
            have hm := hk870
            cases hm
            exact RetY.le (leD.refl _)
      · replace hm := if_f h758 hm
        cases hm
        cases hi757
        have hm := hk755
        obtain ⟨ev1006, he, hk1007⟩ := bd_some hm
        refine LoopY.of (fun (lpx : Nat × (Int × (List TSighting) × (List TSighting))) => match lpx with | (fu1008, i936, v937, v938) => (⟨[(0, .agg [.lst 1 r_.Rows.length (r_.Rows.flatMap (fun (x : (List (Int × Int × Int × Int))) => [.lst 4 x.length (x.flatMap (fun (x : (Int × Int × Int × Int)) => [DI x.1, DI x.2.1, DI x.2.2.1, DI x.2.2.2]))])), .lst 4 r_.Sheets.length (r_.Sheets.flatMap (fun (x : (Int × Int × Int × Int)) => [DI x.1, DI x.2.1, DI x.2.2.1, DI x.2.2.2])), .lst 3 r_.Roofs.length (r_.Roofs.flatMap (fun (x : (Int × Int × Int)) => [DI x.1, DI x.2.1, DI x.2.2])), .lst 4 r_.Sightings.length (r_.Sightings.flatMap (fun (x : (Int × Int × Int × Int)) => [DI x.1, DI x.2.1, DI x.2.2.1, DI x.2.2.2])), DI r_.Off]), (1, .own 0 0), (2, .own 1 0), (3, .own 2 0), (4, DI i29), (8, DI i593), (11, DI i936), (24, DB (decide (i29 < 3))), (94, DB false)], [(0, .blk [.lst 1 r_.Rows.length (r_.Rows.flatMap (fun (x : (List (Int × Int × Int × Int))) => [.lst 4 x.length (x.flatMap (fun (x : (Int × Int × Int × Int)) => [DI x.1, DI x.2.1, DI x.2.2.1, DI x.2.2.2]))])), .lst 4 r_.Sheets.length (r_.Sheets.flatMap (fun (x : (Int × Int × Int × Int)) => [DI x.1, DI x.2.1, DI x.2.2.1, DI x.2.2.2])), .lst 3 r_.Roofs.length (r_.Roofs.flatMap (fun (x : (Int × Int × Int)) => [DI x.1, DI x.2.1, DI x.2.2])), .lst 4 r_.Sightings.length (r_.Sightings.flatMap (fun (x : (Int × Int × Int × Int)) => [DI x.1, DI x.2.1, DI x.2.2.1, DI x.2.2.2])), DI r_.Off] 26), (1, .blk [.v (.slice none 0 0), .v (.slice none 0 0), .v (.slice none 0 0)] 32), (2, .blk [.row 4 9, .row 5 3, .row 7 6] 32), (3, .row 9 v30.length (v30.flatMap TSheet.c) 41), (4, .row 9 v31.length (v31.flatMap TSheet.c) 41), (5, .row 3 v594.length (v594.flatMap TRoof.c) 58), (6, .row 6 v937.length (v937.flatMap TSighting.c) 43), (7, .row 6 v938.length (v938.flatMap TSighting.c) 43)], 8⟩ : Sy)) (fun lpx => loopO (m_R02_Made_L3 r_ v31 v594) lpx.1 lpx.2 = some ev1006) (fun lpx => lpx.1) (FUEL, (0, [], [])) (SubY.of 6 rfl ⟨⟨_, rfl, leD.refl _⟩, ⟨_, rfl, leD.refl _⟩, ⟨_, rfl, leD.refl _⟩, ⟨_, rfl, leD.refl _⟩, ⟨_, rfl, leD.refl _⟩, ⟨_, rfl, leD.refl _⟩, ⟨_, rfl, leD.refl _⟩, ⟨_, rfl, leD.refl _⟩, ⟨_, rfl, leD.refl _⟩, trivial⟩ ⟨⟨_, rfl, leDL.refl _⟩, ⟨_, rfl, leDL.refl _⟩, ⟨_, rfl, leDL.refl _⟩, ⟨_, _, rfl, (by first | rfl | simp), rfl⟩, ⟨_, _, rfl, (by first | rfl | simp), rfl⟩, ⟨_, _, rfl, (by first | rfl | simp), rfl⟩, ⟨rfl, rfl⟩, ⟨rfl, rfl⟩, trivial⟩) he ?_
        rintro ⟨fu1008, i936, v937, v938⟩ hi1009
        obtain ⟨fu1008, b, rfl, hm, hi1009⟩ := loop_step hi1009
        refine VIf.mk (fun (h1010 : (decide (i936 < (r_.Sightings.length : Int))) = true) => ?_) (fun (h1010 : (decide (i936 < (r_.Sightings.length : Int))) = false) => ?_)
        · replace hm := if_t h1010 hm
          refine VIf.mk (fun (h1011 : (decide (i936 < 6)) = true) => ?_) (fun (h1011 : (decide (i936 < 6)) = false) => ?_)
          · replace hm := if_t h1011 hm
            obtain ⟨e1012, hx1013, hm⟩ := bd_some hm
            refine ⟨_, el_idx (fun _ => rfl) hx1013, ?_⟩
            refine ⟨rfl, ?_⟩
            refine ⟨by decide, ?_⟩
            refine ⟨by decide, ?_⟩
            refine ⟨by decide, ?_⟩
            obtain ⟨x1014, hx1015, hm⟩ := bd_some hm
            refine CallY.det (d_R02_Mod e1012.1 2 _ hx1015) ?_
            obtain ⟨x1016, hx1017, hm⟩ := bd_some hm
            refine CallY.det (d_R02_Mod e1012.2.1 1440 _ hx1017) ?_
            obtain ⟨x1018, hx1019, hm⟩ := bd_some hm
            refine CallY.det (d_R02_Mod e1012.2.2.2 20 _ hx1019) ?_
            obtain ⟨x1020, hx1021, hm⟩ := bd_some hm
            refine CallOwn.det (d_R02_inForce ((⟨v31, v594, v938⟩ : TSky)) (W (x1014 + 5)) 20 _ hx1021) ?_
            refine VIf.mk (fun (h1022 : (decide (x1020 < 0)) = true) => ?_) (fun (h1022 : (decide (x1020 < 0)) = false) => ?_)
            · replace hm := if_t h1022 hm
              cases hm
              exact ⟨(fu1008, ((W (i936 + 1)), v937, v938)), SubY.of 8 rfl ⟨⟨_, rfl, leD.refl _⟩, ⟨_, rfl, leD.refl _⟩, ⟨_, rfl, leD.refl _⟩, ⟨_, rfl, leD.refl _⟩, ⟨_, rfl, leD.refl _⟩, ⟨_, rfl, leD.refl _⟩, ⟨_, rfl, leD.refl _⟩, ⟨_, rfl, leD.refl _⟩, ⟨_, rfl, leD.refl _⟩, trivial⟩ ⟨⟨_, rfl, leDL.refl _⟩, ⟨_, rfl, leDL.refl _⟩, ⟨_, rfl, leDL.refl _⟩, ⟨_, _, rfl, (by first | rfl | simp), rfl⟩, ⟨_, _, rfl, (by first | rfl | simp), rfl⟩, ⟨_, _, rfl, (by first | rfl | simp), rfl⟩, ⟨_, _, rfl, (by first | rfl | simp), rfl⟩, ⟨_, _, rfl, (by first | rfl | simp), rfl⟩, trivial⟩, hi1009, Nat.lt_succ_self _⟩
            · replace hm := if_f h1022 hm
              refine ⟨rfl, ?_⟩
              obtain ⟨e1023, hx1024, hm⟩ := bd_some hm
              refine ⟨idx_bd hx1024, ?_⟩
              obtain ⟨e1025, hx1026, hm⟩ := bd_some hm
              refine ⟨_, el_row (fun _ => rfl) hx1026, ?_⟩
              obtain ⟨x1027, hx1028, hm⟩ := bd_some hm
              refine CallY.det (d_R02_True e1025 r_.Off _ hx1028) ?_
              refine ⟨rfl, ?_⟩
              obtain ⟨e1029, hx1030, hm⟩ := bd_some hm
              refine ⟨idx_bd hx1030, ?_⟩
              obtain ⟨e1031, hx1032, hm⟩ := bd_some hm
              refine ⟨_, el_row (fun _ => rfl) hx1032, ?_⟩
              obtain ⟨x1033, hx1034, hm⟩ := bd_some hm
              refine CallOwn.det (d_R02_margin e1031 v594 x1016 _ hx1034) ?_
              obtain ⟨x1035, hx1036, hm⟩ := bd_some hm
              refine CallY.det (d_R02_minus x1033 _ hx1036) ?_
              obtain ⟨x1037, hx1038, hm⟩ := bd_some hm
              refine CallY.det (d_R02_sign x1027 x1035 _ hx1038) ?_
              refine ⟨by decide, ?_⟩
              obtain ⟨x1039, hx1040, hm⟩ := bd_some hm
              refine CallY.det (d_R02_Mod e1012.2.2.1 9 _ hx1040) ?_
              refine VIf.mk (fun (h1041 : (x1039 == 8) = true) => ?_) (fun (h1041 : (x1039 == 8) = false) => ?_)
              · replace hm := if_t h1041 hm
                refine ⟨([(⟨(W ((W (5 * i936)) + 40)), (W (x1014 + 5)), x1016, (!(decide (x1037 > 0))), x1018, 0⟩ : TSighting)] : List TSighting).flatMap TSighting.c, ([(⟨(W ((W (5 * i936)) + 40)), (W (x1014 + 5)), x1016, (!(decide (x1037 > 0))), x1018, 0⟩ : TSighting)] : List TSighting).length, ⟨rfl, rfl⟩, ?_⟩
                obtain ⟨hg, hm⟩ := gd_some hm
                refine ⟨hg, _, _, flat_app (c := TSighting.c) (l := (v938 : List TSighting)) (r := (([(⟨(W ((W (5 * i936)) + 40)), (W (x1014 + 5)), x1016, (!(decide (x1037 > 0))), x1018, 0⟩ : TSighting)] : List TSighting) : List TSighting)), ?_⟩
                cases hm
                exact ⟨(fu1008, ((W (i936 + 1)), v937, (v938 ++ ([(⟨(W ((W (5 * i936)) + 40)), (W (x1014 + 5)), x1016, (!(decide (x1037 > 0))), x1018, 0⟩ : TSighting)] : List TSighting)))), SubY.of 8 rfl ⟨⟨_, rfl, leD.refl _⟩, ⟨_, rfl, leD.refl _⟩, ⟨_, rfl, leD.refl _⟩, ⟨_, rfl, leD.refl _⟩, ⟨_, rfl, leD.refl _⟩, ⟨_, rfl, leD.refl _⟩, ⟨_, rfl, leD.refl _⟩, ⟨_, rfl, leD.refl _⟩, ⟨_, rfl, leD.refl _⟩, trivial⟩ ⟨⟨_, rfl, leDL.refl _⟩, ⟨_, rfl, leDL.refl _⟩, ⟨_, rfl, leDL.refl _⟩, ⟨_, _, rfl, (by first | rfl | simp), rfl⟩, ⟨_, _, rfl, (by first | rfl | simp), rfl⟩, ⟨_, _, rfl, (by first | rfl | simp), rfl⟩, ⟨_, _, rfl, (by first | rfl | simp), rfl⟩, ⟨_, _, rfl, (by first | rfl | simp), rfl⟩, trivial⟩, hi1009, Nat.lt_succ_self _⟩
              · replace hm := if_f h1041 hm
                refine ⟨([(⟨(W ((W (5 * i936)) + 40)), (W (x1014 + 5)), x1016, (decide (x1037 > 0)), x1018, 0⟩ : TSighting)] : List TSighting).flatMap TSighting.c, ([(⟨(W ((W (5 * i936)) + 40)), (W (x1014 + 5)), x1016, (decide (x1037 > 0)), x1018, 0⟩ : TSighting)] : List TSighting).length, ⟨rfl, rfl⟩, ?_⟩
                obtain ⟨hg, hm⟩ := gd_some hm
                refine ⟨hg, _, _, flat_app (c := TSighting.c) (l := (v938 : List TSighting)) (r := (([(⟨(W ((W (5 * i936)) + 40)), (W (x1014 + 5)), x1016, (decide (x1037 > 0)), x1018, 0⟩ : TSighting)] : List TSighting) : List TSighting)), ?_⟩
                cases hm
                exact ⟨(fu1008, ((W (i936 + 1)), v937, (v938 ++ ([(⟨(W ((W (5 * i936)) + 40)), (W (x1014 + 5)), x1016, (decide (x1037 > 0)), x1018, 0⟩ : TSighting)] : List TSighting)))), SubY.of 8 rfl ⟨⟨_, rfl, leD.refl _⟩, ⟨_, rfl, leD.refl _⟩, ⟨_, rfl, leD.refl _⟩, ⟨_, rfl, leD.refl _⟩, ⟨_, rfl, leD.refl _⟩, ⟨_, rfl, leD.refl _⟩, ⟨_, rfl, leD.refl _⟩, ⟨_, rfl, leD.refl _⟩, ⟨_, rfl, leD.refl _⟩, trivial⟩ ⟨⟨_, rfl, leDL.refl _⟩, ⟨_, rfl, leDL.refl _⟩, ⟨_, rfl, leDL.refl _⟩, ⟨_, _, rfl, (by first | rfl | simp), rfl⟩, ⟨_, _, rfl, (by first | rfl | simp), rfl⟩, ⟨_, _, rfl, (by first | rfl | simp), rfl⟩, ⟨_, _, rfl, (by first | rfl | simp), rfl⟩, ⟨_, _, rfl, (by first | rfl | simp), rfl⟩, trivial⟩, hi1009, Nat.lt_succ_self _⟩
          · replace hm := if_f h1011 hm
            cases hm
            cases hi1009
            have hm := hk1007
            cases hm
            exact RetY.le (leD.refl _)
        · replace hm := if_f h1010 hm
          cases hm
          cases hi1009
          have hm := hk1007
          cases hm
          exact RetY.le (leD.refl _)
  · replace hm := if_f h555 hm
    cases hm
    cases hi554
    have hm := hk552
    obtain ⟨ev1212, he, hk1213⟩ := bd_some hm
    refine LoopY.of (fun (lpx : Nat × (Int × (List TRoof))) => match lpx with | (fu1214, i1051, v1052) => (⟨[(0, .agg [.lst 1 r_.Rows.length (r_.Rows.flatMap (fun (x : (List (Int × Int × Int × Int))) => [.lst 4 x.length (x.flatMap (fun (x : (Int × Int × Int × Int)) => [DI x.1, DI x.2.1, DI x.2.2.1, DI x.2.2.2]))])), .lst 4 r_.Sheets.length (r_.Sheets.flatMap (fun (x : (Int × Int × Int × Int)) => [DI x.1, DI x.2.1, DI x.2.2.1, DI x.2.2.2])), .lst 3 r_.Roofs.length (r_.Roofs.flatMap (fun (x : (Int × Int × Int)) => [DI x.1, DI x.2.1, DI x.2.2])), .lst 4 r_.Sightings.length (r_.Sightings.flatMap (fun (x : (Int × Int × Int × Int)) => [DI x.1, DI x.2.1, DI x.2.2.1, DI x.2.2.2])), DI r_.Off]), (1, .own 0 0), (2, .own 1 0), (3, .own 2 0), (4, DI i29), (8, DI i1051), (24, DB false)], [(0, .blk [.lst 1 r_.Rows.length (r_.Rows.flatMap (fun (x : (List (Int × Int × Int × Int))) => [.lst 4 x.length (x.flatMap (fun (x : (Int × Int × Int × Int)) => [DI x.1, DI x.2.1, DI x.2.2.1, DI x.2.2.2]))])), .lst 4 r_.Sheets.length (r_.Sheets.flatMap (fun (x : (Int × Int × Int × Int)) => [DI x.1, DI x.2.1, DI x.2.2.1, DI x.2.2.2])), .lst 3 r_.Roofs.length (r_.Roofs.flatMap (fun (x : (Int × Int × Int)) => [DI x.1, DI x.2.1, DI x.2.2])), .lst 4 r_.Sightings.length (r_.Sightings.flatMap (fun (x : (Int × Int × Int × Int)) => [DI x.1, DI x.2.1, DI x.2.2.1, DI x.2.2.2])), DI r_.Off] 26), (1, .blk [.v (.slice none 0 0), .v (.slice none 0 0), .v (.slice none 0 0)] 32), (2, .blk [.row 4 9, .row 5 3, .v (.slice none 0 0)] 32), (3, .row 9 v30.length (v30.flatMap TSheet.c) 41), (4, .row 9 v31.length (v31.flatMap TSheet.c) 41), (5, .row 3 v1052.length (v1052.flatMap TRoof.c) 58)], 6⟩ : Sy)) (fun lpx => loopO (m_R02_Made_L2 r_) lpx.1 lpx.2 = some ev1212) (fun lpx => lpx.1) (FUEL, (0, [])) (SubY.of 5 rfl ⟨⟨_, rfl, leD.refl _⟩, ⟨_, rfl, leD.refl _⟩, ⟨_, rfl, leD.refl _⟩, ⟨_, rfl, leD.refl _⟩, ⟨_, rfl, leD.refl _⟩, ⟨_, rfl, leD.refl _⟩, ⟨_, rfl, leD.refl _⟩, trivial⟩ ⟨⟨_, rfl, leDL.refl _⟩, ⟨_, rfl, leDL.refl _⟩, ⟨_, rfl, leDL.refl _⟩, ⟨_, _, rfl, (by first | rfl | simp), rfl⟩, ⟨_, _, rfl, (by first | rfl | simp), rfl⟩, ⟨rfl, rfl⟩, trivial⟩) he ?_
    rintro ⟨fu1214, i1051, v1052⟩ hi1215
    obtain ⟨fu1214, b, rfl, hm, hi1215⟩ := loop_step hi1215
    refine VIf.mk (fun (h1216 : (decide (i1051 < (r_.Roofs.length : Int))) = true) => ?_) (fun (h1216 : (decide (i1051 < (r_.Roofs.length : Int))) = false) => ?_)
    · replace hm := if_t h1216 hm
      refine VIf.mk (fun (h1217 : (decide (i1051 < 5)) = true) => ?_) (fun (h1217 : (decide (i1051 < 5)) = false) => ?_)
      · replace hm := if_t h1217 hm
        obtain ⟨e1218, hx1219, hm⟩ := bd_some hm
        refine ⟨_, el_idx (fun _ => rfl) hx1219, ?_⟩
        refine ⟨by decide, ?_⟩
        obtain ⟨x1220, hx1221, hm⟩ := bd_some hm
        refine CallY.det (d_R02_Mod e1218.1 300 _ hx1221) ?_
        refine ⟨rfl, ?_⟩
        refine ⟨by decide, ?_⟩
        refine ⟨by decide, ?_⟩
        obtain ⟨x1222, hx1223, hm⟩ := bd_some hm
        refine CallY.det (d_R02_Mod e1218.2.1 59 _ hx1223) ?_
        obtain ⟨x1224, hx1225, hm⟩ := bd_some hm
        refine CallY.det (d_R02_Mod e1218.2.2 30 _ hx1225) ?_
        refine ⟨([(⟨x1220, (W ((W (x1220 + 1)) + x1222)), x1224⟩ : TRoof)] : List TRoof).flatMap TRoof.c, ([(⟨x1220, (W ((W (x1220 + 1)) + x1222)), x1224⟩ : TRoof)] : List TRoof).length, ⟨rfl, rfl⟩, ?_⟩
        obtain ⟨hg, hm⟩ := gd_some hm
        refine ⟨hg, _, _, flat_app (c := TRoof.c) (l := (v1052 : List TRoof)) (r := (([(⟨x1220, (W ((W (x1220 + 1)) + x1222)), x1224⟩ : TRoof)] : List TRoof) : List TRoof)), ?_⟩
        cases hm
        exact ⟨(fu1214, ((W (i1051 + 1)), (v1052 ++ ([(⟨x1220, (W ((W (x1220 + 1)) + x1222)), x1224⟩ : TRoof)] : List TRoof)))), SubY.of 6 rfl ⟨⟨_, rfl, leD.refl _⟩, ⟨_, rfl, leD.refl _⟩, ⟨_, rfl, leD.refl _⟩, ⟨_, rfl, leD.refl _⟩, ⟨_, rfl, leD.refl _⟩, ⟨_, rfl, leD.refl _⟩, ⟨_, rfl, leD.refl _⟩, trivial⟩ ⟨⟨_, rfl, leDL.refl _⟩, ⟨_, rfl, leDL.refl _⟩, ⟨_, rfl, leDL.refl _⟩, ⟨_, _, rfl, (by first | rfl | simp), rfl⟩, ⟨_, _, rfl, (by first | rfl | simp), rfl⟩, ⟨_, _, rfl, (by first | rfl | simp), rfl⟩, trivial⟩, hi1215, Nat.lt_succ_self _⟩
      · replace hm := if_f h1217 hm
        cases hm
        cases hi1215
        have hm := hk1213
        obtain ⟨ev1327, he, hk1328⟩ := bd_some hm
        refine LoopY.of (fun (lpx : Nat × (Int × (List TSighting) × (List TSighting))) => match lpx with | (fu1329, i1257, v1258, v1259) => (⟨[(0, .agg [.lst 1 r_.Rows.length (r_.Rows.flatMap (fun (x : (List (Int × Int × Int × Int))) => [.lst 4 x.length (x.flatMap (fun (x : (Int × Int × Int × Int)) => [DI x.1, DI x.2.1, DI x.2.2.1, DI x.2.2.2]))])), .lst 4 r_.Sheets.length (r_.Sheets.flatMap (fun (x : (Int × Int × Int × Int)) => [DI x.1, DI x.2.1, DI x.2.2.1, DI x.2.2.2])), .lst 3 r_.Roofs.length (r_.Roofs.flatMap (fun (x : (Int × Int × Int)) => [DI x.1, DI x.2.1, DI x.2.2])), .lst 4 r_.Sightings.length (r_.Sightings.flatMap (fun (x : (Int × Int × Int × Int)) => [DI x.1, DI x.2.1, DI x.2.2.1, DI x.2.2.2])), DI r_.Off]), (1, .own 0 0), (2, .own 1 0), (3, .own 2 0), (4, DI i29), (8, DI i1051), (11, DI i1257), (24, DB false), (94, DB (decide (i1051 < 5)))], [(0, .blk [.lst 1 r_.Rows.length (r_.Rows.flatMap (fun (x : (List (Int × Int × Int × Int))) => [.lst 4 x.length (x.flatMap (fun (x : (Int × Int × Int × Int)) => [DI x.1, DI x.2.1, DI x.2.2.1, DI x.2.2.2]))])), .lst 4 r_.Sheets.length (r_.Sheets.flatMap (fun (x : (Int × Int × Int × Int)) => [DI x.1, DI x.2.1, DI x.2.2.1, DI x.2.2.2])), .lst 3 r_.Roofs.length (r_.Roofs.flatMap (fun (x : (Int × Int × Int)) => [DI x.1, DI x.2.1, DI x.2.2])), .lst 4 r_.Sightings.length (r_.Sightings.flatMap (fun (x : (Int × Int × Int × Int)) => [DI x.1, DI x.2.1, DI x.2.2.1, DI x.2.2.2])), DI r_.Off] 26), (1, .blk [.v (.slice none 0 0), .v (.slice none 0 0), .v (.slice none 0 0)] 32), (2, .blk [.row 4 9, .row 5 3, .row 7 6] 32), (3, .row 9 v30.length (v30.flatMap TSheet.c) 41), (4, .row 9 v31.length (v31.flatMap TSheet.c) 41), (5, .row 3 v1052.length (v1052.flatMap TRoof.c) 58), (6, .row 6 v1258.length (v1258.flatMap TSighting.c) 43), (7, .row 6 v1259.length (v1259.flatMap TSighting.c) 43)], 8⟩ : Sy)) (fun lpx => loopO (m_R02_Made_L3 r_ v31 v1052) lpx.1 lpx.2 = some ev1327) (fun lpx => lpx.1) (FUEL, (0, [], [])) (SubY.of 6 rfl ⟨⟨_, rfl, leD.refl _⟩, ⟨_, rfl, leD.refl _⟩, ⟨_, rfl, leD.refl _⟩, ⟨_, rfl, leD.refl _⟩, ⟨_, rfl, leD.refl _⟩, ⟨_, rfl, leD.refl _⟩, ⟨_, rfl, leD.refl _⟩, ⟨_, rfl, leD.refl _⟩, ⟨_, rfl, leD.refl _⟩, trivial⟩ ⟨⟨_, rfl, leDL.refl _⟩, ⟨_, rfl, leDL.refl _⟩, ⟨_, rfl, leDL.refl _⟩, ⟨_, _, rfl, (by first | rfl | simp), rfl⟩, ⟨_, _, rfl, (by first | rfl | simp), rfl⟩, ⟨_, _, rfl, (by first | rfl | simp), rfl⟩, ⟨rfl, rfl⟩, ⟨rfl, rfl⟩, trivial⟩) he ?_
        rintro ⟨fu1329, i1257, v1258, v1259⟩ hi1330
        obtain ⟨fu1329, b, rfl, hm, hi1330⟩ := loop_step hi1330
        refine VIf.mk (fun (h1331 : (decide (i1257 < (r_.Sightings.length : Int))) = true) => ?_) (fun (h1331 : (decide (i1257 < (r_.Sightings.length : Int))) = false) => ?_)
        · replace hm := if_t h1331 hm
          refine VIf.mk (fun (h1332 : (decide (i1257 < 6)) = true) => ?_) (fun (h1332 : (decide (i1257 < 6)) = false) => ?_)
          · replace hm := if_t h1332 hm
            obtain ⟨e1333, hx1334, hm⟩ := bd_some hm
            refine ⟨_, el_idx (fun _ => rfl) hx1334, ?_⟩
            refine ⟨rfl, ?_⟩
            refine ⟨by decide, ?_⟩
            refine ⟨by decide, ?_⟩
            refine ⟨by decide, ?_⟩
            obtain ⟨x1335, hx1336, hm⟩ := bd_some hm
            refine CallY.det (d_R02_Mod e1333.1 2 _ hx1336) ?_
            obtain ⟨x1337, hx1338, hm⟩ := bd_some hm
            refine CallY.det (d_R02_Mod e1333.2.1 1440 _ hx1338) ?_
            obtain ⟨x1339, hx1340, hm⟩ := bd_some hm
            refine CallY.det (d_R02_Mod e1333.2.2.2 20 _ hx1340) ?_
            obtain ⟨x1341, hx1342, hm⟩ := bd_some hm
            refine CallOwn.det (d_R02_inForce ((⟨v31, v1052, v1259⟩ : TSky)) (W (x1335 + 5)) 20 _ hx1342) ?_
            refine VIf.mk (fun (h1343 : (decide (x1341 < 0)) = true) => ?_) (fun (h1343 : (decide (x1341 < 0)) = false) => ?_)
            · replace hm := if_t h1343 hm
              cases hm
              exact ⟨(fu1329, ((W (i1257 + 1)), v1258, v1259)), SubY.of 8 rfl ⟨⟨_, rfl, leD.refl _⟩, ⟨_, rfl, leD.refl _⟩, ⟨_, rfl, leD.refl _⟩, ⟨_, rfl, leD.refl _⟩, ⟨_, rfl, leD.refl _⟩, ⟨_, rfl, leD.refl _⟩, ⟨_, rfl, leD.refl _⟩, ⟨_, rfl, leD.refl _⟩, ⟨_, rfl, leD.refl _⟩, trivial⟩ ⟨⟨_, rfl, leDL.refl _⟩, ⟨_, rfl, leDL.refl _⟩, ⟨_, rfl, leDL.refl _⟩, ⟨_, _, rfl, (by first | rfl | simp), rfl⟩, ⟨_, _, rfl, (by first | rfl | simp), rfl⟩, ⟨_, _, rfl, (by first | rfl | simp), rfl⟩, ⟨_, _, rfl, (by first | rfl | simp), rfl⟩, ⟨_, _, rfl, (by first | rfl | simp), rfl⟩, trivial⟩, hi1330, Nat.lt_succ_self _⟩
            · replace hm := if_f h1343 hm
              refine ⟨rfl, ?_⟩
              obtain ⟨e1344, hx1345, hm⟩ := bd_some hm
              refine ⟨idx_bd hx1345, ?_⟩
              obtain ⟨e1346, hx1347, hm⟩ := bd_some hm
              refine ⟨_, el_row (fun _ => rfl) hx1347, ?_⟩
              obtain ⟨x1348, hx1349, hm⟩ := bd_some hm
              refine CallY.det (d_R02_True e1346 r_.Off _ hx1349) ?_
              refine ⟨rfl, ?_⟩
              obtain ⟨e1350, hx1351, hm⟩ := bd_some hm
              refine ⟨idx_bd hx1351, ?_⟩
              obtain ⟨e1352, hx1353, hm⟩ := bd_some hm
              refine ⟨_, el_row (fun _ => rfl) hx1353, ?_⟩
              obtain ⟨x1354, hx1355, hm⟩ := bd_some hm
              refine CallOwn.det (d_R02_margin e1352 v1052 x1337 _ hx1355) ?_
              obtain ⟨x1356, hx1357, hm⟩ := bd_some hm
              refine CallY.det (d_R02_minus x1354 _ hx1357) ?_
              obtain ⟨x1358, hx1359, hm⟩ := bd_some hm
              refine CallY.det (d_R02_sign x1348 x1356 _ hx1359) ?_
              refine ⟨by decide, ?_⟩
              obtain ⟨x1360, hx1361, hm⟩ := bd_some hm
              refine CallY.det (d_R02_Mod e1333.2.2.1 9 _ hx1361) ?_
              refine VIf.mk (fun (h1362 : (x1360 == 8) = true) => ?_) (fun (h1362 : (x1360 == 8) = false) => ?_)
              · replace hm := if_t h1362 hm
                refine ⟨([(⟨(W ((W (5 * i1257)) + 40)), (W (x1335 + 5)), x1337, (!(decide (x1358 > 0))), x1339, 0⟩ : TSighting)] : List TSighting).flatMap TSighting.c, ([(⟨(W ((W (5 * i1257)) + 40)), (W (x1335 + 5)), x1337, (!(decide (x1358 > 0))), x1339, 0⟩ : TSighting)] : List TSighting).length, ⟨rfl, rfl⟩, ?_⟩
                obtain ⟨hg, hm⟩ := gd_some hm
                refine ⟨hg, _, _, flat_app (c := TSighting.c) (l := (v1259 : List TSighting)) (r := (([(⟨(W ((W (5 * i1257)) + 40)), (W (x1335 + 5)), x1337, (!(decide (x1358 > 0))), x1339, 0⟩ : TSighting)] : List TSighting) : List TSighting)), ?_⟩
                cases hm
                exact ⟨(fu1329, ((W (i1257 + 1)), v1258, (v1259 ++ ([(⟨(W ((W (5 * i1257)) + 40)), (W (x1335 + 5)), x1337, (!(decide (x1358 > 0))), x1339, 0⟩ : TSighting)] : List TSighting)))), SubY.of 8 rfl ⟨⟨_, rfl, leD.refl _⟩, ⟨_, rfl, leD.refl _⟩, ⟨_, rfl, leD.refl _⟩, ⟨_, rfl, leD.refl _⟩, ⟨_, rfl, leD.refl _⟩, ⟨_, rfl, leD.refl _⟩, ⟨_, rfl, leD.refl _⟩, ⟨_, rfl, leD.refl _⟩, ⟨_, rfl, leD.refl _⟩, trivial⟩ ⟨⟨_, rfl, leDL.refl _⟩, ⟨_, rfl, leDL.refl _⟩, ⟨_, rfl, leDL.refl _⟩, ⟨_, _, rfl, (by first | rfl | simp), rfl⟩, ⟨_, _, rfl, (by first | rfl | simp), rfl⟩, ⟨_, _, rfl, (by first | rfl | simp), rfl⟩, ⟨_, _, rfl, (by first | rfl | simp), rfl⟩, ⟨_, _, rfl, (by first | rfl | simp), rfl⟩, trivial⟩, hi1330, Nat.lt_succ_self _⟩
              · replace hm := if_f h1362 hm
                refine ⟨([(⟨(W ((W (5 * i1257)) + 40)), (W (x1335 + 5)), x1337, (decide (x1358 > 0)), x1339, 0⟩ : TSighting)] : List TSighting).flatMap TSighting.c, ([(⟨(W ((W (5 * i1257)) + 40)), (W (x1335 + 5)), x1337, (decide (x1358 > 0)), x1339, 0⟩ : TSighting)] : List TSighting).length, ⟨rfl, rfl⟩, ?_⟩
                obtain ⟨hg, hm⟩ := gd_some hm
                refine ⟨hg, _, _, flat_app (c := TSighting.c) (l := (v1259 : List TSighting)) (r := (([(⟨(W ((W (5 * i1257)) + 40)), (W (x1335 + 5)), x1337, (decide (x1358 > 0)), x1339, 0⟩ : TSighting)] : List TSighting) : List TSighting)), ?_⟩
                cases hm
                exact ⟨(fu1329, ((W (i1257 + 1)), v1258, (v1259 ++ ([(⟨(W ((W (5 * i1257)) + 40)), (W (x1335 + 5)), x1337, (decide (x1358 > 0)), x1339, 0⟩ : TSighting)] : List TSighting)))), SubY.of 8 rfl ⟨⟨_, rfl, leD.refl _⟩, ⟨_, rfl, leD.refl _⟩, ⟨_, rfl, leD.refl _⟩, ⟨_, rfl, leD.refl _⟩, ⟨_, rfl, leD.refl _⟩, ⟨_, rfl, leD.refl _⟩, ⟨_, rfl, leD.refl _⟩, ⟨_, rfl, leD.refl _⟩, ⟨_, rfl, leD.refl _⟩, trivial⟩ ⟨⟨_, rfl, leDL.refl _⟩, ⟨_, rfl, leDL.refl _⟩, ⟨_, rfl, leDL.refl _⟩, ⟨_, _, rfl, (by first | rfl | simp), rfl⟩, ⟨_, _, rfl, (by first | rfl | simp), rfl⟩, ⟨_, _, rfl, (by first | rfl | simp), rfl⟩, ⟨_, _, rfl, (by first | rfl | simp), rfl⟩, ⟨_, _, rfl, (by first | rfl | simp), rfl⟩, trivial⟩, hi1330, Nat.lt_succ_self _⟩
          · replace hm := if_f h1332 hm
            cases hm
            cases hi1330
            have hm := hk1328
            cases hm
            exact RetY.le (leD.refl _)
        · replace hm := if_f h1331 hm
          cases hm
          cases hi1330
          have hm := hk1328
          cases hm
          exact RetY.le (leD.refl _)
    · replace hm := if_f h1216 hm
      cases hm
      cases hi1215
      have hm := hk1213
      obtain ⟨ev1464, he, hk1465⟩ := bd_some hm
      refine LoopY.of (fun (lpx : Nat × (Int × (List TSighting) × (List TSighting))) => match lpx with | (fu1466, i1394, v1395, v1396) => (⟨[(0, .agg [.lst 1 r_.Rows.length (r_.Rows.flatMap (fun (x : (List (Int × Int × Int × Int))) => [.lst 4 x.length (x.flatMap (fun (x : (Int × Int × Int × Int)) => [DI x.1, DI x.2.1, DI x.2.2.1, DI x.2.2.2]))])), .lst 4 r_.Sheets.length (r_.Sheets.flatMap (fun (x : (Int × Int × Int × Int)) => [DI x.1, DI x.2.1, DI x.2.2.1, DI x.2.2.2])), .lst 3 r_.Roofs.length (r_.Roofs.flatMap (fun (x : (Int × Int × Int)) => [DI x.1, DI x.2.1, DI x.2.2])), .lst 4 r_.Sightings.length (r_.Sightings.flatMap (fun (x : (Int × Int × Int × Int)) => [DI x.1, DI x.2.1, DI x.2.2.1, DI x.2.2.2])), DI r_.Off]), (1, .own 0 0), (2, .own 1 0), (3, .own 2 0), (4, DI i29), (8, DI i1051), (11, DI i1394), (24, DB false), (94, DB false)], [(0, .blk [.lst 1 r_.Rows.length (r_.Rows.flatMap (fun (x : (List (Int × Int × Int × Int))) => [.lst 4 x.length (x.flatMap (fun (x : (Int × Int × Int × Int)) => [DI x.1, DI x.2.1, DI x.2.2.1, DI x.2.2.2]))])), .lst 4 r_.Sheets.length (r_.Sheets.flatMap (fun (x : (Int × Int × Int × Int)) => [DI x.1, DI x.2.1, DI x.2.2.1, DI x.2.2.2])), .lst 3 r_.Roofs.length (r_.Roofs.flatMap (fun (x : (Int × Int × Int)) => [DI x.1, DI x.2.1, DI x.2.2])), .lst 4 r_.Sightings.length (r_.Sightings.flatMap (fun (x : (Int × Int × Int × Int)) => [DI x.1, DI x.2.1, DI x.2.2.1, DI x.2.2.2])), DI r_.Off] 26), (1, .blk [.v (.slice none 0 0), .v (.slice none 0 0), .v (.slice none 0 0)] 32), (2, .blk [.row 4 9, .row 5 3, .row 7 6] 32), (3, .row 9 v30.length (v30.flatMap TSheet.c) 41), (4, .row 9 v31.length (v31.flatMap TSheet.c) 41), (5, .row 3 v1052.length (v1052.flatMap TRoof.c) 58), (6, .row 6 v1395.length (v1395.flatMap TSighting.c) 43), (7, .row 6 v1396.length (v1396.flatMap TSighting.c) 43)], 8⟩ : Sy)) (fun lpx => loopO (m_R02_Made_L3 r_ v31 v1052) lpx.1 lpx.2 = some ev1464) (fun lpx => lpx.1) (FUEL, (0, [], [])) (SubY.of 6 rfl ⟨⟨_, rfl, leD.refl _⟩, ⟨_, rfl, leD.refl _⟩, ⟨_, rfl, leD.refl _⟩, ⟨_, rfl, leD.refl _⟩, ⟨_, rfl, leD.refl _⟩, ⟨_, rfl, leD.refl _⟩, ⟨_, rfl, leD.refl _⟩, ⟨_, rfl, leD.refl _⟩, ⟨_, rfl, leD.refl _⟩, trivial⟩ ⟨⟨_, rfl, leDL.refl _⟩, ⟨_, rfl, leDL.refl _⟩, ⟨_, rfl, leDL.refl _⟩, ⟨_, _, rfl, (by first | rfl | simp), rfl⟩, ⟨_, _, rfl, (by first | rfl | simp), rfl⟩, ⟨_, _, rfl, (by first | rfl | simp), rfl⟩, ⟨rfl, rfl⟩, ⟨rfl, rfl⟩, trivial⟩) he ?_
      rintro ⟨fu1466, i1394, v1395, v1396⟩ hi1467
      obtain ⟨fu1466, b, rfl, hm, hi1467⟩ := loop_step hi1467
      refine VIf.mk (fun (h1468 : (decide (i1394 < (r_.Sightings.length : Int))) = true) => ?_) (fun (h1468 : (decide (i1394 < (r_.Sightings.length : Int))) = false) => ?_)
      · replace hm := if_t h1468 hm
        refine VIf.mk (fun (h1469 : (decide (i1394 < 6)) = true) => ?_) (fun (h1469 : (decide (i1394 < 6)) = false) => ?_)
        · replace hm := if_t h1469 hm
          obtain ⟨e1470, hx1471, hm⟩ := bd_some hm
          refine ⟨_, el_idx (fun _ => rfl) hx1471, ?_⟩
          refine ⟨rfl, ?_⟩
          refine ⟨by decide, ?_⟩
          refine ⟨by decide, ?_⟩
          refine ⟨by decide, ?_⟩
          obtain ⟨x1472, hx1473, hm⟩ := bd_some hm
          refine CallY.det (d_R02_Mod e1470.1 2 _ hx1473) ?_
          obtain ⟨x1474, hx1475, hm⟩ := bd_some hm
          refine CallY.det (d_R02_Mod e1470.2.1 1440 _ hx1475) ?_
          obtain ⟨x1476, hx1477, hm⟩ := bd_some hm
          refine CallY.det (d_R02_Mod e1470.2.2.2 20 _ hx1477) ?_
          obtain ⟨x1478, hx1479, hm⟩ := bd_some hm
          refine CallOwn.det (d_R02_inForce ((⟨v31, v1052, v1396⟩ : TSky)) (W (x1472 + 5)) 20 _ hx1479) ?_
          refine VIf.mk (fun (h1480 : (decide (x1478 < 0)) = true) => ?_) (fun (h1480 : (decide (x1478 < 0)) = false) => ?_)
          · replace hm := if_t h1480 hm
            cases hm
            exact ⟨(fu1466, ((W (i1394 + 1)), v1395, v1396)), SubY.of 8 rfl ⟨⟨_, rfl, leD.refl _⟩, ⟨_, rfl, leD.refl _⟩, ⟨_, rfl, leD.refl _⟩, ⟨_, rfl, leD.refl _⟩, ⟨_, rfl, leD.refl _⟩, ⟨_, rfl, leD.refl _⟩, ⟨_, rfl, leD.refl _⟩, ⟨_, rfl, leD.refl _⟩, ⟨_, rfl, leD.refl _⟩, trivial⟩ ⟨⟨_, rfl, leDL.refl _⟩, ⟨_, rfl, leDL.refl _⟩, ⟨_, rfl, leDL.refl _⟩, ⟨_, _, rfl, (by first | rfl | simp), rfl⟩, ⟨_, _, rfl, (by first | rfl | simp), rfl⟩, ⟨_, _, rfl, (by first | rfl | simp), rfl⟩, ⟨_, _, rfl, (by first | rfl | simp), rfl⟩, ⟨_, _, rfl, (by first | rfl | simp), rfl⟩, trivial⟩, hi1467, Nat.lt_succ_self _⟩
          · replace hm := if_f h1480 hm
            refine ⟨rfl, ?_⟩
            obtain ⟨e1481, hx1482, hm⟩ := bd_some hm
            refine ⟨idx_bd hx1482, ?_⟩
            obtain ⟨e1483, hx1484, hm⟩ := bd_some hm
            refine ⟨_, el_row (fun _ => rfl) hx1484, ?_⟩
            obtain ⟨x1485, hx1486, hm⟩ := bd_some hm
            refine CallY.det (d_R02_True e1483 r_.Off _ hx1486) ?_
            refine ⟨rfl, ?_⟩
            obtain ⟨e1487, hx1488, hm⟩ := bd_some hm
            refine ⟨idx_bd hx1488, ?_⟩
            obtain ⟨e1489, hx1490, hm⟩ := bd_some hm
            refine ⟨_, el_row (fun _ => rfl) hx1490, ?_⟩
            obtain ⟨x1491, hx1492, hm⟩ := bd_some hm
            refine CallOwn.det (d_R02_margin e1489 v1052 x1474 _ hx1492) ?_
            obtain ⟨x1493, hx1494, hm⟩ := bd_some hm
            refine CallY.det (d_R02_minus x1491 _ hx1494) ?_
            obtain ⟨x1495, hx1496, hm⟩ := bd_some hm
            refine CallY.det (d_R02_sign x1485 x1493 _ hx1496) ?_
            refine ⟨by decide, ?_⟩
            obtain ⟨x1497, hx1498, hm⟩ := bd_some hm
            refine CallY.det (d_R02_Mod e1470.2.2.1 9 _ hx1498) ?_
            refine VIf.mk (fun (h1499 : (x1497 == 8) = true) => ?_) (fun (h1499 : (x1497 == 8) = false) => ?_)
            · replace hm := if_t h1499 hm
              refine ⟨([(⟨(W ((W (5 * i1394)) + 40)), (W (x1472 + 5)), x1474, (!(decide (x1495 > 0))), x1476, 0⟩ : TSighting)] : List TSighting).flatMap TSighting.c, ([(⟨(W ((W (5 * i1394)) + 40)), (W (x1472 + 5)), x1474, (!(decide (x1495 > 0))), x1476, 0⟩ : TSighting)] : List TSighting).length, ⟨rfl, rfl⟩, ?_⟩
              obtain ⟨hg, hm⟩ := gd_some hm
              refine ⟨hg, _, _, flat_app (c := TSighting.c) (l := (v1396 : List TSighting)) (r := (([(⟨(W ((W (5 * i1394)) + 40)), (W (x1472 + 5)), x1474, (!(decide (x1495 > 0))), x1476, 0⟩ : TSighting)] : List TSighting) : List TSighting)), ?_⟩
              cases hm
              exact ⟨(fu1466, ((W (i1394 + 1)), v1395, (v1396 ++ ([(⟨(W ((W (5 * i1394)) + 40)), (W (x1472 + 5)), x1474, (!(decide (x1495 > 0))), x1476, 0⟩ : TSighting)] : List TSighting)))), SubY.of 8 rfl ⟨⟨_, rfl, leD.refl _⟩, ⟨_, rfl, leD.refl _⟩, ⟨_, rfl, leD.refl _⟩, ⟨_, rfl, leD.refl _⟩, ⟨_, rfl, leD.refl _⟩, ⟨_, rfl, leD.refl _⟩, ⟨_, rfl, leD.refl _⟩, ⟨_, rfl, leD.refl _⟩, ⟨_, rfl, leD.refl _⟩, trivial⟩ ⟨⟨_, rfl, leDL.refl _⟩, ⟨_, rfl, leDL.refl _⟩, ⟨_, rfl, leDL.refl _⟩, ⟨_, _, rfl, (by first | rfl | simp), rfl⟩, ⟨_, _, rfl, (by first | rfl | simp), rfl⟩, ⟨_, _, rfl, (by first | rfl | simp), rfl⟩, ⟨_, _, rfl, (by first | rfl | simp), rfl⟩, ⟨_, _, rfl, (by first | rfl | simp), rfl⟩, trivial⟩, hi1467, Nat.lt_succ_self _⟩
            · replace hm := if_f h1499 hm
              refine ⟨([(⟨(W ((W (5 * i1394)) + 40)), (W (x1472 + 5)), x1474, (decide (x1495 > 0)), x1476, 0⟩ : TSighting)] : List TSighting).flatMap TSighting.c, ([(⟨(W ((W (5 * i1394)) + 40)), (W (x1472 + 5)), x1474, (decide (x1495 > 0)), x1476, 0⟩ : TSighting)] : List TSighting).length, ⟨rfl, rfl⟩, ?_⟩
              obtain ⟨hg, hm⟩ := gd_some hm
              refine ⟨hg, _, _, flat_app (c := TSighting.c) (l := (v1396 : List TSighting)) (r := (([(⟨(W ((W (5 * i1394)) + 40)), (W (x1472 + 5)), x1474, (decide (x1495 > 0)), x1476, 0⟩ : TSighting)] : List TSighting) : List TSighting)), ?_⟩
              cases hm
              exact ⟨(fu1466, ((W (i1394 + 1)), v1395, (v1396 ++ ([(⟨(W ((W (5 * i1394)) + 40)), (W (x1472 + 5)), x1474, (decide (x1495 > 0)), x1476, 0⟩ : TSighting)] : List TSighting)))), SubY.of 8 rfl ⟨⟨_, rfl, leD.refl _⟩, ⟨_, rfl, leD.refl _⟩, ⟨_, rfl, leD.refl _⟩, ⟨_, rfl, leD.refl _⟩, ⟨_, rfl, leD.refl _⟩, ⟨_, rfl, leD.refl _⟩, ⟨_, rfl, leD.refl _⟩, ⟨_, rfl, leD.refl _⟩, ⟨_, rfl, leD.refl _⟩, trivial⟩ ⟨⟨_, rfl, leDL.refl _⟩, ⟨_, rfl, leDL.refl _⟩, ⟨_, rfl, leDL.refl _⟩, ⟨_, _, rfl, (by first | rfl | simp), rfl⟩, ⟨_, _, rfl, (by first | rfl | simp), rfl⟩, ⟨_, _, rfl, (by first | rfl | simp), rfl⟩, ⟨_, _, rfl, (by first | rfl | simp), rfl⟩, ⟨_, _, rfl, (by first | rfl | simp), rfl⟩, trivial⟩, hi1467, Nat.lt_succ_self _⟩
        · replace hm := if_f h1469 hm
          cases hm
          cases hi1467
          have hm := hk1465
          cases hm
          exact RetY.le (leD.refl _)
      · replace hm := if_f h1468 hm
        cases hm
        cases hi1467
        have hm := hk1465
        cases hm
        exact RetY.le (leD.refl _)

def m_moon_within (n : Int) (lo : Int) (hi : Int) : Option Bool :=
  if (decide (lo ≤ n)) = true then
    some (decide (n ≤ hi))
  else
    some false
set_option maxRecDepth 100000 in
set_option maxHeartbeats 2000000 in
theorem d_moon_within (n : Int) (lo : Int) (hi : Int) (r : Bool) (hm : m_moon_within n lo hi = some r) : Does Try.prog 121 [DI n, DI lo, DI hi] (fun x => x = DB r) := by
  refine does_y (X := ⟨Try.prog, tt, Try.f121.ntmps, [], [], [], []⟩) pok _ Try.func121 rfl rfl (Nat.le_of_ble_eq_true rfl) ?_
  refine VIf.mk (fun (h1 : (decide (lo ≤ n)) = true) => ?_) (fun (h1 : (decide (lo ≤ n)) = false) => ?_)
  · replace hm := if_t h1 hm
    cases hm
    exact RetY.le (leD.refl _)
  · replace hm := if_f h1 hm
    cases hm
    exact RetY.le (leD.refl _)

def m_moon_isMinute (n : Int) : Option Bool :=
  Option.bind (m_moon_within n 0 1439) fun x1 =>
  some x1
set_option maxRecDepth 100000 in
set_option maxHeartbeats 2000000 in
theorem d_moon_isMinute (n : Int) (r : Bool) (hm : m_moon_isMinute n = some r) : Does Try.prog 88 [DI n] (fun x => x = DB r) := by
  refine does_y (X := ⟨Try.prog, tt, Try.f88.ntmps, [], [], [], []⟩) pok _ Try.func88 rfl rfl (Nat.le_of_ble_eq_true rfl) ?_
  obtain ⟨x1, hx2, hm⟩ := bd_some hm
  refine CallY.det (d_moon_within n 0 1439 _ hx2) ?_
  cases hm
  exact RetY.le (leD.refl _)

def m_moon_CheckRoof (r_ : TRoof) : Option Int :=
  if (decide (0 > r_.From)) = true then
    some 22
  else
    if (decide (r_.From ≥ r_.To)) = true then
      some 22
    else
      if (decide (r_.To > 360)) = true then
        some 22
      else
        Option.bind (m_moon_within r_.Top 0 90) fun x4 =>
        if (!x4) = true then
          some 22
        else
          some 0
set_option maxRecDepth 100000 in
set_option maxHeartbeats 2000000 in
theorem d_moon_CheckRoof (r_ : TRoof) (r : Int) (hm : m_moon_CheckRoof r_ = some r) : Does Try.prog 129 [.agg (TRoof.c r_)] (fun x => x = DI r) := by
  refine does_y (X := ⟨Try.prog, tt, Try.f129.ntmps, [], [], [], []⟩) pok _ Try.func129 rfl rfl (Nat.le_of_ble_eq_true rfl) ?_
  refine VIf.mk (fun (h1 : (decide (0 > r_.From)) = true) => ?_) (fun (h1 : (decide (0 > r_.From)) = false) => ?_)
  · replace hm := if_t h1 hm
    cases hm
    exact RetY.le (leD.refl _)
  · replace hm := if_f h1 hm
    refine VIf.mk (fun (h2 : (decide (r_.From ≥ r_.To)) = true) => ?_) (fun (h2 : (decide (r_.From ≥ r_.To)) = false) => ?_)
    · replace hm := if_t h2 hm
      cases hm
      exact RetY.le (leD.refl _)
    · replace hm := if_f h2 hm
      refine VIf.mk (fun (h3 : (decide (r_.To > 360)) = true) => ?_) (fun (h3 : (decide (r_.To > 360)) = false) => ?_)
      · replace hm := if_t h3 hm
        cases hm
        exact RetY.le (leD.refl _)
      · replace hm := if_f h3 hm
        obtain ⟨x4, hx5, hm⟩ := bd_some hm
        refine CallY.det (d_moon_within r_.Top 0 90 _ hx5) ?_
        refine VIf.mk (fun (h6 : (!x4) = true) => ?_) (fun (h6 : (!x4) = false) => ?_)
        · replace hm := if_t h6 hm
          cases hm
          exact RetY.le (leD.refl _)
        · replace hm := if_f h6 hm
          cases hm
          exact RetY.le (leD.refl _)

def m_moon_areRoofs_L1 (l : (List TRoof)) : Int → Option (Sum Int (Sum Int Bool)) := fun v7 =>
  if (decide (v7 < (l.length : Int))) = true then
    Option.bind (idx l v7) fun e15 =>
    Option.bind (m_moon_CheckRoof e15) fun x17 =>
    if (x17 != 0) = true then
      some (.inr (.inr false))
    else
      some (.inl (W (v7 + 1)))
  else
    some (.inr (.inl v7))
def m_moon_areRoofs (l : (List TRoof)) : Option Bool :=
  Option.bind (loopF (m_moon_areRoofs_L1 l) 0) fun e =>
  match e with
  | .inl v20 =>
    some (decide ((l.length : Int) ≤ 12))
  | .inr rr21 =>
    some rr21
set_option maxRecDepth 100000 in
set_option maxHeartbeats 2000000 in
theorem d_moon_areRoofs (l : (List TRoof)) (r : Bool) (hm : m_moon_areRoofs l = some r) : Does Try.prog 83 [.lst 3 l.length (l.flatMap TRoof.c)] (fun x => x = DB r) := by
  refine does_y (X := ⟨Try.prog, tt, Try.f83.ntmps, [], [], [], []⟩) pok _ Try.func83 rfl rfl (Nat.le_of_ble_eq_true rfl) ?_
  obtain ⟨ev22, he, hk23⟩ := bd_some hm
  refine LoopY.of (fun (lpx : Nat × Int) => match lpx with | (fu24, v7) => (⟨[(0, .lst 3 l.length (l.flatMap TRoof.c)), (2, DB false), (5, .lst 3 l.length (l.flatMap TRoof.c)), (6, DI (l.length : Int)), (7, DI v7)], [], 0⟩ : Sy)) (fun lpx => loopO (m_moon_areRoofs_L1 l) lpx.1 lpx.2 = some ev22) (fun lpx => lpx.1) (FUEL, 0) (SubY.of 0 rfl ⟨⟨_, rfl, leD.refl _⟩, ⟨_, rfl, leD.refl _⟩, ⟨_, rfl, leD.refl _⟩, ⟨_, rfl, leD.refl _⟩, ⟨_, rfl, leD.refl _⟩, trivial⟩ trivial) he ?_
  rintro ⟨fu24, v7⟩ hi25
  obtain ⟨fu24, b, rfl, hm, hi25⟩ := loop_step hi25
  refine VIf.mk (fun (h26 : (decide (v7 < (l.length : Int))) = true) => ?_) (fun (h26 : (decide (v7 < (l.length : Int))) = false) => ?_)
  · replace hm := if_t h26 hm
    obtain ⟨e27, hx28, hm⟩ := bd_some hm
    refine ⟨_, el_idx (fun _ => rfl) hx28, ?_⟩
    obtain ⟨x29, hx30, hm⟩ := bd_some hm
    refine CallY.det (d_moon_CheckRoof e27 _ hx30) ?_
    refine VIf.mk (fun (h31 : (x29 != 0) = true) => ?_) (fun (h31 : (x29 != 0) = false) => ?_)
    · replace hm := if_t h31 hm
      cases hm
      cases hi25
      have hm := hk23
      cases hm
      exact RetY.le (leD.refl _)
    · replace hm := if_f h31 hm
      cases hm
      exact ⟨(fu24, (W (v7 + 1))), SubY.of 0 rfl ⟨⟨_, rfl, leD.refl _⟩, ⟨_, rfl, leD.refl _⟩, ⟨_, rfl, leD.refl _⟩, ⟨_, rfl, leD.refl _⟩, ⟨_, rfl, leD.refl _⟩, trivial⟩ trivial, hi25, Nat.lt_succ_self _⟩
  · replace hm := if_f h26 hm
    cases hm
    cases hi25
    have hm := hk23
    cases hm
    exact RetY.le (leD.refl _)

def m_moon_isFrac (x : TFrac) (most : Int) : Option Bool :=
  Option.bind (m_moon_within x.Den 1 most) fun x1 =>
  if x1 = true then
    Option.bind (m_moon_within x.Num (W ((-360) * x.Den)) (W (360 * x.Den))) fun x4 =>
    some x4
  else
    some false
set_option maxRecDepth 100000 in
set_option maxHeartbeats 2000000 in
theorem d_moon_isFrac (x : TFrac) (most : Int) (r : Bool) (hm : m_moon_isFrac x most = some r) : Does Try.prog 69 [.agg (TFrac.c x), DI most] (fun x => x = DB r) := by
  refine does_y (X := ⟨Try.prog, tt, Try.f69.ntmps, [], [], [], []⟩) pok _ Try.func69 rfl rfl (Nat.le_of_ble_eq_true rfl) ?_
  obtain ⟨x1, hx2, hm⟩ := bd_some hm
  refine CallY.det (d_moon_within x.Den 1 most _ hx2) ?_
  refine VIf.mk (fun (h3 : x1 = true) => ?_) (fun (h3 : x1 = false) => ?_)
  · replace hm := if_t h3 hm
    obtain ⟨x4, hx5, hm⟩ := bd_some hm
    refine CallY.det (d_moon_within x.Num (W ((-360) * x.Den)) (W (360 * x.Den)) _ hx5) ?_
    cases hm
    exact RetY.le (leD.refl _)
  · replace hm := if_f h3 hm
    cases hm
    exact RetY.le (leD.refl _)

def m_moon_gcd_L1 : (Int × Int) → Option (Sum (Int × Int) (Int × Int)) := fun (a2, b3) =>
  if (b3 != 0) = true then
    gd (b3 ≠ 0) <|
    some (.inl (b3, (a2.tmod b3)))
  else
    some (.inr (a2, b3))
def m_moon_gcd (a : Int) (b_ : Int) : Option Int :=
  Option.bind (loopF m_moon_gcd_L1 (a, b_)) fun (a6, b7) =>
  some (if (W (0 - a6)) > a6 then (W (0 - a6)) else a6)
set_option maxRecDepth 100000 in
set_option maxHeartbeats 2000000 in
theorem d_moon_gcd (a : Int) (b_ : Int) (r : Int) (hm : m_moon_gcd a b_ = some r) : Does Try.prog 144 [DI a, DI b_] (fun x => x = DI r) := by
  refine does_y (X := ⟨Try.prog, tt, Try.f144.ntmps, pl144, [], [], []⟩) pok _ Try.func144 rfl rfl (Nat.le_of_ble_eq_true rfl) ?_
  obtain ⟨ev8, he, hk9⟩ := bd_some hm
  refine LoopY.of (fun (lpx : Nat × (Int × Int)) => match lpx with | (fu10, a2, b3) => (⟨[(0, DI a2), (1, DI b3), (4, DI 0)], [], 0⟩ : Sy)) (fun lpx => loopO m_moon_gcd_L1 lpx.1 lpx.2 = some ev8) (fun lpx => lpx.1) (FUEL, (a, b_)) (SubY.of 0 rfl ⟨⟨_, rfl, leD.refl _⟩, ⟨_, rfl, leD.refl _⟩, ⟨_, rfl, leD.refl _⟩, trivial⟩ trivial) he ?_
  rintro ⟨fu10, a2, b3⟩ hi11
  obtain ⟨fu10, b, rfl, hm, hi11⟩ := loop_step hi11
  refine VIf.mk (fun (h12 : (b3 != 0) = true) => ?_) (fun (h12 : (b3 != 0) = false) => ?_)
  · replace hm := if_t h12 hm
    refine ⟨rfl, ?_⟩
    obtain ⟨hg, hm⟩ := gd_some hm
    refine ⟨hg, ?_⟩
    cases hm
    exact ⟨(fu10, (b3, (a2.tmod b3))), SubY.of 0 rfl ⟨⟨_, rfl, leD.refl _⟩, ⟨_, rfl, leD.refl _⟩, ⟨_, rfl, leD.refl _⟩, trivial⟩ trivial, hi11, Nat.lt_succ_self _⟩
  · replace hm := if_f h12 hm
    cases hm
    cases hi11
    have hm := hk9
    cases hm
    exact RetY.le (leD.refl _)

def m_moon_least (num : Int) (den : Int) : Option TFrac :=
  Option.bind (m_moon_gcd num den) fun x1 =>
  gd (x1 ≠ 0) <|
  gd (x1 ≠ 0) <|
  some (⟨(W (num.tdiv x1)), (W (den.tdiv x1))⟩ : TFrac)
set_option maxRecDepth 100000 in
set_option maxHeartbeats 2000000 in
theorem d_moon_least (num : Int) (den : Int) (r : TFrac) (hm : m_moon_least num den = some r) : Does Try.prog 120 [DI num, DI den] (fun x => x = .agg (TFrac.c r)) := by
  refine does_y (X := ⟨Try.prog, tt, Try.f120.ntmps, pl120, [], [], []⟩) pok _ Try.func120 rfl rfl (Nat.le_of_ble_eq_true rfl) ?_
  obtain ⟨x1, hx2, hm⟩ := bd_some hm
  refine CallY.det (d_moon_gcd num den _ hx2) ?_
  refine ⟨rfl, ?_⟩
  obtain ⟨hg, hm⟩ := gd_some hm
  refine ⟨hg, ?_⟩
  obtain ⟨hg, hm⟩ := gd_some hm
  refine ⟨hg, ?_⟩
  cases hm
  exact RetY.le (leD.refl _)

def m_moon_reduced (x : TFrac) : Option TFrac :=
  Option.bind (m_moon_least x.Num x.Den) fun x1 =>
  some x1
set_option maxRecDepth 100000 in
set_option maxHeartbeats 2000000 in
theorem d_moon_reduced (x : TFrac) (r : TFrac) (hm : m_moon_reduced x = some r) : Does Try.prog 68 [.agg (TFrac.c x)] (fun x => x = .agg (TFrac.c r)) := by
  refine does_y (X := ⟨Try.prog, tt, Try.f68.ntmps, [], [], [], []⟩) pok _ Try.func68 rfl rfl (Nat.le_of_ble_eq_true rfl) ?_
  obtain ⟨x1, hx2, hm⟩ := bd_some hm
  refine CallY.det (d_moon_least x.Num x.Den _ hx2) ?_
  cases hm
  exact RetY.le (leD.refl _)

def m_cmp_isNaN_int (x : Int) : Option Bool :=
  some (x != x)
set_option maxRecDepth 100000 in
set_option maxHeartbeats 2000000 in
theorem d_cmp_isNaN_int (x : Int) (r : Bool) (hm : m_cmp_isNaN_int x = some r) : Does Try.prog 145 [DI x] (fun x => x = DB r) := by
  refine does_y (X := ⟨Try.prog, tt, Try.f145.ntmps, [], [], [], []⟩) pok _ Try.func145 rfl rfl (Nat.le_of_ble_eq_true rfl) ?_
  cases hm
  exact RetY.le (leD.refl _)

def m_cmp_Compare_int (x : Int) (y : Int) : Option Int :=
  Option.bind (m_cmp_isNaN_int x) fun x1 =>
  Option.bind (m_cmp_isNaN_int y) fun x3 =>
  if x1 = true then
    if x3 = true then
      some 0
    else
      some (-1)
  else
    if x3 = true then
      some 1
    else
      if (decide (x < y)) = true then
        some (-1)
      else
        if (decide (x > y)) = true then
          some 1
        else
          some 0
set_option maxRecDepth 100000 in
set_option maxHeartbeats 2000000 in
theorem d_cmp_Compare_int (x : Int) (y : Int) (r : Int) (hm : m_cmp_Compare_int x y = some r) : Does Try.prog 122 [DI x, DI y] (fun x => x = DI r) := by
  refine does_y (X := ⟨Try.prog, tt, Try.f122.ntmps, [], [], [], []⟩) pok _ Try.func122 rfl rfl (Nat.le_of_ble_eq_true rfl) ?_
  obtain ⟨x1, hx2, hm⟩ := bd_some hm
  refine CallY.det (d_cmp_isNaN_int x _ hx2) ?_
  obtain ⟨x3, hx4, hm⟩ := bd_some hm
  refine CallY.det (d_cmp_isNaN_int y _ hx4) ?_
  refine VIf.mk (fun (h5 : x1 = true) => ?_) (fun (h5 : x1 = false) => ?_)
  · replace hm := if_t h5 hm
    refine VIf.mk (fun (h6 : x3 = true) => ?_) (fun (h6 : x3 = false) => ?_)
    · replace hm := if_t h6 hm
      cases hm
      exact RetY.le (leD.refl _)
    · replace hm := if_f h6 hm
      cases hm
      exact RetY.le (leD.refl _)
  · replace hm := if_f h5 hm
    refine VIf.mk (fun (h7 : x3 = true) => ?_) (fun (h7 : x3 = false) => ?_)
    · replace hm := if_t h7 hm
      cases hm
      exact RetY.le (leD.refl _)
    · replace hm := if_f h7 hm
      refine VIf.mk (fun (h8 : (decide (x < y)) = true) => ?_) (fun (h8 : (decide (x < y)) = false) => ?_)
      · replace hm := if_t h8 hm
        cases hm
        exact RetY.le (leD.refl _)
      · replace hm := if_f h8 hm
        refine VIf.mk (fun (h9 : (decide (x > y)) = true) => ?_) (fun (h9 : (decide (x > y)) = false) => ?_)
        · replace hm := if_t h9 hm
          cases hm
          exact RetY.le (leD.refl _)
        · replace hm := if_f h9 hm
          cases hm
          exact RetY.le (leD.refl _)

def m_moon_compare (x : TFrac) (y : TFrac) : Option Int :=
  Option.bind (m_moon_reduced x) fun x1 =>
  Option.bind (m_moon_reduced y) fun x3 =>
  if ((x1.Num == x3.Num) && (x1.Den == x3.Den)) = true then
    some 0
  else
    Option.bind (m_cmp_Compare_int (W (x.Num * y.Den)) (W (y.Num * x.Den))) fun x6 =>
    some x6
set_option maxRecDepth 100000 in
set_option maxHeartbeats 2000000 in
theorem d_moon_compare (x : TFrac) (y : TFrac) (r : Int) (hm : m_moon_compare x y = some r) : Does Try.prog 70 [.agg (TFrac.c x), .agg (TFrac.c y)] (fun x => x = DI r) := by
  refine does_y (X := ⟨Try.prog, tt, Try.f70.ntmps, pl70, [], [], []⟩) pok _ Try.func70 rfl rfl (Nat.le_of_ble_eq_true rfl) ?_
  refine ⟨rfl, ?_⟩
  obtain ⟨x1, hx2, hm⟩ := bd_some hm
  refine CallY.det (d_moon_reduced x _ hx2) ?_
  obtain ⟨x3, hx4, hm⟩ := bd_some hm
  refine CallY.det (d_moon_reduced y _ hx4) ?_
  refine VIf.mk (fun (h5 : ((x1.Num == x3.Num) && (x1.Den == x3.Den)) = true) => ?_) (fun (h5 : ((x1.Num == x3.Num) && (x1.Den == x3.Den)) = false) => ?_)
  · replace hm := if_t h5 hm
    cases hm
    exact RetY.le (leD.refl _)
  · replace hm := if_f h5 hm
    obtain ⟨x6, hx7, hm⟩ := bd_some hm
    refine CallY.det (d_cmp_Compare_int (W (x.Num * y.Den)) (W (y.Num * x.Den)) _ hx7) ?_
    cases hm
    exact RetY.le (leD.refl _)

def m_moon_isNight (n : Int) : Option Bool :=
  Option.bind (m_moon_within n 0 100000) fun x1 =>
  some x1
set_option maxRecDepth 100000 in
set_option maxHeartbeats 2000000 in
theorem d_moon_isNight (n : Int) (r : Bool) (hm : m_moon_isNight n = some r) : Does Try.prog 98 [DI n] (fun x => x = DB r) := by
  refine does_y (X := ⟨Try.prog, tt, Try.f98.ntmps, [], [], [], []⟩) pok _ Try.func98 rfl rfl (Nat.le_of_ble_eq_true rfl) ?_
  obtain ⟨x1, hx2, hm⟩ := bd_some hm
  refine CallY.det (d_moon_within n 0 100000 _ hx2) ?_
  cases hm
  exact RetY.le (leD.refl _)

def m_moon_lasts (known : Int) (until_ : Int) : Option Bool :=
  Option.bind (m_moon_isNight known) fun x1 =>
  if x1 = true then
    if (until_ == 0) = true then
      some true
    else
      if (decide (known < until_)) = true then
        Option.bind (m_moon_isNight until_) fun x6 =>
        some x6
      else
        some false
  else
    some false
set_option maxRecDepth 100000 in
set_option maxHeartbeats 2000000 in
theorem d_moon_lasts (known : Int) (until_ : Int) (r : Bool) (hm : m_moon_lasts known until_ = some r) : Does Try.prog 132 [DI known, DI until_] (fun x => x = DB r) := by
  refine does_y (X := ⟨Try.prog, tt, Try.f132.ntmps, [], [], [], []⟩) pok _ Try.func132 rfl rfl (Nat.le_of_ble_eq_true rfl) ?_
  obtain ⟨x1, hx2, hm⟩ := bd_some hm
  refine CallY.det (d_moon_isNight known _ hx2) ?_
  refine VIf.mk (fun (h3 : x1 = true) => ?_) (fun (h3 : x1 = false) => ?_)
  · replace hm := if_t h3 hm
    refine VIf.mk (fun (h4 : (until_ == 0) = true) => ?_) (fun (h4 : (until_ == 0) = false) => ?_)
    · replace hm := if_t h4 hm
      cases hm
      exact RetY.le (leD.refl _)
    · replace hm := if_f h4 hm
      refine VIf.mk (fun (h5 : (decide (known < until_)) = true) => ?_) (fun (h5 : (decide (known < until_)) = false) => ?_)
      · replace hm := if_t h5 hm
        obtain ⟨x6, hx7, hm⟩ := bd_some hm
        refine CallY.det (d_moon_isNight until_ _ hx7) ?_
        cases hm
        exact RetY.le (leD.refl _)
      · replace hm := if_f h5 hm
        cases hm
        exact RetY.le (leD.refl _)
  · replace hm := if_f h3 hm
    cases hm
    exact RetY.le (leD.refl _)

def m_moon_isRow (r_ : TRow) : Option Bool :=
  Option.bind (m_moon_isFrac r_.Height 100) fun x1 =>
  if x1 = true then
    Option.bind (m_moon_within r_.Height.Num (W ((-90) * r_.Height.Den)) (W (90 * r_.Height.Den))) fun x4 =>
    if x4 = true then
      Option.bind (m_moon_isFrac r_.Bearing 100) fun x7 =>
      if x7 = true then
        if (decide (0 ≤ r_.Bearing.Num)) = true then
          some (decide (r_.Bearing.Num < (W (360 * r_.Bearing.Den))))
        else
          some false
      else
        some false
    else
      some false
  else
    some false
set_option maxRecDepth 100000 in
set_option maxHeartbeats 2000000 in
theorem d_moon_isRow (r_ : TRow) (r : Bool) (hm : m_moon_isRow r_ = some r) : Does Try.prog 133 [.agg (TRow.c r_)] (fun x => x = DB r) := by
  refine does_y (X := ⟨Try.prog, tt, Try.f133.ntmps, [], [], [], []⟩) pok _ Try.func133 rfl rfl (Nat.le_of_ble_eq_true rfl) ?_
  obtain ⟨x1, hx2, hm⟩ := bd_some hm
  refine CallY.det (d_moon_isFrac r_.Height 100 _ hx2) ?_
  refine VIf.mk (fun (h3 : x1 = true) => ?_) (fun (h3 : x1 = false) => ?_)
  · replace hm := if_t h3 hm
    obtain ⟨x4, hx5, hm⟩ := bd_some hm
    refine CallY.det (d_moon_within r_.Height.Num (W ((-90) * r_.Height.Den)) (W (90 * r_.Height.Den)) _ hx5) ?_
    refine VIf.mk (fun (h6 : x4 = true) => ?_) (fun (h6 : x4 = false) => ?_)
    · replace hm := if_t h6 hm
      obtain ⟨x7, hx8, hm⟩ := bd_some hm
      refine CallY.det (d_moon_isFrac r_.Bearing 100 _ hx8) ?_
      refine VIf.mk (fun (h9 : x7 = true) => ?_) (fun (h9 : x7 = false) => ?_)
      · replace hm := if_t h9 hm
        refine VIf.mk (fun (h10 : (decide (0 ≤ r_.Bearing.Num)) = true) => ?_) (fun (h10 : (decide (0 ≤ r_.Bearing.Num)) = false) => ?_)
        · replace hm := if_t h10 hm
          cases hm
          exact RetY.le (leD.refl _)
        · replace hm := if_f h10 hm
          cases hm
          exact RetY.le (leD.refl _)
      · replace hm := if_f h9 hm
        cases hm
        exact RetY.le (leD.refl _)
    · replace hm := if_f h6 hm
      cases hm
      exact RetY.le (leD.refl _)
  · replace hm := if_f h3 hm
    cases hm
    exact RetY.le (leD.refl _)

def m_moon_CheckSheet_L1 (s : TSheet) : Int → Option (Sum Int (Sum Int Int)) := fun v28 =>
  if (decide (v28 < (s.Rows.length : Int))) = true then
    Option.bind (idx s.Rows v28) fun e45 =>
    Option.bind (m_moon_isRow e45) fun x47 =>
    if (!x47) = true then
      some (.inr (.inr 21))
    else
      if (decide (v28 > 0)) = true then
        Option.bind (idx s.Rows (W (v28 - 1))) fun e51 =>
        if (decide (e51.Minute ≥ e45.Minute)) = true then
          some (.inr (.inr 21))
        else
          Option.bind (idx s.Rows (W (v28 - 1))) fun e54 =>
          Option.bind (m_moon_compare e54.Bearing e45.Bearing) fun x56 =>
          if (decide (x56 > 0)) = true then
            some (.inr (.inr 21))
          else
            some (.inl (W (v28 + 1)))
      else
        some (.inl (W (v28 + 1)))
  else
    some (.inr (.inl v28))
def m_moon_CheckSheet (s : TSheet) : Option Int :=
  Option.bind (m_moon_within s.Source 1 99999) fun x1 =>
  if (!x1) = true then
    some 21
  else
    Option.bind (m_moon_isNight s.Night) fun x4 =>
    if (!x4) = true then
      some 21
    else
      Option.bind (m_moon_lasts s.Known s.Until) fun x7 =>
      if (!x7) = true then
        some 21
      else
        Option.bind (m_moon_within (s.Rows.length : Int) 2 12) fun x10 =>
        if (!x10) = true then
          some 21
        else
          Option.bind (m_moon_isFrac s.Off 100) fun x13 =>
          if (!x13) = true then
            some 21
          else
            Option.bind (m_moon_within s.Off.Num 0 (W (90 * s.Off.Den))) fun x16 =>
            if (!x16) = true then
              some 21
            else
              if (decide (0 > s.Light.Lo)) = true then
                some 21
              else
                if (decide (s.Light.Lo > s.Light.Hi)) = true then
                  some 21
                else
                  if (decide (s.Light.Hi > 1000)) = true then
                    some 21
                  else
                    Option.bind (loopF (m_moon_CheckSheet_L1 s) 0) fun e =>
                    match e with
                    | .inl v59 =>
                      Option.bind (idx s.Rows 0) fun e60 =>
                      if (e60.Minute != 0) = true then
                        some 21
                      else
                        Option.bind (idx s.Rows (W ((s.Rows.length : Int) - 1))) fun e63 =>
                        if (e63.Minute != 1439) = true then
                          some 21
                        else
                          some 0
                    | .inr rr66 =>
                      some rr66
set_option maxRecDepth 100000 in
set_option maxHeartbeats 2000000 in
theorem d_moon_CheckSheet (s : TSheet) (r : Int) (hm : m_moon_CheckSheet s = some r) : Does Try.prog 87 [.agg (TSheet.c s)] (fun x => x = DI r) := by
  refine does_y (X := ⟨Try.prog, tt, Try.f87.ntmps, pl87, [], [], []⟩) pok _ Try.func87 rfl rfl (Nat.le_of_ble_eq_true rfl) ?_
  obtain ⟨x1, hx2, hm⟩ := bd_some hm
  refine CallY.det (d_moon_within s.Source 1 99999 _ hx2) ?_
  refine VIf.mk (fun (h3 : (!x1) = true) => ?_) (fun (h3 : (!x1) = false) => ?_)
  · replace hm := if_t h3 hm
    cases hm
    exact RetY.le (leD.refl _)
  · replace hm := if_f h3 hm
    obtain ⟨x4, hx5, hm⟩ := bd_some hm
    refine CallY.det (d_moon_isNight s.Night _ hx5) ?_
    refine VIf.mk (fun (h6 : (!x4) = true) => ?_) (fun (h6 : (!x4) = false) => ?_)
    · replace hm := if_t h6 hm
      cases hm
      exact RetY.le (leD.refl _)
    · replace hm := if_f h6 hm
      obtain ⟨x7, hx8, hm⟩ := bd_some hm
      refine CallY.det (d_moon_lasts s.Known s.Until _ hx8) ?_
      refine VIf.mk (fun (h9 : (!x7) = true) => ?_) (fun (h9 : (!x7) = false) => ?_)
      · replace hm := if_t h9 hm
        cases hm
        exact RetY.le (leD.refl _)
      · replace hm := if_f h9 hm
        obtain ⟨x10, hx11, hm⟩ := bd_some hm
        refine CallY.det (d_moon_within ((s.Rows.length : Int)) 2 12 _ hx11) ?_
        refine VIf.mk (fun (h12 : (!x10) = true) => ?_) (fun (h12 : (!x10) = false) => ?_)
        · replace hm := if_t h12 hm
          cases hm
          exact RetY.le (leD.refl _)
        · replace hm := if_f h12 hm
          obtain ⟨x13, hx14, hm⟩ := bd_some hm
          refine CallY.det (d_moon_isFrac s.Off 100 _ hx14) ?_
          refine VIf.mk (fun (h15 : (!x13) = true) => ?_) (fun (h15 : (!x13) = false) => ?_)
          · replace hm := if_t h15 hm
            cases hm
            exact RetY.le (leD.refl _)
          · replace hm := if_f h15 hm
            obtain ⟨x16, hx17, hm⟩ := bd_some hm
            refine CallY.det (d_moon_within s.Off.Num 0 (W (90 * s.Off.Den)) _ hx17) ?_
            refine VIf.mk (fun (h18 : (!x16) = true) => ?_) (fun (h18 : (!x16) = false) => ?_)
            · replace hm := if_t h18 hm
              cases hm
              exact RetY.le (leD.refl _)
            · replace hm := if_f h18 hm
              refine VIf.mk (fun (h19 : (decide (0 > s.Light.Lo)) = true) => ?_) (fun (h19 : (decide (0 > s.Light.Lo)) = false) => ?_)
              · replace hm := if_t h19 hm
                cases hm
                exact RetY.le (leD.refl _)
              · replace hm := if_f h19 hm
                refine VIf.mk (fun (h20 : (decide (s.Light.Lo > s.Light.Hi)) = true) => ?_) (fun (h20 : (decide (s.Light.Lo > s.Light.Hi)) = false) => ?_)
                · replace hm := if_t h20 hm
                  cases hm
                  exact RetY.le (leD.refl _)
                · replace hm := if_f h20 hm
                  refine VIf.mk (fun (h21 : (decide (s.Light.Hi > 1000)) = true) => ?_) (fun (h21 : (decide (s.Light.Hi > 1000)) = false) => ?_)
                  · replace hm := if_t h21 hm
                    cases hm
                    exact RetY.le (leD.refl _)
                  · replace hm := if_f h21 hm
                    obtain ⟨ev67, he, hk68⟩ := bd_some hm
                    refine LoopY.of (fun (lpx : Nat × Int) => match lpx with | (fu69, v28) => (⟨[(0, .agg [DI s.Source, DI s.Night, DI s.Known, DI s.Until, .lst 5 s.Rows.length (s.Rows.flatMap TRow.c), DI s.Off.Num, DI s.Off.Den, DI s.Light.Lo, DI s.Light.Hi]), (1, .own 0 0), (2, DI 0), (67, DB (decide (s.Light.Hi > 1000))), (69, .lst 5 s.Rows.length (s.Rows.flatMap TRow.c)), (70, DI (s.Rows.length : Int)), (71, DI v28)], [(0, .blk [DI s.Source, DI s.Night, DI s.Known, DI s.Until, .lst 5 s.Rows.length (s.Rows.flatMap TRow.c), DI s.Off.Num, DI s.Off.Den, DI s.Light.Lo, DI s.Light.Hi] 41)], 1⟩ : Sy)) (fun lpx => loopO (m_moon_CheckSheet_L1 s) lpx.1 lpx.2 = some ev67) (fun lpx => lpx.1) (FUEL, 0) (SubY.of 1 rfl ⟨⟨_, rfl, leD.refl _⟩, ⟨_, rfl, leD.refl _⟩, ⟨_, rfl, leD.refl _⟩, ⟨_, rfl, leD.refl _⟩, ⟨_, rfl, leD.refl _⟩, ⟨_, rfl, leD.refl _⟩, ⟨_, rfl, leD.refl _⟩, trivial⟩ ⟨⟨_, rfl, leDL.refl _⟩, trivial⟩) he ?_
                    rintro ⟨fu69, v28⟩ hi70
                    obtain ⟨fu69, b, rfl, hm, hi70⟩ := loop_step hi70
                    refine VIf.mk (fun (h71 : (decide (v28 < (s.Rows.length : Int))) = true) => ?_) (fun (h71 : (decide (v28 < (s.Rows.length : Int))) = false) => ?_)
                    · replace hm := if_t h71 hm
                      obtain ⟨e72, hx73, hm⟩ := bd_some hm
                      refine ⟨_, el_idx (fun _ => rfl) hx73, ?_⟩
                      refine ⟨rfl, ?_⟩
                      obtain ⟨x74, hx75, hm⟩ := bd_some hm
                      refine CallY.det (d_moon_isRow e72 _ hx75) ?_
                      refine VIf.mk (fun (h76 : (!x74) = true) => ?_) (fun (h76 : (!x74) = false) => ?_)
                      · replace hm := if_t h76 hm
                        cases hm
                        cases hi70
                        have hm := hk68
                        cases hm
                        exact RetY.le (leD.refl _)
                      · replace hm := if_f h76 hm
                        refine VIf.mk (fun (h77 : (decide (v28 > 0)) = true) => ?_) (fun (h77 : (decide (v28 > 0)) = false) => ?_)
                        · replace hm := if_t h77 hm
                          obtain ⟨e78, hx79, hm⟩ := bd_some hm
                          refine ⟨_, el_idx (fun _ => rfl) hx79, ?_⟩
                          refine VIf.mk (fun (h80 : (decide (e78.Minute ≥ e72.Minute)) = true) => ?_) (fun (h80 : (decide (e78.Minute ≥ e72.Minute)) = false) => ?_)
                          · replace hm := if_t h80 hm
                            cases hm
                            cases hi70
                            have hm := hk68
                            cases hm
                            exact RetY.le (leD.refl _)
                          · replace hm := if_f h80 hm
                            obtain ⟨e81, hx82, hm⟩ := bd_some hm
                            refine ⟨_, el_idx (fun _ => rfl) hx82, ?_⟩
                            obtain ⟨x83, hx84, hm⟩ := bd_some hm
                            refine CallY.det (d_moon_compare e81.Bearing e72.Bearing _ hx84) ?_
                            refine VIf.mk (fun (h85 : (decide (x83 > 0)) = true) => ?_) (fun (h85 : (decide (x83 > 0)) = false) => ?_)
                            · replace hm := if_t h85 hm
                              cases hm
                              cases hi70
                              have hm := hk68
                              cases hm
                              exact RetY.le (leD.refl _)
                            · replace hm := if_f h85 hm
                              cases hm
                              exact ⟨(fu69, (W (v28 + 1))), SubY.of 1 rfl ⟨⟨_, rfl, leD.refl _⟩, ⟨_, rfl, leD.refl _⟩, ⟨_, rfl, leD.refl _⟩, ⟨_, rfl, leD.refl _⟩, ⟨_, rfl, leD.refl _⟩, ⟨_, rfl, leD.refl _⟩, ⟨_, rfl, leD.refl _⟩, trivial⟩ ⟨⟨_, rfl, leDL.refl _⟩, trivial⟩, hi70, Nat.lt_succ_self _⟩
                        · replace hm := if_f h77 hm
                          cases hm
                          exact ⟨(fu69, (W (v28 + 1))), SubY.of 1 rfl ⟨⟨_, rfl, leD.refl _⟩, ⟨_, rfl, leD.refl _⟩, ⟨_, rfl, leD.refl _⟩, ⟨_, rfl, leD.refl _⟩, ⟨_, rfl, leD.refl _⟩, ⟨_, rfl, leD.refl _⟩, ⟨_, rfl, leD.refl _⟩, trivial⟩ ⟨⟨_, rfl, leDL.refl _⟩, trivial⟩, hi70, Nat.lt_succ_self _⟩
                    · replace hm := if_f h71 hm
                      cases hm
                      cases hi70
                      have hm := hk68
                      obtain ⟨e86, hx87, hm⟩ := bd_some hm
                      refine ⟨_, el_idx (fun _ => rfl) hx87, ?_⟩
                      refine VIf.mk (fun (h88 : (e86.Minute != 0) = true) => ?_) (fun (h88 : (e86.Minute != 0) = false) => ?_)
                      · replace hm := if_t h88 hm
                        cases hm
                        exact RetY.le (leD.refl _)
                      · replace hm := if_f h88 hm
                        obtain ⟨e89, hx90, hm⟩ := bd_some hm
                        refine ⟨_, el_idx (fun _ => rfl) hx90, ?_⟩
                        refine VIf.mk (fun (h91 : (e89.Minute != 1439) = true) => ?_) (fun (h91 : (e89.Minute != 1439) = false) => ?_)
                        · replace hm := if_t h91 hm
                          cases hm
                          exact RetY.le (leD.refl _)
                        · replace hm := if_f h91 hm
                          cases hm
                          exact RetY.le (leD.refl _)

def m_moon_CheckSighting (s : TSighting) : Option Int :=
  Option.bind (m_moon_within s.Source 1 99999) fun x1 =>
  if (!x1) = true then
    some 23
  else
    Option.bind (m_moon_isNight s.Night) fun x4 =>
    if (!x4) = true then
      some 23
    else
      Option.bind (m_moon_isMinute s.Minute) fun x7 =>
      if (!x7) = true then
        some 23
      else
        Option.bind (m_moon_lasts s.Known s.Until) fun x10 =>
        if (!x10) = true then
          some 23
        else
          some 0
set_option maxRecDepth 100000 in
set_option maxHeartbeats 2000000 in
theorem d_moon_CheckSighting (s : TSighting) (r : Int) (hm : m_moon_CheckSighting s = some r) : Does Try.prog 138 [.agg (TSighting.c s)] (fun x => x = DI r) := by
  refine does_y (X := ⟨Try.prog, tt, Try.f138.ntmps, [], [], [], []⟩) pok _ Try.func138 rfl rfl (Nat.le_of_ble_eq_true rfl) ?_
  obtain ⟨x1, hx2, hm⟩ := bd_some hm
  refine CallY.det (d_moon_within s.Source 1 99999 _ hx2) ?_
  refine VIf.mk (fun (h3 : (!x1) = true) => ?_) (fun (h3 : (!x1) = false) => ?_)
  · replace hm := if_t h3 hm
    cases hm
    exact RetY.le (leD.refl _)
  · replace hm := if_f h3 hm
    obtain ⟨x4, hx5, hm⟩ := bd_some hm
    refine CallY.det (d_moon_isNight s.Night _ hx5) ?_
    refine VIf.mk (fun (h6 : (!x4) = true) => ?_) (fun (h6 : (!x4) = false) => ?_)
    · replace hm := if_t h6 hm
      cases hm
      exact RetY.le (leD.refl _)
    · replace hm := if_f h6 hm
      obtain ⟨x7, hx8, hm⟩ := bd_some hm
      refine CallY.det (d_moon_isMinute s.Minute _ hx8) ?_
      refine VIf.mk (fun (h9 : (!x7) = true) => ?_) (fun (h9 : (!x7) = false) => ?_)
      · replace hm := if_t h9 hm
        cases hm
        exact RetY.le (leD.refl _)
      · replace hm := if_f h9 hm
        obtain ⟨x10, hx11, hm⟩ := bd_some hm
        refine CallY.det (d_moon_lasts s.Known s.Until _ hx11) ?_
        refine VIf.mk (fun (h12 : (!x10) = true) => ?_) (fun (h12 : (!x10) = false) => ?_)
        · replace hm := if_t h12 hm
          cases hm
          exact RetY.le (leD.refl _)
        · replace hm := if_f h12 hm
          cases hm
          exact RetY.le (leD.refl _)

def m_moon_Check_L1 (s : TSky) : Int → Option (Sum Int (Sum Int Int)) := fun v12 =>
  if (decide (v12 < (s.Sheets.length : Int))) = true then
    Option.bind (idx s.Sheets v12) fun e24 =>
    Option.bind (m_moon_CheckSheet e24) fun x26 =>
    if (x26 != 0) = true then
      some (.inr (.inr 24))
    else
      if (decide (v12 > 0)) = true then
        Option.bind (idx s.Sheets (W (v12 - 1))) fun e30 =>
        if (decide (e30.Source ≥ e24.Source)) = true then
          some (.inr (.inr 24))
        else
          some (.inl (W (v12 + 1)))
      else
        some (.inl (W (v12 + 1)))
  else
    some (.inr (.inl v12))
def m_moon_Check_L2 (s : TSky) : Int → Option (Sum Int (Sum Int Int)) := fun v40 =>
  if (decide (v40 < (s.Sightings.length : Int))) = true then
    Option.bind (idx s.Sightings v40) fun e52 =>
    Option.bind (m_moon_CheckSighting e52) fun x54 =>
    if (x54 != 0) = true then
      some (.inr (.inr 24))
    else
      if (decide (v40 > 0)) = true then
        Option.bind (idx s.Sightings (W (v40 - 1))) fun e58 =>
        if (decide (e58.Source ≥ e52.Source)) = true then
          some (.inr (.inr 24))
        else
          some (.inl (W (v40 + 1)))
      else
        some (.inl (W (v40 + 1)))
  else
    some (.inr (.inl v40))
def m_moon_Check (s : TSky) : Option Int :=
  if (decide ((s.Sheets.length : Int) > 60)) = true then
    some 24
  else
    if (decide ((s.Sightings.length : Int) > 60)) = true then
      some 24
    else
      Option.bind (m_moon_areRoofs s.Roofs) fun x3 =>
      if (!x3) = true then
        some 24
      else
        Option.bind (loopF (m_moon_Check_L1 s) 0) fun e =>
        match e with
        | .inl v33 =>
          Option.bind (loopF (m_moon_Check_L2 s) 0) fun e =>
          match e with
          | .inl v61 =>
            some 0
          | .inr rr62 =>
            some rr62
        | .inr rr77 =>
          some rr77
set_option maxRecDepth 100000 in
set_option maxHeartbeats 2000000 in
theorem d_moon_Check (s : TSky) (r : Int) (hm : m_moon_Check s = some r) : Does Try.prog 97 [.agg (TSky.c s)] (fun x => x = DI r) := by
  refine does_y (X := ⟨Try.prog, tt, Try.f97.ntmps, pl97, [], [], []⟩) pok _ Try.func97 rfl rfl (Nat.le_of_ble_eq_true rfl) ?_
  refine VIf.mk (fun (h1 : (decide ((s.Sheets.length : Int) > 60)) = true) => ?_) (fun (h1 : (decide ((s.Sheets.length : Int) > 60)) = false) => ?_)
  · replace hm := if_t h1 hm
    cases hm
    exact RetY.le (leD.refl _)
  · replace hm := if_f h1 hm
    refine VIf.mk (fun (h2 : (decide ((s.Sightings.length : Int) > 60)) = true) => ?_) (fun (h2 : (decide ((s.Sightings.length : Int) > 60)) = false) => ?_)
    · replace hm := if_t h2 hm
      cases hm
      exact RetY.le (leD.refl _)
    · replace hm := if_f h2 hm
      obtain ⟨x3, hx4, hm⟩ := bd_some hm
      refine CallY.det (d_moon_areRoofs s.Roofs _ hx4) ?_
      refine VIf.mk (fun (h5 : (!x3) = true) => ?_) (fun (h5 : (!x3) = false) => ?_)
      · replace hm := if_t h5 hm
        cases hm
        exact RetY.le (leD.refl _)
      · replace hm := if_f h5 hm
        obtain ⟨ev78, he, hk79⟩ := bd_some hm
        refine LoopY.of (fun (lpx : Nat × Int) => match lpx with | (fu80, v12) => (⟨[(0, .agg [.lst 9 s.Sheets.length (s.Sheets.flatMap TSheet.c), .lst 3 s.Roofs.length (s.Roofs.flatMap TRoof.c), .lst 6 s.Sightings.length (s.Sightings.flatMap TSighting.c)]), (1, .own 0 0), (2, DI 0), (22, DB (!x3)), (24, .lst 9 s.Sheets.length (s.Sheets.flatMap TSheet.c)), (25, DI (s.Sheets.length : Int)), (26, DI v12)], [(0, .blk [.lst 9 s.Sheets.length (s.Sheets.flatMap TSheet.c), .lst 3 s.Roofs.length (s.Roofs.flatMap TRoof.c), .lst 6 s.Sightings.length (s.Sightings.flatMap TSighting.c)] 32)], 1⟩ : Sy)) (fun lpx => loopO (m_moon_Check_L1 s) lpx.1 lpx.2 = some ev78) (fun lpx => lpx.1) (FUEL, 0) (SubY.of 1 rfl ⟨⟨_, rfl, leD.refl _⟩, ⟨_, rfl, leD.refl _⟩, ⟨_, rfl, leD.refl _⟩, ⟨_, rfl, leD.refl _⟩, ⟨_, rfl, leD.refl _⟩, ⟨_, rfl, leD.refl _⟩, ⟨_, rfl, leD.refl _⟩, trivial⟩ ⟨⟨_, rfl, leDL.refl _⟩, trivial⟩) he ?_
        rintro ⟨fu80, v12⟩ hi81
        obtain ⟨fu80, b, rfl, hm, hi81⟩ := loop_step hi81
        refine VIf.mk (fun (h82 : (decide (v12 < (s.Sheets.length : Int))) = true) => ?_) (fun (h82 : (decide (v12 < (s.Sheets.length : Int))) = false) => ?_)
        · replace hm := if_t h82 hm
          obtain ⟨e83, hx84, hm⟩ := bd_some hm
          refine ⟨_, el_idx (fun _ => rfl) hx84, ?_⟩
          refine ⟨rfl, ?_⟩
          obtain ⟨x85, hx86, hm⟩ := bd_some hm
          refine CallY.det (d_moon_CheckSheet e83 _ hx86) ?_
          refine VIf.mk (fun (h87 : (x85 != 0) = true) => ?_) (fun (h87 : (x85 != 0) = false) => ?_)
          · replace hm := if_t h87 hm
            cases hm
            cases hi81
            have hm := hk79
            cases hm
            exact RetY.le (leD.refl _)
          · replace hm := if_f h87 hm
            refine VIf.mk (fun (h88 : (decide (v12 > 0)) = true) => ?_) (fun (h88 : (decide (v12 > 0)) = false) => ?_)
            · replace hm := if_t h88 hm
              obtain ⟨e89, hx90, hm⟩ := bd_some hm
              refine ⟨_, el_idx (fun _ => rfl) hx90, ?_⟩
              refine VIf.mk (fun (h91 : (decide (e89.Source ≥ e83.Source)) = true) => ?_) (fun (h91 : (decide (e89.Source ≥ e83.Source)) = false) => ?_)
              · replace hm := if_t h91 hm
                cases hm
                cases hi81
                have hm := hk79
                cases hm
                exact RetY.le (leD.refl _)
              · replace hm := if_f h91 hm
                cases hm
                exact ⟨(fu80, (W (v12 + 1))), SubY.of 1 rfl ⟨⟨_, rfl, leD.refl _⟩, ⟨_, rfl, leD.refl _⟩, ⟨_, rfl, leD.refl _⟩, ⟨_, rfl, leD.refl _⟩, ⟨_, rfl, leD.refl _⟩, ⟨_, rfl, leD.refl _⟩, ⟨_, rfl, leD.refl _⟩, trivial⟩ ⟨⟨_, rfl, leDL.refl _⟩, trivial⟩, hi81, Nat.lt_succ_self _⟩
            · replace hm := if_f h88 hm
              cases hm
              exact ⟨(fu80, (W (v12 + 1))), SubY.of 1 rfl ⟨⟨_, rfl, leD.refl _⟩, ⟨_, rfl, leD.refl _⟩, ⟨_, rfl, leD.refl _⟩, ⟨_, rfl, leD.refl _⟩, ⟨_, rfl, leD.refl _⟩, ⟨_, rfl, leD.refl _⟩, ⟨_, rfl, leD.refl _⟩, trivial⟩ ⟨⟨_, rfl, leDL.refl _⟩, trivial⟩, hi81, Nat.lt_succ_self _⟩
        · replace hm := if_f h82 hm
          cases hm
          cases hi81
          have hm := hk79
          obtain ⟨ev121, he, hk122⟩ := bd_some hm
          refine LoopY.of (fun (lpx : Nat × Int) => match lpx with | (fu123, v98) => (⟨[(0, .agg [.lst 9 s.Sheets.length (s.Sheets.flatMap TSheet.c), .lst 3 s.Roofs.length (s.Roofs.flatMap TRoof.c), .lst 6 s.Sightings.length (s.Sightings.flatMap TSighting.c)]), (1, .own 0 0), (2, DI 0), (22, DB (!x3)), (24, .lst 9 s.Sheets.length (s.Sheets.flatMap TSheet.c)), (25, DI (s.Sheets.length : Int)), (26, DI v12), (27, DB (decide (v12 < (s.Sheets.length : Int)))), (52, .lst 6 s.Sightings.length (s.Sightings.flatMap TSighting.c)), (53, DI (s.Sightings.length : Int)), (54, DI v98)], [(0, .blk [.lst 9 s.Sheets.length (s.Sheets.flatMap TSheet.c), .lst 3 s.Roofs.length (s.Roofs.flatMap TRoof.c), .lst 6 s.Sightings.length (s.Sightings.flatMap TSighting.c)] 32)], 1⟩ : Sy)) (fun lpx => loopO (m_moon_Check_L2 s) lpx.1 lpx.2 = some ev121) (fun lpx => lpx.1) (FUEL, 0) (SubY.of 1 rfl ⟨⟨_, rfl, leD.refl _⟩, ⟨_, rfl, leD.refl _⟩, ⟨_, rfl, leD.refl _⟩, ⟨_, rfl, leD.refl _⟩, ⟨_, rfl, leD.refl _⟩, ⟨_, rfl, leD.refl _⟩, ⟨_, rfl, leD.refl _⟩, ⟨_, rfl, leD.refl _⟩, ⟨_, rfl, leD.refl _⟩, ⟨_, rfl, leD.refl _⟩, ⟨_, rfl, leD.refl _⟩, trivial⟩ ⟨⟨_, rfl, leDL.refl _⟩, trivial⟩) he ?_
          rintro ⟨fu123, v98⟩ hi124
          obtain ⟨fu123, b, rfl, hm, hi124⟩ := loop_step hi124
          refine VIf.mk (fun (h125 : (decide (v98 < (s.Sightings.length : Int))) = true) => ?_) (fun (h125 : (decide (v98 < (s.Sightings.length : Int))) = false) => ?_)
          · replace hm := if_t h125 hm
            obtain ⟨e126, hx127, hm⟩ := bd_some hm
            refine ⟨_, el_idx (fun _ => rfl) hx127, ?_⟩
            refine ⟨rfl, ?_⟩
            obtain ⟨x128, hx129, hm⟩ := bd_some hm
            refine CallY.det (d_moon_CheckSighting e126 _ hx129) ?_
            refine VIf.mk (fun (h130 : (x128 != 0) = true) => ?_) (fun (h130 : (x128 != 0) = false) => ?_)
            · replace hm := if_t h130 hm
              cases hm
              cases hi124
              have hm := hk122
              cases hm
              exact RetY.le (leD.refl _)
            · replace hm := if_f h130 hm
              refine VIf.mk (fun (h131 : (decide (v98 > 0)) = true) => ?_) (fun (h131 : (decide (v98 > 0)) = false) => ?_)
              · replace hm := if_t h131 hm
                obtain ⟨e132, hx133, hm⟩ := bd_some hm
                refine ⟨_, el_idx (fun _ => rfl) hx133, ?_⟩
                refine VIf.mk (fun (h134 : (decide (e132.Source ≥ e126.Source)) = true) => ?_) (fun (h134 : (decide (e132.Source ≥ e126.Source)) = false) => ?_)
                · replace hm := if_t h134 hm
                  cases hm
                  cases hi124
                  have hm := hk122
                  cases hm
                  exact RetY.le (leD.refl _)
                · replace hm := if_f h134 hm
                  cases hm
                  exact ⟨(fu123, (W (v98 + 1))), SubY.of 1 rfl ⟨⟨_, rfl, leD.refl _⟩, ⟨_, rfl, leD.refl _⟩, ⟨_, rfl, leD.refl _⟩, ⟨_, rfl, leD.refl _⟩, ⟨_, rfl, leD.refl _⟩, ⟨_, rfl, leD.refl _⟩, ⟨_, rfl, leD.refl _⟩, ⟨_, rfl, leD.refl _⟩, ⟨_, rfl, leD.refl _⟩, ⟨_, rfl, leD.refl _⟩, ⟨_, rfl, leD.refl _⟩, trivial⟩ ⟨⟨_, rfl, leDL.refl _⟩, trivial⟩, hi124, Nat.lt_succ_self _⟩
              · replace hm := if_f h131 hm
                cases hm
                exact ⟨(fu123, (W (v98 + 1))), SubY.of 1 rfl ⟨⟨_, rfl, leD.refl _⟩, ⟨_, rfl, leD.refl _⟩, ⟨_, rfl, leD.refl _⟩, ⟨_, rfl, leD.refl _⟩, ⟨_, rfl, leD.refl _⟩, ⟨_, rfl, leD.refl _⟩, ⟨_, rfl, leD.refl _⟩, ⟨_, rfl, leD.refl _⟩, ⟨_, rfl, leD.refl _⟩, ⟨_, rfl, leD.refl _⟩, ⟨_, rfl, leD.refl _⟩, trivial⟩ ⟨⟨_, rfl, leDL.refl _⟩, trivial⟩, hi124, Nat.lt_succ_self _⟩
          · replace hm := if_f h125 hm
            cases hm
            cases hi124
            have hm := hk122
            cases hm
            exact RetY.le (leD.refl _)

def m_moon_counts (from_ : Int) (until_ : Int) (known : Int) : Option Bool :=
  if (decide (from_ ≤ known)) = true then
    if (until_ == 0) = true then
      some true
    else
      some (decide (known < until_))
  else
    some false
set_option maxRecDepth 100000 in
set_option maxHeartbeats 2000000 in
theorem d_moon_counts (from_ : Int) (until_ : Int) (known : Int) (r : Bool) (hm : m_moon_counts from_ until_ known = some r) : Does Try.prog 142 [DI from_, DI until_, DI known] (fun x => x = DB r) := by
  refine does_y (X := ⟨Try.prog, tt, Try.f142.ntmps, [], [], [], []⟩) pok _ Try.func142 rfl rfl (Nat.le_of_ble_eq_true rfl) ?_
  refine VIf.mk (fun (h1 : (decide (from_ ≤ known)) = true) => ?_) (fun (h1 : (decide (from_ ≤ known)) = false) => ?_)
  · replace hm := if_t h1 hm
    refine VIf.mk (fun (h2 : (until_ == 0) = true) => ?_) (fun (h2 : (until_ == 0) = false) => ?_)
    · replace hm := if_t h2 hm
      cases hm
      exact RetY.le (leD.refl _)
    · replace hm := if_f h2 hm
      cases hm
      exact RetY.le (leD.refl _)
  · replace hm := if_f h1 hm
    cases hm
    exact RetY.le (leD.refl _)

def m_moon_inForce_L1 (s : TSky) (night : Int) (as_ : Int) : (Bool × Int × Int × Int × Int × Int × (List TRow) × Int × Int × Int × Int) → Option (Sum (Bool × Int × Int × Int × Int × Int × (List TRow) × Int × Int × Int × Int) (Bool × Int × Int × Int × Int × Int × (List TRow) × Int × Int × Int × Int)) := fun (is8, v9, v10, v11, v12, v13, v14, v15, v16, v17, v18) =>
  if (decide (v9 < (s.Sheets.length : Int))) = true then
    Option.bind (idx s.Sheets v9) fun e29 =>
    if (e29.Night == night) = true then
      Option.bind (m_moon_counts e29.Known e29.Until as_) fun x32 =>
      if x32 = true then
        if (!is8) = true then
          some (.inl (true, (W (v9 + 1)), e29.Source, e29.Night, e29.Known, e29.Until, e29.Rows, e29.Off.Num, e29.Off.Den, e29.Light.Lo, e29.Light.Hi))
        else
          if (decide (e29.Known ≥ v12)) = true then
            some (.inl (true, (W (v9 + 1)), e29.Source, e29.Night, e29.Known, e29.Until, e29.Rows, e29.Off.Num, e29.Off.Den, e29.Light.Lo, e29.Light.Hi))
          else
            some (.inl (is8, (W (v9 + 1)), v10, v11, v12, v13, v14, v15, v16, v17, v18))
      else
        some (.inl (is8, (W (v9 + 1)), v10, v11, v12, v13, v14, v15, v16, v17, v18))
    else
      some (.inl (is8, (W (v9 + 1)), v10, v11, v12, v13, v14, v15, v16, v17, v18))
  else
    some (.inr (is8, v9, v10, v11, v12, v13, v14, v15, v16, v17, v18))
def m_moon_inForce (s : TSky) (night : Int) (as_ : Int) : Option (TSheet × Bool) :=
  Option.bind (loopF (m_moon_inForce_L1 s night as_) (false, 0, 0, 0, 0, 0, [], 0, 0, 0, 0)) fun (is37, v38, v39, v40, v41, v42, v43, v44, v45, v46, v47) =>
  some ((⟨v39, v40, v41, v42, v43, (⟨v44, v45⟩ : TFrac), (⟨v46, v47⟩ : TRange)⟩ : TSheet), is37)
set_option maxRecDepth 100000 in
set_option maxHeartbeats 2000000 in
theorem d_moon_inForce (s : TSky) (night : Int) (as_ : Int) (r : (TSheet × Bool)) (hm : m_moon_inForce s night as_ = some r) : Does Try.prog 116 [.agg (TSky.c s), DI night, DI as_] (fun x => x = .tup [.agg (TSheet.c r.1), DB r.2]) := by
  refine does_y (X := ⟨Try.prog, tt, Try.f116.ntmps, [], [], [], []⟩) pok _ Try.func116 rfl rfl (Nat.le_of_ble_eq_true rfl) ?_
  obtain ⟨ev48, he, hk49⟩ := bd_some hm
  refine LoopY.of (fun (lpx : Nat × (Bool × Int × Int × Int × Int × Int × (List TRow) × Int × Int × Int × Int)) => match lpx with | (fu50, is8, v9, v10, v11, v12, v13, v14, v15, v16, v17, v18) => (⟨[(0, .agg [.lst 9 s.Sheets.length (s.Sheets.flatMap TSheet.c), .lst 3 s.Roofs.length (s.Roofs.flatMap TRoof.c), .lst 6 s.Sightings.length (s.Sightings.flatMap TSighting.c)]), (1, DI night), (2, DI as_), (3, .own 0 0), (6, .own 1 0), (7, DB is8), (11, .lst 9 s.Sheets.length (s.Sheets.flatMap TSheet.c)), (12, DI (s.Sheets.length : Int)), (13, DI v9)], [(0, .blk [.lst 9 s.Sheets.length (s.Sheets.flatMap TSheet.c), .lst 3 s.Roofs.length (s.Roofs.flatMap TRoof.c), .lst 6 s.Sightings.length (s.Sightings.flatMap TSighting.c)] 32), (1, .blk [DI v10, DI v11, DI v12, DI v13, .lst 5 v14.length (v14.flatMap TRow.c), DI v15, DI v16, DI v17, DI v18] 41)], 2⟩ : Sy)) (fun lpx => loopO (m_moon_inForce_L1 s night as_) lpx.1 lpx.2 = some ev48) (fun lpx => lpx.1) (FUEL, (false, 0, 0, 0, 0, 0, [], 0, 0, 0, 0)) (SubY.of 2 rfl ⟨⟨_, rfl, leD.refl _⟩, ⟨_, rfl, leD.refl _⟩, ⟨_, rfl, leD.refl _⟩, ⟨_, rfl, leD.refl _⟩, ⟨_, rfl, leD.refl _⟩, ⟨_, rfl, leD.refl _⟩, ⟨_, rfl, leD.refl _⟩, ⟨_, rfl, leD.refl _⟩, ⟨_, rfl, leD.refl _⟩, trivial⟩ ⟨⟨_, rfl, leDL.refl _⟩, ⟨_, rfl, ⟨leD.refl _, leD.refl _, leD.refl _, leD.refl _, leD.nil, leD.refl _, leD.refl _, leD.refl _, leD.refl _, trivial⟩⟩, trivial⟩) he ?_
  rintro ⟨fu50, is8, v9, v10, v11, v12, v13, v14, v15, v16, v17, v18⟩ hi51
  obtain ⟨fu50, b, rfl, hm, hi51⟩ := loop_step hi51
  refine VIf.mk (fun (h52 : (decide (v9 < (s.Sheets.length : Int))) = true) => ?_) (fun (h52 : (decide (v9 < (s.Sheets.length : Int))) = false) => ?_)
  · replace hm := if_t h52 hm
    obtain ⟨e53, hx54, hm⟩ := bd_some hm
    refine ⟨_, el_idx (fun _ => rfl) hx54, ?_⟩
    refine VIf.mk (fun (h55 : (e53.Night == night) = true) => ?_) (fun (h55 : (e53.Night == night) = false) => ?_)
    · replace hm := if_t h55 hm
      obtain ⟨x56, hx57, hm⟩ := bd_some hm
      refine CallY.det (d_moon_counts e53.Known e53.Until as_ _ hx57) ?_
      refine VIf.mk (fun (h58 : x56 = true) => ?_) (fun (h58 : x56 = false) => ?_)
      · replace hm := if_t h58 hm
        refine VIf.mk (fun (h59 : (!is8) = true) => ?_) (fun (h59 : (!is8) = false) => ?_)
        · replace hm := if_t h59 hm
          cases hm
          exact ⟨(fu50, (true, (W (v9 + 1)), e53.Source, e53.Night, e53.Known, e53.Until, e53.Rows, e53.Off.Num, e53.Off.Den, e53.Light.Lo, e53.Light.Hi)), SubY.of 2 rfl ⟨⟨_, rfl, leD.refl _⟩, ⟨_, rfl, leD.refl _⟩, ⟨_, rfl, leD.refl _⟩, ⟨_, rfl, leD.refl _⟩, ⟨_, rfl, leD.refl _⟩, ⟨_, rfl, leD.refl _⟩, ⟨_, rfl, leD.refl _⟩, ⟨_, rfl, leD.refl _⟩, ⟨_, rfl, leD.refl _⟩, trivial⟩ ⟨⟨_, rfl, leDL.refl _⟩, ⟨_, rfl, leDL.refl _⟩, trivial⟩, hi51, Nat.lt_succ_self _⟩
        · replace hm := if_f h59 hm
          refine VIf.mk (fun (h60 : (decide (e53.Known ≥ v12)) = true) => ?_) (fun (h60 : (decide (e53.Known ≥ v12)) = false) => ?_)
          · replace hm := if_t h60 hm
            cases hm
            exact ⟨(fu50, (true, (W (v9 + 1)), e53.Source, e53.Night, e53.Known, e53.Until, e53.Rows, e53.Off.Num, e53.Off.Den, e53.Light.Lo, e53.Light.Hi)), SubY.of 2 rfl ⟨⟨_, rfl, leD.refl _⟩, ⟨_, rfl, leD.refl _⟩, ⟨_, rfl, leD.refl _⟩, ⟨_, rfl, leD.refl _⟩, ⟨_, rfl, leD.refl _⟩, ⟨_, rfl, leD.refl _⟩, ⟨_, rfl, leD.refl _⟩, ⟨_, rfl, leD.refl _⟩, ⟨_, rfl, leD.refl _⟩, trivial⟩ ⟨⟨_, rfl, leDL.refl _⟩, ⟨_, rfl, leDL.refl _⟩, trivial⟩, hi51, Nat.lt_succ_self _⟩
          · replace hm := if_f h60 hm
            cases hm
            exact ⟨(fu50, (is8, (W (v9 + 1)), v10, v11, v12, v13, v14, v15, v16, v17, v18)), SubY.of 2 rfl ⟨⟨_, rfl, leD.refl _⟩, ⟨_, rfl, leD.refl _⟩, ⟨_, rfl, leD.refl _⟩, ⟨_, rfl, leD.refl _⟩, ⟨_, rfl, leD.refl _⟩, ⟨_, rfl, leD.refl _⟩, ⟨_, rfl, leD.refl _⟩, ⟨_, rfl, leD.refl _⟩, ⟨_, rfl, leD.refl _⟩, trivial⟩ ⟨⟨_, rfl, leDL.refl _⟩, ⟨_, rfl, leDL.refl _⟩, trivial⟩, hi51, Nat.lt_succ_self _⟩
      · replace hm := if_f h58 hm
        cases hm
        exact ⟨(fu50, (is8, (W (v9 + 1)), v10, v11, v12, v13, v14, v15, v16, v17, v18)), SubY.of 2 rfl ⟨⟨_, rfl, leD.refl _⟩, ⟨_, rfl, leD.refl _⟩, ⟨_, rfl, leD.refl _⟩, ⟨_, rfl, leD.refl _⟩, ⟨_, rfl, leD.refl _⟩, ⟨_, rfl, leD.refl _⟩, ⟨_, rfl, leD.refl _⟩, ⟨_, rfl, leD.refl _⟩, ⟨_, rfl, leD.refl _⟩, trivial⟩ ⟨⟨_, rfl, leDL.refl _⟩, ⟨_, rfl, leDL.refl _⟩, trivial⟩, hi51, Nat.lt_succ_self _⟩
    · replace hm := if_f h55 hm
      cases hm
      exact ⟨(fu50, (is8, (W (v9 + 1)), v10, v11, v12, v13, v14, v15, v16, v17, v18)), SubY.of 2 rfl ⟨⟨_, rfl, leD.refl _⟩, ⟨_, rfl, leD.refl _⟩, ⟨_, rfl, leD.refl _⟩, ⟨_, rfl, leD.refl _⟩, ⟨_, rfl, leD.refl _⟩, ⟨_, rfl, leD.refl _⟩, ⟨_, rfl, leD.refl _⟩, ⟨_, rfl, leD.refl _⟩, ⟨_, rfl, leD.refl _⟩, trivial⟩ ⟨⟨_, rfl, leDL.refl _⟩, ⟨_, rfl, leDL.refl _⟩, trivial⟩, hi51, Nat.lt_succ_self _⟩
  · replace hm := if_f h52 hm
    cases hm
    cases hi51
    have hm := hk49
    cases hm
    exact RetY.le (leD.refl _)

def m_slices_Clone_api_Sighting_api_Sighting (s : List TSighting) : Option (List TSighting) := gd (s.length * 48 ≤ 140737488355328 ∧ s.length ≤ 9223372036854775807) (some s)
theorem d_slices_Clone_api_Sighting_api_Sighting (s : List TSighting) (r : List TSighting) (hm : m_slices_Clone_api_Sighting_api_Sighting s = some r) : Does Try.prog 111 [.lst 6 s.length (s.flatMap TSighting.c)] (fun x => x = .lst 6 r.length (r.flatMap TSighting.c)) := by
  obtain ⟨hg, hm⟩ := gd_some hm
  cases hm
  refine does_y (X := ⟨Try.prog, tt, Try.f111.ntmps, [], [], [], []⟩) pok _ Try.func111 rfl rfl (Nat.le_of_ble_eq_true rfl) ?_
  intro b hb
  refine VIf.mk (fun h => ?_) (fun h => ?_)
  · have h0 := hb h
    have h1 : s = [] := List.eq_nil_of_length_eq_zero h0
    subst h1
    exact RetY.le leD.nil
  · refine ⟨[], 0, ⟨rfl, rfl⟩, ?_⟩
    exact ⟨by omega, s.flatMap TSighting.c, s.length, ⟨rfl, Nat.zero_add _⟩, RetY.le (leD.refl _)⟩
theorem u_slices_Clone_api_Sighting_api_Sighting (s : List TSighting) (r : List TSighting) (hm : m_slices_Clone_api_Sighting_api_Sighting s = some r) : DoesU Try.prog 111 [.lst 6 s.length (s.flatMap TSighting.c)] 6 r.length (r.flatMap TSighting.c) 43 := by
  obtain ⟨hg, hm⟩ := gd_some hm
  cases hm
  refine does_u (X := ⟨Try.prog, tt, Try.f111.ntmps, [], [], [], []⟩) pok _ Try.func111 rfl rfl (Nat.le_of_ble_eq_true rfl) ?_
  intro b hb
  refine VIf.mk (fun h => ?_) (fun h => ?_)
  · have h0 := hb h
    have h1 : s = [] := List.eq_nil_of_length_eq_zero h0
    subst h1
    exact ⟨rfl, rfl⟩
  · refine ⟨[], 0, ⟨rfl, rfl⟩, ?_⟩
    exact ⟨by omega, s.flatMap TSighting.c, s.length, ⟨rfl, Nat.zero_add _⟩, ⟨rfl, rfl⟩⟩

def m_moon_sighted_1 (x : TSighting) (c_0 : Int) (c_1 : Int) : Option Bool :=
  if (x.Night != c_0) = true then
    some true
  else
    Option.bind (m_moon_counts x.Known x.Until c_1) fun x2 =>
    some (!x2)
set_option maxRecDepth 100000 in
set_option maxHeartbeats 2000000 in
theorem d_moon_sighted_1 (x : TSighting) (c_0 : Int) (c_1 : Int) (r : Bool) (hm : m_moon_sighted_1 x c_0 c_1 = some r) : Does Try.prog 143 [.agg (TSighting.c x), .ptr [DI c_0] 0, .ptr [DI c_1] 0] (fun x => x = DB r) := by
  refine does_y (X := ⟨Try.prog, tt, Try.f143.ntmps, [], [], [], []⟩) pok _ Try.func143 rfl rfl (Nat.le_of_ble_eq_true rfl) ?_
  refine VIf.mk (fun (h1 : (x.Night != c_0) = true) => ?_) (fun (h1 : (x.Night != c_0) = false) => ?_)
  · replace hm := if_t h1 hm
    cases hm
    exact RetY.le (leD.refl _)
  · replace hm := if_f h1 hm
    obtain ⟨x2, hx3, hm⟩ := bd_some hm
    refine CallY.det (d_moon_counts x.Known x.Until c_1 _ hx3) ?_
    cases hm
    exact RetY.le (leD.refl _)

def m_slices_IndexFunc_api_Sighting_api_Sighting__moon_sighted_1_L1 (s : (List TSighting)) (c1_0 : Int) (c1_1 : Int) : Int → Option (Sum Int (Sum Int Int)) := fun v7 =>
  if (decide (v7 < (s.length : Int))) = true then
    Option.bind (idx s v7) fun e15 =>
    Option.bind (m_moon_sighted_1 e15 c1_0 c1_1) fun x17 =>
    if x17 = true then
      some (.inr (.inr v7))
    else
      some (.inl (W (v7 + 1)))
  else
    some (.inr (.inl v7))
def m_slices_IndexFunc_api_Sighting_api_Sighting__moon_sighted_1 (s : (List TSighting)) (c1_0 : Int) (c1_1 : Int) : Option Int :=
  Option.bind (loopF (m_slices_IndexFunc_api_Sighting_api_Sighting__moon_sighted_1_L1 s c1_0 c1_1) 0) fun e =>
  match e with
  | .inl v20 =>
    some (-1)
  | .inr rr21 =>
    some rr21
set_option maxRecDepth 100000 in
set_option maxHeartbeats 2000000 in
theorem d_slices_IndexFunc_api_Sighting_api_Sighting__moon_sighted_1 (s : (List TSighting)) (c1_0 : Int) (c1_1 : Int) (r : Int) (hm : m_slices_IndexFunc_api_Sighting_api_Sighting__moon_sighted_1 s c1_0 c1_1 = some r) : Does Try.prog 108 [.lst 6 s.length (s.flatMap TSighting.c), .fn 143 [] [.ptr [DI c1_0] 0, .ptr [DI c1_1] 0]] (fun x => x = DI r) := by
  refine does_y (X := ⟨Try.prog, tt, Try.f108.ntmps, [], [], [], []⟩) pok _ Try.func108 rfl rfl (Nat.le_of_ble_eq_true rfl) ?_
  obtain ⟨ev22, he, hk23⟩ := bd_some hm
  refine LoopY.of (fun (lpx : Nat × Int) => match lpx with | (fu24, v7) => (⟨[(0, .lst 6 s.length (s.flatMap TSighting.c)), (1, .fn 143 [] [.ptr [DI c1_0] 0, .ptr [DI c1_1] 0]), (4, DI 0), (7, DI (s.length : Int)), (8, DI v7)], [], 0⟩ : Sy)) (fun lpx => loopO (m_slices_IndexFunc_api_Sighting_api_Sighting__moon_sighted_1_L1 s c1_0 c1_1) lpx.1 lpx.2 = some ev22) (fun lpx => lpx.1) (FUEL, 0) (SubY.of 0 rfl ⟨⟨_, rfl, leD.refl _⟩, ⟨_, rfl, leD.refl _⟩, ⟨_, rfl, leD.refl _⟩, ⟨_, rfl, leD.refl _⟩, ⟨_, rfl, leD.refl _⟩, trivial⟩ trivial) he ?_
  rintro ⟨fu24, v7⟩ hi25
  obtain ⟨fu24, b, rfl, hm, hi25⟩ := loop_step hi25
  refine VIf.mk (fun (h26 : (decide (v7 < (s.length : Int))) = true) => ?_) (fun (h26 : (decide (v7 < (s.length : Int))) = false) => ?_)
  · replace hm := if_t h26 hm
    obtain ⟨e27, hx28, hm⟩ := bd_some hm
    refine ⟨_, el_idx (fun _ => rfl) hx28, ?_⟩
    obtain ⟨x29, hx30, hm⟩ := bd_some hm
    refine CallY.det (d_moon_sighted_1 e27 c1_0 c1_1 _ hx30) ?_
    refine VIf.mk (fun (h31 : x29 = true) => ?_) (fun (h31 : x29 = false) => ?_)
    · replace hm := if_t h31 hm
      cases hm
      cases hi25
      have hm := hk23
      cases hm
      exact RetY.le (leD.refl _)
    · replace hm := if_f h31 hm
      cases hm
      exact ⟨(fu24, (W (v7 + 1))), SubY.of 0 rfl ⟨⟨_, rfl, leD.refl _⟩, ⟨_, rfl, leD.refl _⟩, ⟨_, rfl, leD.refl _⟩, ⟨_, rfl, leD.refl _⟩, ⟨_, rfl, leD.refl _⟩, trivial⟩ trivial, hi25, Nat.lt_succ_self _⟩
  · replace hm := if_f h26 hm
    cases hm
    cases hi25
    have hm := hk23
    cases hm
    exact RetY.le (leD.refl _)

def m_slices_DeleteFunc_api_Sighting_api_Sighting__moon_sighted_1_L1 (c1_0 : Int) (c1_1 : Int) : (Int × Int × (List TSighting)) → Option (Sum (Int × Int × (List TSighting)) (Int × Int × (List TSighting))) := fun (i16, j17, v18) =>
  if (decide (j17 < (v18.length : Int))) = true then
    Option.bind (idx v18 j17) fun e32 =>
    Option.bind (idx v18 j17) fun e34 =>
    Option.bind (m_moon_sighted_1 e34 c1_0 c1_1) fun x36 =>
    if (!x36) = true then
      Option.bind (idx v18 i16) fun e39 =>
      Option.bind (idx v18 i16) fun e41 =>
      some (.inl ((W (i16 + 1)), (W (j17 + 1)), (v18.set i16.toNat e34)))
    else
      some (.inl (i16, (W (j17 + 1)), v18))
  else
    some (.inr (i16, j17, v18))
def m_slices_DeleteFunc_api_Sighting_api_Sighting__moon_sighted_1 (s : (List TSighting)) (c1_0 : Int) (c1_1 : Int) : Option (List TSighting) :=
  Option.bind (m_slices_IndexFunc_api_Sighting_api_Sighting__moon_sighted_1 s c1_0 c1_1) fun x1 =>
  if (x1 == (-1)) = true then
    some s
  else
    Option.bind (loopF (m_slices_DeleteFunc_api_Sighting_api_Sighting__moon_sighted_1_L1 c1_0 c1_1) (x1, (W (x1 + 1)), s)) fun (i43, j44, v45) =>
    gd (0 ≤ i43 ∧ i43.toNat ≤ v45.length ∧ 0 < v45.length) (some (v45.take i43.toNat))
set_option maxRecDepth 100000 in
set_option maxHeartbeats 2000000 in
theorem d_slices_DeleteFunc_api_Sighting_api_Sighting__moon_sighted_1 (s : (List TSighting)) (c1_0 : Int) (c1_1 : Int) (r : (List TSighting)) (hm : m_slices_DeleteFunc_api_Sighting_api_Sighting__moon_sighted_1 s c1_0 c1_1 = some r) : DoesL Try.prog 102 6 s.length (s.flatMap TSighting.c) 43 [.fn 143 [] [.ptr [DI c1_0] 0, .ptr [DI c1_1] 0]] 6 r.length (r.flatMap TSighting.c) := by
  refine does_del (X := ⟨Try.prog, tt, Try.f102.ntmps, [], [], [], []⟩) (t := 30) (ty := 43) (args := [.fn 143 [] [.ptr [DI c1_0] 0, .ptr [DI c1_1] 0]]) pok Try.func102 rfl rfl (Nat.le_of_ble_eq_true rfl) .mk rfl rfl rfl rfl rfl rfl ?_
  obtain ⟨x1, hx2, hm⟩ := bd_some hm
  refine CallOwn.det (d_slices_IndexFunc_api_Sighting_api_Sighting__moon_sighted_1 s c1_0 c1_1 _ hx2) ?_
  refine VIf.mk (fun (h3 : (x1 == (-1)) = true) => ?_) (fun (h3 : (x1 == (-1)) = false) => ?_)
  · replace hm := if_t h3 hm
    cases hm
    exact ⟨rfl, rfl⟩
  · replace hm := if_f h3 hm
    obtain ⟨ev46, he, hk47⟩ := bd_some hm
    refine LoopY.of (fun (lpx : Nat × (Int × Int × (List TSighting))) => match lpx with | (fu48, i16, j17, v18) => (⟨[(0, .row 0 6), (1, .fn 143 [] [.ptr [DI c1_0] 0, .ptr [DI c1_1] 0]), (4, .v (.slice none 0 0)), (5, DI i16), (6, DI j17), (12, DB (x1 == (-1)))], [(0, .row 6 v18.length (v18.flatMap TSighting.c) 43)], 1⟩ : Sy)) (fun lpx => loopO (m_slices_DeleteFunc_api_Sighting_api_Sighting__moon_sighted_1_L1 c1_0 c1_1) lpx.1 lpx.2 = some ev46) (fun lpx => lpx.1) (FUEL, (x1, (W (x1 + 1)), s)) (SubY.of 1 rfl ⟨⟨_, rfl, leD.refl _⟩, ⟨_, rfl, leD.refl _⟩, ⟨_, rfl, leD.refl _⟩, ⟨_, rfl, leD.refl _⟩, ⟨_, rfl, leD.refl _⟩, ⟨_, rfl, leD.refl _⟩, trivial⟩ ⟨⟨_, _, rfl, (by first | rfl | simp), rfl⟩, trivial⟩) he ?_
    rintro ⟨fu48, i16, j17, v18⟩ hi49
    obtain ⟨fu48, b, rfl, hm, hi49⟩ := loop_step hi49
    refine VIf.mk (fun (h50 : (decide (j17 < (v18.length : Int))) = true) => ?_) (fun (h50 : (decide (j17 < (v18.length : Int))) = false) => ?_)
    · replace hm := if_t h50 hm
      obtain ⟨e51, hx52, hm⟩ := bd_some hm
      refine ⟨idx_bd hx52, ?_⟩
      obtain ⟨e53, hx54, hm⟩ := bd_some hm
      refine ⟨_, el_row (fun _ => rfl) hx54, ?_⟩
      obtain ⟨x55, hx56, hm⟩ := bd_some hm
      refine CallY.det (d_moon_sighted_1 e53 c1_0 c1_1 _ hx56) ?_
      refine VIf.mk (fun (h57 : (!x55) = true) => ?_) (fun (h57 : (!x55) = false) => ?_)
      · replace hm := if_t h57 hm
        obtain ⟨e58, hx59, hm⟩ := bd_some hm
        refine ⟨idx_bd hx59, ?_⟩
        obtain ⟨e60, hx61, hm⟩ := bd_some hm
        refine ⟨_, el_row (fun _ => rfl) hx61, _, set_row (y := e53) (fun _ => rfl) hx61, ?_⟩
        cases hm
        exact ⟨(fu48, ((W (i16 + 1)), (W (j17 + 1)), (v18.set i16.toNat e53))), SubY.of 1 rfl ⟨⟨_, rfl, leD.refl _⟩, ⟨_, rfl, leD.refl _⟩, ⟨_, rfl, leD.refl _⟩, ⟨_, rfl, leD.refl _⟩, ⟨_, rfl, leD.refl _⟩, ⟨_, rfl, leD.refl _⟩, trivial⟩ ⟨⟨_, _, rfl, (by first | rfl | simp), rfl⟩, trivial⟩, hi49, Nat.lt_succ_self _⟩
      · replace hm := if_f h57 hm
        cases hm
        exact ⟨(fu48, (i16, (W (j17 + 1)), v18)), SubY.of 1 rfl ⟨⟨_, rfl, leD.refl _⟩, ⟨_, rfl, leD.refl _⟩, ⟨_, rfl, leD.refl _⟩, ⟨_, rfl, leD.refl _⟩, ⟨_, rfl, leD.refl _⟩, ⟨_, rfl, leD.refl _⟩, trivial⟩ ⟨⟨_, _, rfl, (by first | rfl | simp), rfl⟩, trivial⟩, hi49, Nat.lt_succ_self _⟩
    · replace hm := if_f h50 hm
      cases hm
      cases hi49
      have hm := hk47
      obtain ⟨hg, hm⟩ := gd_some hm
      cases hm
      exact del_k (fun _ => rfl) hg

def m_moon_sighted (s : TSky) (night : Int) (as_ : Int) : Option (List TSighting) :=
  Option.bind (m_slices_Clone_api_Sighting_api_Sighting s.Sightings) fun x1 =>
  Option.bind (m_slices_DeleteFunc_api_Sighting_api_Sighting__moon_sighted_1 x1 night as_) fun x3 =>
  some x3
set_option maxRecDepth 100000 in
set_option maxHeartbeats 2000000 in
theorem d_moon_sighted (s : TSky) (night : Int) (as_ : Int) (r : (List TSighting)) (hm : m_moon_sighted s night as_ = some r) : Does Try.prog 117 [.agg (TSky.c s), DI night, DI as_] (fun x => x = .lst 6 r.length (r.flatMap TSighting.c)) := by
  refine does_y (X := ⟨Try.prog, tt, Try.f117.ntmps, [], [100, 102], [107, 111, 139], []⟩) pok _ Try.func117 rfl rfl (Nat.le_of_ble_eq_true rfl) ?_
  obtain ⟨x1, hx2, hm⟩ := bd_some hm
  refine CallU.mk ⟨_, _, _, _, u_slices_Clone_api_Sighting_api_Sighting s.Sightings _ hx2, ?_⟩
  obtain ⟨x3, hx4, hm⟩ := bd_some hm
  refine CallL.mk ⟨_, _, _, _, _, _, _, rfl, d_slices_DeleteFunc_api_Sighting_api_Sighting__moon_sighted_1 x1 night as_ _ hx4, ?_⟩
  cases hm
  exact RetY.le (leD.refl _)

def m_moon_between (h : TFrac) (k : TFrac) (part : Int) (all : Int) : Option TFrac :=
  Option.bind (m_moon_least (W ((W ((W (h.Num * k.Den)) * all)) + (W ((W ((W (k.Num * h.Den)) - (W (h.Num * k.Den)))) * part)))) (W ((W (h.Den * k.Den)) * all))) fun x1 =>
  some x1
set_option maxRecDepth 100000 in
set_option maxHeartbeats 2000000 in
theorem d_moon_between (h : TFrac) (k : TFrac) (part : Int) (all : Int) (r : TFrac) (hm : m_moon_between h k part all = some r) : Does Try.prog 125 [.agg (TFrac.c h), .agg (TFrac.c k), DI part, DI all] (fun x => x = .agg (TFrac.c r)) := by
  refine does_y (X := ⟨Try.prog, tt, Try.f125.ntmps, [], [], [], []⟩) pok _ Try.func125 rfl rfl (Nat.le_of_ble_eq_true rfl) ?_
  obtain ⟨x1, hx2, hm⟩ := bd_some hm
  refine CallY.det (d_moon_least (W ((W ((W (h.Num * k.Den)) * all)) + (W ((W ((W (k.Num * h.Den)) - (W (h.Num * k.Den)))) * part)))) (W ((W (h.Den * k.Den)) * all)) _ hx2) ?_
  cases hm
  exact RetY.le (leD.refl _)

def m_moon_heightOf (r_ : TRow) : Option TFrac :=
  some r_.Height
set_option maxRecDepth 100000 in
set_option maxHeartbeats 2000000 in
theorem d_moon_heightOf (r_ : TRow) (r : TFrac) (hm : m_moon_heightOf r_ = some r) : Does Try.prog 78 [.agg (TRow.c r_)] (fun x => x = .agg (TFrac.c r)) := by
  refine does_y (X := ⟨Try.prog, tt, Try.f78.ntmps, [], [], [], []⟩) pok _ Try.func78 rfl rfl (Nat.le_of_ble_eq_true rfl) ?_
  cases hm
  exact RetY.le (leD.refl _)

def m_moon_bearingOf (r_ : TRow) : Option TFrac :=
  some r_.Bearing
set_option maxRecDepth 100000 in
set_option maxHeartbeats 2000000 in
theorem d_moon_bearingOf (r_ : TRow) (r : TFrac) (hm : m_moon_bearingOf r_ = some r) : Does Try.prog 82 [.agg (TRow.c r_)] (fun x => x = .agg (TFrac.c r)) := by
  refine does_y (X := ⟨Try.prog, tt, Try.f82.ntmps, [], [], [], []⟩) pok _ Try.func82 rfl rfl (Nat.le_of_ble_eq_true rfl) ?_
  cases hm
  exact RetY.le (leD.refl _)

def m_moon_whole (n : Int) : Option TFrac :=
  some (⟨n, 1⟩ : TFrac)
set_option maxRecDepth 100000 in
set_option maxHeartbeats 2000000 in
theorem d_moon_whole (n : Int) (r : TFrac) (hm : m_moon_whole n = some r) : Does Try.prog 130 [DI n] (fun x => x = .agg (TFrac.c r)) := by
  refine does_y (X := ⟨Try.prog, tt, Try.f130.ntmps, [], [], [], []⟩) pok _ Try.func130 rfl rfl (Nat.le_of_ble_eq_true rfl) ?_
  cases hm
  exact RetY.le (leD.refl _)

def m_moon_horizon_L1 (l : (List TRoof)) (bearing : TFrac) : (Int × Int) → Option (Sum (Int × Int) (Int × Int)) := fun (top14, v15) =>
  if (decide (v15 < (l.length : Int))) = true then
    Option.bind (idx l v15) fun e30 =>
    Option.bind (m_moon_whole e30.From) fun x32 =>
    Option.bind (m_moon_compare x32 bearing) fun x34 =>
    if (decide (x34 ≤ 0)) = true then
      Option.bind (m_moon_whole e30.To) fun x37 =>
      Option.bind (m_moon_compare x37 bearing) fun x39 =>
      if (decide (x39 > 0)) = true then
        some (.inl ((if e30.Top > top14 then e30.Top else top14), (W (v15 + 1))))
      else
        some (.inl (top14, (W (v15 + 1))))
    else
      some (.inl (top14, (W (v15 + 1))))
  else
    some (.inr (top14, v15))
def m_moon_horizon (l : (List TRoof)) (bearing : TFrac) : Option Int :=
  Option.bind (loopF (m_moon_horizon_L1 l bearing) (0, 0)) fun (top42, v43) =>
  some top42
set_option maxRecDepth 100000 in
set_option maxHeartbeats 2000000 in
theorem d_moon_horizon (l : (List TRoof)) (bearing : TFrac) (r : Int) (hm : m_moon_horizon l bearing = some r) : Does Try.prog 84 [.lst 3 l.length (l.flatMap TRoof.c), .agg (TFrac.c bearing)] (fun x => x = DI r) := by
  refine does_y (X := ⟨Try.prog, tt, Try.f84.ntmps, pl84, [], [], []⟩) pok _ Try.func84 rfl rfl (Nat.le_of_ble_eq_true rfl) ?_
  obtain ⟨ev44, he, hk45⟩ := bd_some hm
  refine LoopY.of (fun (lpx : Nat × (Int × Int)) => match lpx with | (fu46, top14, v15) => (⟨[(0, .lst 3 l.length (l.flatMap TRoof.c)), (1, .agg [DI bearing.Num, DI bearing.Den]), (3, .own 0 0), (4, DI 0), (5, DI top14), (8, .lst 3 l.length (l.flatMap TRoof.c)), (9, DI (l.length : Int)), (10, DI v15)], [(0, .blk [DI bearing.Num, DI bearing.Den] 37)], 1⟩ : Sy)) (fun lpx => loopO (m_moon_horizon_L1 l bearing) lpx.1 lpx.2 = some ev44) (fun lpx => lpx.1) (FUEL, (0, 0)) (SubY.of 1 rfl ⟨⟨_, rfl, leD.refl _⟩, ⟨_, rfl, leD.refl _⟩, ⟨_, rfl, leD.refl _⟩, ⟨_, rfl, leD.refl _⟩, ⟨_, rfl, leD.refl _⟩, ⟨_, rfl, leD.refl _⟩, ⟨_, rfl, leD.refl _⟩, ⟨_, rfl, leD.refl _⟩, trivial⟩ ⟨⟨_, rfl, leDL.refl _⟩, trivial⟩) he ?_
  rintro ⟨fu46, top14, v15⟩ hi47
  obtain ⟨fu46, b, rfl, hm, hi47⟩ := loop_step hi47
  refine VIf.mk (fun (h48 : (decide (v15 < (l.length : Int))) = true) => ?_) (fun (h48 : (decide (v15 < (l.length : Int))) = false) => ?_)
  · replace hm := if_t h48 hm
    obtain ⟨e49, hx50, hm⟩ := bd_some hm
    refine ⟨_, el_idx (fun _ => rfl) hx50, ?_⟩
    refine ⟨rfl, ?_⟩
    obtain ⟨x51, hx52, hm⟩ := bd_some hm
    refine CallY.det (d_moon_whole e49.From _ hx52) ?_
    obtain ⟨x53, hx54, hm⟩ := bd_some hm
    refine CallY.det (d_moon_compare x51 bearing _ hx54) ?_
    refine VIf.mk (fun (h55 : (decide (x53 ≤ 0)) = true) => ?_) (fun (h55 : (decide (x53 ≤ 0)) = false) => ?_)
    · replace hm := if_t h55 hm
      obtain ⟨x56, hx57, hm⟩ := bd_some hm
      refine CallY.det (d_moon_whole e49.To _ hx57) ?_
      obtain ⟨x58, hx59, hm⟩ := bd_some hm
      refine CallY.det (d_moon_compare x56 bearing _ hx59) ?_
      refine VIf.mk (fun (h60 : (decide (x58 > 0)) = true) => ?_) (fun (h60 : (decide (x58 > 0)) = false) => ?_)
      · replace hm := if_t h60 hm
        cases hm
        exact ⟨(fu46, ((if e49.Top > top14 then e49.Top else top14), (W (v15 + 1)))), SubY.of 1 rfl ⟨⟨_, rfl, leD.refl _⟩, ⟨_, rfl, leD.refl _⟩, ⟨_, rfl, leD.refl _⟩, ⟨_, rfl, leD.refl _⟩, ⟨_, rfl, leD.refl _⟩, ⟨_, rfl, leD.refl _⟩, ⟨_, rfl, leD.refl _⟩, ⟨_, rfl, leD.refl _⟩, trivial⟩ ⟨⟨_, rfl, leDL.refl _⟩, trivial⟩, hi47, Nat.lt_succ_self _⟩
      · replace hm := if_f h60 hm
        cases hm
        exact ⟨(fu46, (top14, (W (v15 + 1)))), SubY.of 1 rfl ⟨⟨_, rfl, leD.refl _⟩, ⟨_, rfl, leD.refl _⟩, ⟨_, rfl, leD.refl _⟩, ⟨_, rfl, leD.refl _⟩, ⟨_, rfl, leD.refl _⟩, ⟨_, rfl, leD.refl _⟩, ⟨_, rfl, leD.refl _⟩, ⟨_, rfl, leD.refl _⟩, trivial⟩ ⟨⟨_, rfl, leDL.refl _⟩, trivial⟩, hi47, Nat.lt_succ_self _⟩
    · replace hm := if_f h55 hm
      cases hm
      exact ⟨(fu46, (top14, (W (v15 + 1)))), SubY.of 1 rfl ⟨⟨_, rfl, leD.refl _⟩, ⟨_, rfl, leD.refl _⟩, ⟨_, rfl, leD.refl _⟩, ⟨_, rfl, leD.refl _⟩, ⟨_, rfl, leD.refl _⟩, ⟨_, rfl, leD.refl _⟩, ⟨_, rfl, leD.refl _⟩, ⟨_, rfl, leD.refl _⟩, trivial⟩ ⟨⟨_, rfl, leDL.refl _⟩, trivial⟩, hi47, Nat.lt_succ_self _⟩
  · replace hm := if_f h48 hm
    cases hm
    cases hi47
    have hm := hk45
    cases hm
    exact RetY.le (leD.refl _)

def m_moon_at__moon_heightOf_L1 (s : TSheet) (minute : Int) : Int → Option (Sum Int Int) := fun i4 =>
  Option.bind (idx s.Rows (W (i4 + 1))) fun e8 =>
  if (decide (e8.Minute < minute)) = true then
    some (.inl (W (i4 + 1)))
  else
    some (.inr i4)
def m_moon_at__moon_heightOf (s : TSheet) (minute : Int) : Option TFrac :=
  Option.bind (loopF (m_moon_at__moon_heightOf_L1 s minute) 0) fun i11 =>
  Option.bind (idx s.Rows i11) fun e12 =>
  Option.bind (idx s.Rows (W (i11 + 1))) fun e14 =>
  Option.bind (m_moon_heightOf e12) fun x16 =>
  Option.bind (m_moon_heightOf e14) fun x18 =>
  Option.bind (m_moon_between x16 x18 (W (minute - e12.Minute)) (W (e14.Minute - e12.Minute))) fun x20 =>
  some x20
set_option maxRecDepth 100000 in
set_option maxHeartbeats 2000000 in
theorem d_moon_at__moon_heightOf (s : TSheet) (minute : Int) (r : TFrac) (hm : m_moon_at__moon_heightOf s minute = some r) : Does Try.prog 77 [.agg (TSheet.c s), DI minute, .fn 78 [] []] (fun x => x = .agg (TFrac.c r)) := by
  refine does_y (X := ⟨Try.prog, tt, Try.f77.ntmps, pl77, [], [], []⟩) pok _ Try.func77 rfl rfl (Nat.le_of_ble_eq_true rfl) ?_
  obtain ⟨ev22, he, hk23⟩ := bd_some hm
  refine LoopY.of (fun (lpx : Nat × Int) => match lpx with | (fu24, i4) => (⟨[(0, .agg [DI s.Source, DI s.Night, DI s.Known, DI s.Until, .lst 5 s.Rows.length (s.Rows.flatMap TRow.c), DI s.Off.Num, DI s.Off.Den, DI s.Light.Lo, DI s.Light.Hi]), (1, DI minute), (2, .fn 78 [] []), (3, .own 0 0), (6, .own 1 0), (7, DI i4)], [(0, .blk [DI s.Source, DI s.Night, DI s.Known, DI s.Until, .lst 5 s.Rows.length (s.Rows.flatMap TRow.c), DI s.Off.Num, DI s.Off.Den, DI s.Light.Lo, DI s.Light.Hi] 41), (1, .blk [DI 0, DI 0] 37)], 2⟩ : Sy)) (fun lpx => loopO (m_moon_at__moon_heightOf_L1 s minute) lpx.1 lpx.2 = some ev22) (fun lpx => lpx.1) (FUEL, 0) (SubY.of 2 rfl ⟨⟨_, rfl, leD.refl _⟩, ⟨_, rfl, leD.refl _⟩, ⟨_, rfl, leD.refl _⟩, ⟨_, rfl, leD.refl _⟩, ⟨_, rfl, leD.refl _⟩, ⟨_, rfl, leD.refl _⟩, trivial⟩ ⟨⟨_, rfl, leDL.refl _⟩, ⟨_, rfl, leDL.refl _⟩, trivial⟩) he ?_
  rintro ⟨fu24, i4⟩ hi25
  obtain ⟨fu24, b, rfl, hm, hi25⟩ := loop_step hi25
  obtain ⟨e26, hx27, hm⟩ := bd_some hm
  refine ⟨_, el_idx (fun _ => rfl) hx27, ?_⟩
  refine VIf.mk (fun (h28 : (decide (e26.Minute < minute)) = true) => ?_) (fun (h28 : (decide (e26.Minute < minute)) = false) => ?_)
  · replace hm := if_t h28 hm
    cases hm
    exact ⟨(fu24, (W (i4 + 1))), SubY.of 2 rfl ⟨⟨_, rfl, leD.refl _⟩, ⟨_, rfl, leD.refl _⟩, ⟨_, rfl, leD.refl _⟩, ⟨_, rfl, leD.refl _⟩, ⟨_, rfl, leD.refl _⟩, ⟨_, rfl, leD.refl _⟩, trivial⟩ ⟨⟨_, rfl, leDL.refl _⟩, ⟨_, rfl, leDL.refl _⟩, trivial⟩, hi25, Nat.lt_succ_self _⟩
  · replace hm := if_f h28 hm
    cases hm
    cases hi25
    have hm := hk23
    refine ⟨rfl, ?_⟩
    obtain ⟨e29, hx30, hm⟩ := bd_some hm
    refine ⟨_, el_idx (fun _ => rfl) hx30, ?_⟩
    obtain ⟨e31, hx32, hm⟩ := bd_some hm
    refine ⟨_, el_idx (fun _ => rfl) hx32, ?_⟩
    refine ⟨rfl, ?_⟩
    obtain ⟨x33, hx34, hm⟩ := bd_some hm
    refine CallY.det (d_moon_heightOf e29 _ hx34) ?_
    obtain ⟨x35, hx36, hm⟩ := bd_some hm
    refine CallY.det (d_moon_heightOf e31 _ hx36) ?_
    obtain ⟨x37, hx38, hm⟩ := bd_some hm
    refine CallY.det (d_moon_between x33 x35 (W (minute - e29.Minute)) (W (e31.Minute - e29.Minute)) _ hx38) ?_
    cases hm
    exact RetY.le (leD.refl _)

def m_moon_at__moon_bearingOf_L1 (s : TSheet) (minute : Int) : Int → Option (Sum Int Int) := fun i4 =>
  Option.bind (idx s.Rows (W (i4 + 1))) fun e8 =>
  if (decide (e8.Minute < minute)) = true then
    some (.inl (W (i4 + 1)))
  else
    some (.inr i4)
def m_moon_at__moon_bearingOf (s : TSheet) (minute : Int) : Option TFrac :=
  Option.bind (loopF (m_moon_at__moon_bearingOf_L1 s minute) 0) fun i11 =>
  Option.bind (idx s.Rows i11) fun e12 =>
  Option.bind (idx s.Rows (W (i11 + 1))) fun e14 =>
  Option.bind (m_moon_bearingOf e12) fun x16 =>
  Option.bind (m_moon_bearingOf e14) fun x18 =>
  Option.bind (m_moon_between x16 x18 (W (minute - e12.Minute)) (W (e14.Minute - e12.Minute))) fun x20 =>
  some x20
set_option maxRecDepth 100000 in
set_option maxHeartbeats 2000000 in
theorem d_moon_at__moon_bearingOf (s : TSheet) (minute : Int) (r : TFrac) (hm : m_moon_at__moon_bearingOf s minute = some r) : Does Try.prog 77 [.agg (TSheet.c s), DI minute, .fn 82 [] []] (fun x => x = .agg (TFrac.c r)) := by
  refine does_y (X := ⟨Try.prog, tt, Try.f77.ntmps, pl77, [], [], []⟩) pok _ Try.func77 rfl rfl (Nat.le_of_ble_eq_true rfl) ?_
  obtain ⟨ev22, he, hk23⟩ := bd_some hm
  refine LoopY.of (fun (lpx : Nat × Int) => match lpx with | (fu24, i4) => (⟨[(0, .agg [DI s.Source, DI s.Night, DI s.Known, DI s.Until, .lst 5 s.Rows.length (s.Rows.flatMap TRow.c), DI s.Off.Num, DI s.Off.Den, DI s.Light.Lo, DI s.Light.Hi]), (1, DI minute), (2, .fn 82 [] []), (3, .own 0 0), (6, .own 1 0), (7, DI i4)], [(0, .blk [DI s.Source, DI s.Night, DI s.Known, DI s.Until, .lst 5 s.Rows.length (s.Rows.flatMap TRow.c), DI s.Off.Num, DI s.Off.Den, DI s.Light.Lo, DI s.Light.Hi] 41), (1, .blk [DI 0, DI 0] 37)], 2⟩ : Sy)) (fun lpx => loopO (m_moon_at__moon_bearingOf_L1 s minute) lpx.1 lpx.2 = some ev22) (fun lpx => lpx.1) (FUEL, 0) (SubY.of 2 rfl ⟨⟨_, rfl, leD.refl _⟩, ⟨_, rfl, leD.refl _⟩, ⟨_, rfl, leD.refl _⟩, ⟨_, rfl, leD.refl _⟩, ⟨_, rfl, leD.refl _⟩, ⟨_, rfl, leD.refl _⟩, trivial⟩ ⟨⟨_, rfl, leDL.refl _⟩, ⟨_, rfl, leDL.refl _⟩, trivial⟩) he ?_
  rintro ⟨fu24, i4⟩ hi25
  obtain ⟨fu24, b, rfl, hm, hi25⟩ := loop_step hi25
  obtain ⟨e26, hx27, hm⟩ := bd_some hm
  refine ⟨_, el_idx (fun _ => rfl) hx27, ?_⟩
  refine VIf.mk (fun (h28 : (decide (e26.Minute < minute)) = true) => ?_) (fun (h28 : (decide (e26.Minute < minute)) = false) => ?_)
  · replace hm := if_t h28 hm
    cases hm
    exact ⟨(fu24, (W (i4 + 1))), SubY.of 2 rfl ⟨⟨_, rfl, leD.refl _⟩, ⟨_, rfl, leD.refl _⟩, ⟨_, rfl, leD.refl _⟩, ⟨_, rfl, leD.refl _⟩, ⟨_, rfl, leD.refl _⟩, ⟨_, rfl, leD.refl _⟩, trivial⟩ ⟨⟨_, rfl, leDL.refl _⟩, ⟨_, rfl, leDL.refl _⟩, trivial⟩, hi25, Nat.lt_succ_self _⟩
  · replace hm := if_f h28 hm
    cases hm
    cases hi25
    have hm := hk23
    refine ⟨rfl, ?_⟩
    obtain ⟨e29, hx30, hm⟩ := bd_some hm
    refine ⟨_, el_idx (fun _ => rfl) hx30, ?_⟩
    obtain ⟨e31, hx32, hm⟩ := bd_some hm
    refine ⟨_, el_idx (fun _ => rfl) hx32, ?_⟩
    refine ⟨rfl, ?_⟩
    obtain ⟨x33, hx34, hm⟩ := bd_some hm
    refine CallY.det (d_moon_bearingOf e29 _ hx34) ?_
    obtain ⟨x35, hx36, hm⟩ := bd_some hm
    refine CallY.det (d_moon_bearingOf e31 _ hx36) ?_
    obtain ⟨x37, hx38, hm⟩ := bd_some hm
    refine CallY.det (d_moon_between x33 x35 (W (minute - e29.Minute)) (W (e31.Minute - e29.Minute)) _ hx38) ?_
    cases hm
    exact RetY.le (leD.refl _)

def m_moon_margin (s : TSheet) (l : (List TRoof)) (minute : Int) : Option TFrac :=
  Option.bind (m_moon_at__moon_heightOf s minute) fun x1 =>
  Option.bind (m_moon_at__moon_bearingOf s minute) fun x3 =>
  Option.bind (m_moon_horizon l x3) fun x5 =>
  Option.bind (m_moon_least (W (x1.Num - (W (x5 * x1.Den)))) x1.Den) fun x7 =>
  some x7
set_option maxRecDepth 100000 in
set_option maxHeartbeats 2000000 in
theorem d_moon_margin (s : TSheet) (l : (List TRoof)) (minute : Int) (r : TFrac) (hm : m_moon_margin s l minute = some r) : Does Try.prog 89 [.agg (TSheet.c s), .lst 3 l.length (l.flatMap TRoof.c), DI minute] (fun x => x = .agg (TFrac.c r)) := by
  refine does_y (X := ⟨Try.prog, tt, Try.f89.ntmps, pl89, [], [], []⟩) pok _ Try.func89 rfl rfl (Nat.le_of_ble_eq_true rfl) ?_
  obtain ⟨x1, hx2, hm⟩ := bd_some hm
  refine CallY.det (d_moon_at__moon_heightOf s minute _ hx2) ?_
  refine ⟨rfl, ?_⟩
  obtain ⟨x3, hx4, hm⟩ := bd_some hm
  refine CallY.det (d_moon_at__moon_bearingOf s minute _ hx4) ?_
  obtain ⟨x5, hx6, hm⟩ := bd_some hm
  refine CallY.det (d_moon_horizon l x3 _ hx6) ?_
  obtain ⟨x7, hx8, hm⟩ := bd_some hm
  refine CallY.det (d_moon_least (W (x1.Num - (W (x5 * x1.Den)))) x1.Den _ hx8) ?_
  cases hm
  exact RetY.le (leD.refl _)

def m_moon_minus (x : TFrac) : Option TFrac :=
  some (⟨(W (0 - x.Num)), x.Den⟩ : TFrac)
set_option maxRecDepth 100000 in
set_option maxHeartbeats 2000000 in
theorem d_moon_minus (x : TFrac) (r : TFrac) (hm : m_moon_minus x = some r) : Does Try.prog 136 [.agg (TFrac.c x)] (fun x => x = .agg (TFrac.c r)) := by
  refine does_y (X := ⟨Try.prog, tt, Try.f136.ntmps, [], [], [], []⟩) pok _ Try.func136 rfl rfl (Nat.le_of_ble_eq_true rfl) ?_
  cases hm
  exact RetY.le (leD.refl _)

def m_moon_known_slipOf_L1 (k : Tknown) (l : (List TSighting)) : (Int × Int × Int × Bool × Int × Int) → Option (Sum (Int × Int × Int × Bool × Int × Int) (Int × Int × Int × Bool × Int × Int)) := fun (v28, v29, v30, v31, v32, v33) =>
  if (decide (v28 < (l.length : Int))) = true then
    Option.bind (idx l v28) fun e56 =>
    Option.bind (m_moon_margin k.Sheet k.roofs e56.Minute) fun x58 =>
    Option.bind (m_moon_minus x58) fun x60 =>
    Option.bind (m_moon_reduced x60) fun x62 =>
    if e56.Above = true then
      Option.bind (m_moon_compare x62 (⟨v29, v30⟩ : TFrac)) fun x65 =>
      if (decide (x65 ≥ 0)) = true then
        some (.inl ((W (v28 + 1)), x62.Num, x62.Den, true, v32, v33))
      else
        if (!e56.Above) = true then
          Option.bind (m_moon_compare x62 (⟨v32, v33⟩ : TFrac)) fun x69 =>
          if (decide (x69 < 0)) = true then
            some (.inl ((W (v28 + 1)), v29, v30, v31, x62.Num, x62.Den))
          else
            some (.inl ((W (v28 + 1)), v29, v30, v31, v32, v33))
        else
          some (.inl ((W (v28 + 1)), v29, v30, v31, v32, v33))
    else
      if (!e56.Above) = true then
        Option.bind (m_moon_compare x62 (⟨v32, v33⟩ : TFrac)) fun x73 =>
        if (decide (x73 < 0)) = true then
          some (.inl ((W (v28 + 1)), v29, v30, v31, x62.Num, x62.Den))
        else
          some (.inl ((W (v28 + 1)), v29, v30, v31, v32, v33))
      else
        some (.inl ((W (v28 + 1)), v29, v30, v31, v32, v33))
  else
    some (.inr (v28, v29, v30, v31, v32, v33))
def m_moon_known_slipOf (k : Tknown) (l : (List TSighting)) : Option TSlip :=
  Option.bind (m_moon_minus k.Sheet.Off) fun x1 =>
  Option.bind (m_moon_reduced x1) fun x3 =>
  Option.bind (m_moon_reduced k.Sheet.Off) fun x5 =>
  Option.bind (loopF (m_moon_known_slipOf_L1 k l) (0, x3.Num, x3.Den, false, x5.Num, x5.Den)) fun (v76, v77, v78, v79, v80, v81) =>
  some (⟨(⟨v77, v78⟩ : TFrac), v79, (⟨v80, v81⟩ : TFrac)⟩ : TSlip)
set_option maxRecDepth 100000 in
set_option maxHeartbeats 2000000 in
theorem d_moon_known_slipOf (k : Tknown) (l : (List TSighting)) (r : TSlip) (hm : m_moon_known_slipOf k l = some r) : Does Try.prog 118 [.ptr (Tknown.c k) 0, .lst 6 l.length (l.flatMap TSighting.c)] (fun x => x = .agg (TSlip.c r)) := by
  refine does_y (X := ⟨Try.prog, tt, Try.f118.ntmps, pl118, [], [], []⟩) pok _ Try.func118 rfl rfl (Nat.le_of_ble_eq_true rfl) ?_
  refine ⟨rfl, ?_⟩
  obtain ⟨x1, hx2, hm⟩ := bd_some hm
  refine CallY.det (d_moon_minus k.Sheet.Off _ hx2) ?_
  obtain ⟨x3, hx4, hm⟩ := bd_some hm
  refine CallY.det (d_moon_reduced x1 _ hx4) ?_
  obtain ⟨x5, hx6, hm⟩ := bd_some hm
  refine CallY.det (d_moon_reduced k.Sheet.Off _ hx6) ?_
  obtain ⟨ev82, he, hk83⟩ := bd_some hm
  refine LoopY.of (fun (lpx : Nat × (Int × Int × Int × Bool × Int × Int)) => match lpx with | (fu84, v28, v29, v30, v31, v32, v33) => (⟨[(0, .ptr [DI k.Sheet.Source, DI k.Sheet.Night, DI k.Sheet.Known, DI k.Sheet.Until, .lst 5 k.Sheet.Rows.length (k.Sheet.Rows.flatMap TRow.c), DI k.Sheet.Off.Num, DI k.Sheet.Off.Den, DI k.Sheet.Light.Lo, DI k.Sheet.Light.Hi, .lst 3 k.roofs.length (k.roofs.flatMap TRoof.c), .lst 6 k.sightings.length (k.sightings.flatMap TSighting.c), DI k.slip.Lo.Num, DI k.slip.Lo.Den, DB k.slip.Open, DI k.slip.Hi.Num, DI k.slip.Hi.Den] 0), (1, .lst 6 l.length (l.flatMap TSighting.c)), (4, .own 0 0), (5, .own 1 0), (23, .lst 6 l.length (l.flatMap TSighting.c)), (24, DI (l.length : Int)), (25, DI v28)], [(0, .blk [DI 0, DI 0, DB false, DI 0, DI 0] 48), (1, .blk [DI v29, DI v30, DB v31, DI v32, DI v33] 48)], 2⟩ : Sy)) (fun lpx => loopO (m_moon_known_slipOf_L1 k l) lpx.1 lpx.2 = some ev82) (fun lpx => lpx.1) (FUEL, (0, x3.Num, x3.Den, false, x5.Num, x5.Den)) (SubY.of 2 rfl ⟨⟨_, rfl, leD.refl _⟩, ⟨_, rfl, leD.refl _⟩, ⟨_, rfl, leD.refl _⟩, ⟨_, rfl, leD.refl _⟩, ⟨_, rfl, leD.refl _⟩, ⟨_, rfl, leD.refl _⟩, ⟨_, rfl, leD.refl _⟩, trivial⟩ ⟨⟨_, rfl, leDL.refl _⟩, ⟨_, rfl, leDL.refl _⟩, trivial⟩) he ?_
  rintro ⟨fu84, v28, v29, v30, v31, v32, v33⟩ hi85
  obtain ⟨fu84, b, rfl, hm, hi85⟩ := loop_step hi85
  refine VIf.mk (fun (h86 : (decide (v28 < (l.length : Int))) = true) => ?_) (fun (h86 : (decide (v28 < (l.length : Int))) = false) => ?_)
  · replace hm := if_t h86 hm
    obtain ⟨e87, hx88, hm⟩ := bd_some hm
    refine ⟨_, el_idx (fun _ => rfl) hx88, ?_⟩
    refine ⟨rfl, ?_⟩
    obtain ⟨x89, hx90, hm⟩ := bd_some hm
    refine CallY.det (d_moon_margin k.Sheet k.roofs e87.Minute _ hx90) ?_
    obtain ⟨x91, hx92, hm⟩ := bd_some hm
    refine CallY.det (d_moon_minus x89 _ hx92) ?_
    obtain ⟨x93, hx94, hm⟩ := bd_some hm
    refine CallY.det (d_moon_reduced x91 _ hx94) ?_
    refine VIf.mk (fun (h95 : e87.Above = true) => ?_) (fun (h95 : e87.Above = false) => ?_)
    · replace hm := if_t h95 hm
      obtain ⟨x96, hx97, hm⟩ := bd_some hm
      refine CallY.det (d_moon_compare x93 ((⟨v29, v30⟩ : TFrac)) _ hx97) ?_
      refine VIf.mk (fun (h98 : (decide (x96 ≥ 0)) = true) => ?_) (fun (h98 : (decide (x96 ≥ 0)) = false) => ?_)
      · replace hm := if_t h98 hm
        cases hm
        exact ⟨(fu84, ((W (v28 + 1)), x93.Num, x93.Den, true, v32, v33)), SubY.of 2 rfl ⟨⟨_, rfl, leD.refl _⟩, ⟨_, rfl, leD.refl _⟩, ⟨_, rfl, leD.refl _⟩, ⟨_, rfl, leD.refl _⟩, ⟨_, rfl, leD.refl _⟩, ⟨_, rfl, leD.refl _⟩, ⟨_, rfl, leD.refl _⟩, trivial⟩ ⟨⟨_, rfl, leDL.refl _⟩, ⟨_, rfl, leDL.refl _⟩, trivial⟩, hi85, Nat.lt_succ_self _⟩
      · replace hm := if_f h98 hm
        refine VIf.mk (fun (h99 : (!e87.Above) = true) => ?_) (fun (h99 : (!e87.Above) = false) => ?_)
        · replace hm := if_t h99 hm
          obtain ⟨x100, hx101, hm⟩ := bd_some hm
          refine CallY.det (d_moon_compare x93 ((⟨v32, v33⟩ : TFrac)) _ hx101) ?_
          refine VIf.mk (fun (h102 : (decide (x100 < 0)) = true) => ?_) (fun (h102 : (decide (x100 < 0)) = false) => ?_)
          · replace hm := if_t h102 hm
            cases hm
            exact ⟨(fu84, ((W (v28 + 1)), v29, v30, v31, x93.Num, x93.Den)), SubY.of 2 rfl ⟨⟨_, rfl, leD.refl _⟩, ⟨_, rfl, leD.refl _⟩, ⟨_, rfl, leD.refl _⟩, ⟨_, rfl, leD.refl _⟩, ⟨_, rfl, leD.refl _⟩, ⟨_, rfl, leD.refl _⟩, ⟨_, rfl, leD.refl _⟩, trivial⟩ ⟨⟨_, rfl, leDL.refl _⟩, ⟨_, rfl, leDL.refl _⟩, trivial⟩, hi85, Nat.lt_succ_self _⟩
          · replace hm := if_f h102 hm
            cases hm
            exact ⟨(fu84, ((W (v28 + 1)), v29, v30, v31, v32, v33)), SubY.of 2 rfl ⟨⟨_, rfl, leD.refl _⟩, ⟨_, rfl, leD.refl _⟩, ⟨_, rfl, leD.refl _⟩, ⟨_, rfl, leD.refl _⟩, ⟨_, rfl, leD.refl _⟩, ⟨_, rfl, leD.refl _⟩, ⟨_, rfl, leD.refl _⟩, trivial⟩ ⟨⟨_, rfl, leDL.refl _⟩, ⟨_, rfl, leDL.refl _⟩, trivial⟩, hi85, Nat.lt_succ_self _⟩
        · replace hm := if_f h99 hm
          cases hm
          exact ⟨(fu84, ((W (v28 + 1)), v29, v30, v31, v32, v33)), SubY.of 2 rfl ⟨⟨_, rfl, leD.refl _⟩, ⟨_, rfl, leD.refl _⟩, ⟨_, rfl, leD.refl _⟩, ⟨_, rfl, leD.refl _⟩, ⟨_, rfl, leD.refl _⟩, ⟨_, rfl, leD.refl _⟩, ⟨_, rfl, leD.refl _⟩, trivial⟩ ⟨⟨_, rfl, leDL.refl _⟩, ⟨_, rfl, leDL.refl _⟩, trivial⟩, hi85, Nat.lt_succ_self _⟩
    · replace hm := if_f h95 hm
      refine VIf.mk (fun (h103 : (!e87.Above) = true) => ?_) (fun (h103 : (!e87.Above) = false) => ?_)
      · replace hm := if_t h103 hm
        obtain ⟨x104, hx105, hm⟩ := bd_some hm
        refine CallY.det (d_moon_compare x93 ((⟨v32, v33⟩ : TFrac)) _ hx105) ?_
        refine VIf.mk (fun (h106 : (decide (x104 < 0)) = true) => ?_) (fun (h106 : (decide (x104 < 0)) = false) => ?_)
        · replace hm := if_t h106 hm
          cases hm
          exact ⟨(fu84, ((W (v28 + 1)), v29, v30, v31, x93.Num, x93.Den)), SubY.of 2 rfl ⟨⟨_, rfl, leD.refl _⟩, ⟨_, rfl, leD.refl _⟩, ⟨_, rfl, leD.refl _⟩, ⟨_, rfl, leD.refl _⟩, ⟨_, rfl, leD.refl _⟩, ⟨_, rfl, leD.refl _⟩, ⟨_, rfl, leD.refl _⟩, trivial⟩ ⟨⟨_, rfl, leDL.refl _⟩, ⟨_, rfl, leDL.refl _⟩, trivial⟩, hi85, Nat.lt_succ_self _⟩
        · replace hm := if_f h106 hm
          cases hm
          exact ⟨(fu84, ((W (v28 + 1)), v29, v30, v31, v32, v33)), SubY.of 2 rfl ⟨⟨_, rfl, leD.refl _⟩, ⟨_, rfl, leD.refl _⟩, ⟨_, rfl, leD.refl _⟩, ⟨_, rfl, leD.refl _⟩, ⟨_, rfl, leD.refl _⟩, ⟨_, rfl, leD.refl _⟩, ⟨_, rfl, leD.refl _⟩, trivial⟩ ⟨⟨_, rfl, leDL.refl _⟩, ⟨_, rfl, leDL.refl _⟩, trivial⟩, hi85, Nat.lt_succ_self _⟩
      · replace hm := if_f h103 hm
        cases hm
        exact ⟨(fu84, ((W (v28 + 1)), v29, v30, v31, v32, v33)), SubY.of 2 rfl ⟨⟨_, rfl, leD.refl _⟩, ⟨_, rfl, leD.refl _⟩, ⟨_, rfl, leD.refl _⟩, ⟨_, rfl, leD.refl _⟩, ⟨_, rfl, leD.refl _⟩, ⟨_, rfl, leD.refl _⟩, ⟨_, rfl, leD.refl _⟩, trivial⟩ ⟨⟨_, rfl, leDL.refl _⟩, ⟨_, rfl, leDL.refl _⟩, trivial⟩, hi85, Nat.lt_succ_self _⟩
  · replace hm := if_f h86 hm
    cases hm
    cases hi85
    have hm := hk83
    cases hm
    exact RetY.le (leD.refl _)

def m_moon_look_L1 (minutes : (List Int)) : Int → Option (Sum Int (Sum Int ((Option Tknown) × Int))) := fun v16 =>
  if (decide (v16 < (minutes.length : Int))) = true then
    Option.bind (idx minutes v16) fun e28 =>
    Option.bind (m_moon_isMinute e28) fun x30 =>
    if (!x30) = true then
      some (.inr (.inr (none, 1)))
    else
      if (decide (v16 > 0)) = true then
        Option.bind (idx minutes (W (v16 - 1))) fun e34 =>
        if (decide (e34 > e28)) = true then
          some (.inr (.inr (none, 1)))
        else
          some (.inl (W (v16 + 1)))
      else
        some (.inl (W (v16 + 1)))
  else
    some (.inr (.inl v16))
def m_moon_look (s : TSky) (night : Int) (as_ : Int) (minutes : (List Int)) : Option ((Option Tknown) × Int) :=
  Option.bind (m_moon_Check s) fun x1 =>
  if (x1 != 0) = true then
    some (none, x1)
  else
    Option.bind (m_moon_isNight night) fun x4 =>
    if (!x4) = true then
      some (none, 6)
    else
      Option.bind (m_moon_isNight as_) fun x7 =>
      if (!x7) = true then
        some (none, 6)
      else
        Option.bind (loopF (m_moon_look_L1 minutes) 0) fun e =>
        match e with
        | .inl v37 =>
          Option.bind (m_moon_inForce s night as_) fun ⟨x38, x39⟩ =>
          if (!x39) = true then
            some (none, 25)
          else
            Option.bind (m_moon_sighted s night as_) fun x42 =>
            Option.bind (m_moon_known_slipOf (⟨x38, s.Roofs, x42, (⟨(⟨0, 0⟩ : TFrac), false, (⟨0, 0⟩ : TFrac)⟩ : TSlip)⟩ : Tknown) x42) fun x44 =>
            some ((some (⟨x38, s.Roofs, x42, x44⟩ : Tknown)), 0)
        | .inr rr46 =>
          some rr46
set_option maxRecDepth 100000 in
set_option maxHeartbeats 2000000 in
theorem d_moon_look (s : TSky) (night : Int) (as_ : Int) (minutes : (List Int)) (r : ((Option Tknown) × Int)) (hm : m_moon_look s night as_ minutes = some r) : Does Try.prog 63 [.agg (TSky.c s), DI night, DI as_, .lst 1 minutes.length (minutes.flatMap cI)] (fun x => x = .tup [optp Tknown.c r.1, DI r.2]) := by
  refine does_y (X := ⟨Try.prog, tt, Try.f63.ntmps, pl63, [], [], []⟩) pok _ Try.func63 rfl rfl (Nat.le_of_ble_eq_true rfl) ?_
  obtain ⟨x1, hx2, hm⟩ := bd_some hm
  refine CallY.det (d_moon_Check s _ hx2) ?_
  refine VIf.mk (fun (h3 : (x1 != 0) = true) => ?_) (fun (h3 : (x1 != 0) = false) => ?_)
  · replace hm := if_t h3 hm
    cases hm
    exact RetY.le (leD.refl _)
  · replace hm := if_f h3 hm
    obtain ⟨x4, hx5, hm⟩ := bd_some hm
    refine CallY.det (d_moon_isNight night _ hx5) ?_
    refine VIf.mk (fun (h6 : (!x4) = true) => ?_) (fun (h6 : (!x4) = false) => ?_)
    · replace hm := if_t h6 hm
      cases hm
      exact RetY.le (leD.refl _)
    · replace hm := if_f h6 hm
      obtain ⟨x7, hx8, hm⟩ := bd_some hm
      refine CallY.det (d_moon_isNight as_ _ hx8) ?_
      refine VIf.mk (fun (h9 : (!x7) = true) => ?_) (fun (h9 : (!x7) = false) => ?_)
      · replace hm := if_t h9 hm
        cases hm
        exact RetY.le (leD.refl _)
      · replace hm := if_f h9 hm
        obtain ⟨ev47, he, hk48⟩ := bd_some hm
        refine LoopY.of (fun (lpx : Nat × Int) => match lpx with | (fu49, v16) => (⟨[(0, .agg [.lst 9 s.Sheets.length (s.Sheets.flatMap TSheet.c), .lst 3 s.Roofs.length (s.Roofs.flatMap TRoof.c), .lst 6 s.Sightings.length (s.Sightings.flatMap TSighting.c)]), (1, DI night), (2, DI as_), (3, .lst 1 minutes.length (minutes.flatMap cI)), (4, .own 0 0), (8, .v (.pointer none)), (9, DI 0), (10, DI x1), (19, DB (x1 != 0)), (28, DB (!x7)), (29, .lst 1 minutes.length (minutes.flatMap cI)), (30, DI (minutes.length : Int)), (31, DI v16)], [(0, .blk [.lst 9 s.Sheets.length (s.Sheets.flatMap TSheet.c), .lst 3 s.Roofs.length (s.Roofs.flatMap TRoof.c), .lst 6 s.Sightings.length (s.Sightings.flatMap TSighting.c)] 32)], 1⟩ : Sy)) (fun lpx => loopO (m_moon_look_L1 minutes) lpx.1 lpx.2 = some ev47) (fun lpx => lpx.1) (FUEL, 0) (SubY.of 1 rfl ⟨⟨_, rfl, leD.refl _⟩, ⟨_, rfl, leD.refl _⟩, ⟨_, rfl, leD.refl _⟩, ⟨_, rfl, leD.refl _⟩, ⟨_, rfl, leD.refl _⟩, ⟨_, rfl, leD.refl _⟩, ⟨_, rfl, leD.refl _⟩, ⟨_, rfl, leD.refl _⟩, ⟨_, rfl, leD.refl _⟩, ⟨_, rfl, leD.refl _⟩, ⟨_, rfl, leD.refl _⟩, ⟨_, rfl, leD.refl _⟩, ⟨_, rfl, leD.refl _⟩, trivial⟩ ⟨⟨_, rfl, leDL.refl _⟩, trivial⟩) he ?_
        rintro ⟨fu49, v16⟩ hi50
        obtain ⟨fu49, b, rfl, hm, hi50⟩ := loop_step hi50
        refine VIf.mk (fun (h51 : (decide (v16 < (minutes.length : Int))) = true) => ?_) (fun (h51 : (decide (v16 < (minutes.length : Int))) = false) => ?_)
        · replace hm := if_t h51 hm
          obtain ⟨e52, hx53, hm⟩ := bd_some hm
          refine ⟨_, el_idx (fun _ => rfl) hx53, ?_⟩
          obtain ⟨x54, hx55, hm⟩ := bd_some hm
          refine CallY.det (d_moon_isMinute e52 _ hx55) ?_
          refine VIf.mk (fun (h56 : (!x54) = true) => ?_) (fun (h56 : (!x54) = false) => ?_)
          · replace hm := if_t h56 hm
            cases hm
            cases hi50
            have hm := hk48
            cases hm
            exact RetY.le (leD.refl _)
          · replace hm := if_f h56 hm
            refine VIf.mk (fun (h57 : (decide (v16 > 0)) = true) => ?_) (fun (h57 : (decide (v16 > 0)) = false) => ?_)
            · replace hm := if_t h57 hm
              obtain ⟨e58, hx59, hm⟩ := bd_some hm
              refine ⟨_, el_idx (fun _ => rfl) hx59, ?_⟩
              refine VIf.mk (fun (h60 : (decide (e58 > e52)) = true) => ?_) (fun (h60 : (decide (e58 > e52)) = false) => ?_)
              · replace hm := if_t h60 hm
                cases hm
                cases hi50
                have hm := hk48
                cases hm
                exact RetY.le (leD.refl _)
              · replace hm := if_f h60 hm
                cases hm
                exact ⟨(fu49, (W (v16 + 1))), SubY.of 1 rfl ⟨⟨_, rfl, leD.refl _⟩, ⟨_, rfl, leD.refl _⟩, ⟨_, rfl, leD.refl _⟩, ⟨_, rfl, leD.refl _⟩, ⟨_, rfl, leD.refl _⟩, ⟨_, rfl, leD.refl _⟩, ⟨_, rfl, leD.refl _⟩, ⟨_, rfl, leD.refl _⟩, ⟨_, rfl, leD.refl _⟩, ⟨_, rfl, leD.refl _⟩, ⟨_, rfl, leD.refl _⟩, ⟨_, rfl, leD.refl _⟩, ⟨_, rfl, leD.refl _⟩, trivial⟩ ⟨⟨_, rfl, leDL.refl _⟩, trivial⟩, hi50, Nat.lt_succ_self _⟩
            · replace hm := if_f h57 hm
              cases hm
              exact ⟨(fu49, (W (v16 + 1))), SubY.of 1 rfl ⟨⟨_, rfl, leD.refl _⟩, ⟨_, rfl, leD.refl _⟩, ⟨_, rfl, leD.refl _⟩, ⟨_, rfl, leD.refl _⟩, ⟨_, rfl, leD.refl _⟩, ⟨_, rfl, leD.refl _⟩, ⟨_, rfl, leD.refl _⟩, ⟨_, rfl, leD.refl _⟩, ⟨_, rfl, leD.refl _⟩, ⟨_, rfl, leD.refl _⟩, ⟨_, rfl, leD.refl _⟩, ⟨_, rfl, leD.refl _⟩, ⟨_, rfl, leD.refl _⟩, trivial⟩ ⟨⟨_, rfl, leDL.refl _⟩, trivial⟩, hi50, Nat.lt_succ_self _⟩
        · replace hm := if_f h51 hm
          cases hm
          cases hi50
          have hm := hk48
          obtain ⟨⟨x61, x62⟩, hx63, hm⟩ := bd_some hm
          refine CallY.det (d_moon_inForce s night as_ _ hx63) ?_
          refine VIf.mk (fun (h64 : (!x62) = true) => ?_) (fun (h64 : (!x62) = false) => ?_)
          · replace hm := if_t h64 hm
            cases hm
            exact RetY.le (leD.refl _)
          · replace hm := if_f h64 hm
            refine ⟨rfl, ?_⟩
            obtain ⟨x65, hx66, hm⟩ := bd_some hm
            refine CallY.det (d_moon_sighted s night as_ _ hx66) ?_
            obtain ⟨x67, hx68, hm⟩ := bd_some hm
            refine CallOwn.det (d_moon_known_slipOf ((⟨x61, s.Roofs, x65, (⟨(⟨0, 0⟩ : TFrac), false, (⟨0, 0⟩ : TFrac)⟩ : TSlip)⟩ : Tknown)) x65 _ hx68) ?_
            cases hm
            exact RetY.le (leD.refl _)

def m_moon_isEmpty (s : TSlip) : Option Bool :=
  Option.bind (m_moon_compare s.Lo s.Hi) fun x1 =>
  if (decide (x1 > 0)) = true then
    some true
  else
    if (x1 == 0) = true then
      some s.Open
    else
      some false
set_option maxRecDepth 100000 in
set_option maxHeartbeats 2000000 in
theorem d_moon_isEmpty (s : TSlip) (r : Bool) (hm : m_moon_isEmpty s = some r) : Does Try.prog 115 [.agg (TSlip.c s)] (fun x => x = DB r) := by
  refine does_y (X := ⟨Try.prog, tt, Try.f115.ntmps, [], [], [], []⟩) pok _ Try.func115 rfl rfl (Nat.le_of_ble_eq_true rfl) ?_
  obtain ⟨x1, hx2, hm⟩ := bd_some hm
  refine CallY.det (d_moon_compare s.Lo s.Hi _ hx2) ?_
  refine VIf.mk (fun (h3 : (decide (x1 > 0)) = true) => ?_) (fun (h3 : (decide (x1 > 0)) = false) => ?_)
  · replace hm := if_t h3 hm
    cases hm
    exact RetY.le (leD.refl _)
  · replace hm := if_f h3 hm
    refine VIf.mk (fun (h4 : (x1 == 0) = true) => ?_) (fun (h4 : (x1 == 0) = false) => ?_)
    · replace hm := if_t h4 hm
      cases hm
      exact RetY.le (leD.refl _)
    · replace hm := if_f h4 hm
      cases hm
      exact RetY.le (leD.refl _)

def m_moon_clearly (s : TSky) (night : Int) (as_ : Int) (minutes : (List Int)) : Option ((Option Tknown) × Int) :=
  Option.bind (m_moon_look s night as_ minutes) fun ⟨x1, x2⟩ =>
  optM x1 (
    if (x2 != 0) = true then
      some (none, x2)
    else
      none) fun p4 =>
  if (x2 != 0) = true then
    some (none, x2)
  else
    Option.bind (m_moon_isEmpty p4.slip) fun x7 =>
    if x7 = true then
      some (none, 26)
    else
      some ((some p4), 0)
set_option maxRecDepth 100000 in
set_option maxHeartbeats 2000000 in
theorem d_moon_clearly (s : TSky) (night : Int) (as_ : Int) (minutes : (List Int)) (r : ((Option Tknown) × Int)) (hm : m_moon_clearly s night as_ minutes = some r) : Does Try.prog 61 [.agg (TSky.c s), DI night, DI as_, .lst 1 minutes.length (minutes.flatMap cI)] (fun x => x = .tup [optp Tknown.c r.1, DI r.2]) := by
  refine does_y (X := ⟨Try.prog, tt, Try.f61.ntmps, [], [], [], []⟩) pok _ Try.func61 rfl rfl (Nat.le_of_ble_eq_true rfl) ?_
  obtain ⟨⟨x1, x2⟩, hx3, hm⟩ := bd_some hm
  refine CallY.det (d_moon_look s night as_ minutes _ hx3) ?_
  rcases x1 with _ | p4
  · replace hm := opt_none hm
    refine VIf.mk (fun (h5 : (x2 != 0) = true) => ?_) (fun (h5 : (x2 != 0) = false) => ?_)
    · replace hm := if_t h5 hm
      cases hm
      exact RetY.le (leD.refl _)
    · replace hm := if_f h5 hm
      cases hm
  · replace hm := opt_some hm
    refine VIf.mk (fun (h6 : (x2 != 0) = true) => ?_) (fun (h6 : (x2 != 0) = false) => ?_)
    · replace hm := if_t h6 hm
      cases hm
      exact RetY.le (leD.refl _)
    · replace hm := if_f h6 hm
      obtain ⟨x7, hx8, hm⟩ := bd_some hm
      refine CallY.det (d_moon_isEmpty p4.slip _ hx8) ?_
      refine VIf.mk (fun (h9 : x7 = true) => ?_) (fun (h9 : x7 = false) => ?_)
      · replace hm := if_t h9 hm
        cases hm
        exact RetY.le (leD.refl _)
      · replace hm := if_f h9 hm
        cases hm
        exact RetY.le (leD.refl _)

def m_moon_known_edge (k : Tknown) (minute : Int) : Option TFrac :=
  Option.bind (m_moon_margin k.Sheet k.roofs minute) fun x1 =>
  Option.bind (m_moon_minus x1) fun x3 =>
  Option.bind (m_moon_reduced x3) fun x5 =>
  some x5
set_option maxRecDepth 100000 in
set_option maxHeartbeats 2000000 in
theorem d_moon_known_edge (k : Tknown) (minute : Int) (r : TFrac) (hm : m_moon_known_edge k minute = some r) : Does Try.prog 95 [.ptr (Tknown.c k) 0, DI minute] (fun x => x = .agg (TFrac.c r)) := by
  refine does_y (X := ⟨Try.prog, tt, Try.f95.ntmps, pl95, [], [], []⟩) pok _ Try.func95 rfl rfl (Nat.le_of_ble_eq_true rfl) ?_
  refine ⟨rfl, ?_⟩
  obtain ⟨x1, hx2, hm⟩ := bd_some hm
  refine CallY.det (d_moon_margin k.Sheet k.roofs minute _ hx2) ?_
  obtain ⟨x3, hx4, hm⟩ := bd_some hm
  refine CallY.det (d_moon_minus x1 _ hx4) ?_
  obtain ⟨x5, hx6, hm⟩ := bd_some hm
  refine CallY.det (d_moon_reduced x3 _ hx6) ?_
  cases hm
  exact RetY.le (leD.refl _)

def m_moon_known_above (k : Tknown) (minute : Int) : Option Int :=
  Option.bind (m_moon_known_edge k minute) fun x1 =>
  Option.bind (m_moon_compare k.slip.Lo x1) fun x3 =>
  if (decide (x3 > 0)) = true then
    some 1
  else
    if (x3 == 0) = true then
      if k.slip.Open = true then
        some 1
      else
        Option.bind (m_moon_compare k.slip.Hi x1) fun x8 =>
        if (decide (x8 ≤ 0)) = true then
          some 0
        else
          some 2
    else
      Option.bind (m_moon_compare k.slip.Hi x1) fun x11 =>
      if (decide (x11 ≤ 0)) = true then
        some 0
      else
        some 2
set_option maxRecDepth 100000 in
set_option maxHeartbeats 2000000 in
theorem d_moon_known_above (k : Tknown) (minute : Int) (r : Int) (hm : m_moon_known_above k minute = some r) : Does Try.prog 62 [.ptr (Tknown.c k) 0, DI minute] (fun x => x = DI r) := by
  refine does_y (X := ⟨Try.prog, tt, Try.f62.ntmps, pl62, [], [], []⟩) pok _ Try.func62 rfl rfl (Nat.le_of_ble_eq_true rfl) ?_
  obtain ⟨x1, hx2, hm⟩ := bd_some hm
  refine CallY.det (d_moon_known_edge k minute _ hx2) ?_
  refine ⟨rfl, ?_⟩
  obtain ⟨x3, hx4, hm⟩ := bd_some hm
  refine CallY.det (d_moon_compare k.slip.Lo x1 _ hx4) ?_
  refine VIf.mk (fun (h5 : (decide (x3 > 0)) = true) => ?_) (fun (h5 : (decide (x3 > 0)) = false) => ?_)
  · replace hm := if_t h5 hm
    cases hm
    exact RetY.le (leD.refl _)
  · replace hm := if_f h5 hm
    refine VIf.mk (fun (h6 : (x3 == 0) = true) => ?_) (fun (h6 : (x3 == 0) = false) => ?_)
    · replace hm := if_t h6 hm
      refine VIf.mk (fun (h7 : k.slip.Open = true) => ?_) (fun (h7 : k.slip.Open = false) => ?_)
      · replace hm := if_t h7 hm
        cases hm
        exact RetY.le (leD.refl _)
      · replace hm := if_f h7 hm
        refine ⟨rfl, ?_⟩
        obtain ⟨x8, hx9, hm⟩ := bd_some hm
        refine CallY.det (d_moon_compare k.slip.Hi x1 _ hx9) ?_
        refine VIf.mk (fun (h10 : (decide (x8 ≤ 0)) = true) => ?_) (fun (h10 : (decide (x8 ≤ 0)) = false) => ?_)
        · replace hm := if_t h10 hm
          cases hm
          exact RetY.le (leD.refl _)
        · replace hm := if_f h10 hm
          cases hm
          exact RetY.le (leD.refl _)
    · replace hm := if_f h6 hm
      refine ⟨rfl, ?_⟩
      obtain ⟨x11, hx12, hm⟩ := bd_some hm
      refine CallY.det (d_moon_compare k.slip.Hi x1 _ hx12) ?_
      refine VIf.mk (fun (h13 : (decide (x11 ≤ 0)) = true) => ?_) (fun (h13 : (decide (x11 ≤ 0)) = false) => ?_)
      · replace hm := if_t h13 hm
        cases hm
        exact RetY.le (leD.refl _)
      · replace hm := if_f h13 hm
        cases hm
        exact RetY.le (leD.refl _)

def m_moon_Above (s : TSky) (night : Int) (known : Int) (minute : Int) : Option (Int × Int) :=
  Option.bind (m_moon_clearly s night known ([minute] : List Int)) fun ⟨x1, x2⟩ =>
  optM x1 (
    if (x2 != 0) = true then
      some (0, x2)
    else
      none) fun p4 =>
  if (x2 != 0) = true then
    some (0, x2)
  else
    Option.bind (m_moon_known_above p4 minute) fun x7 =>
    some (x7, 0)
set_option maxRecDepth 100000 in
set_option maxHeartbeats 2000000 in
theorem d_moon_Above (s : TSky) (night : Int) (known : Int) (minute : Int) (r : (Int × Int)) (hm : m_moon_Above s night known minute = some r) : Does Try.prog 15 [.agg (TSky.c s), DI night, DI known, DI minute] (fun x => x = .tup [DI r.1, DI r.2]) := by
  refine does_y (X := ⟨Try.prog, tt, Try.f15.ntmps, [], [], [], []⟩) pok _ Try.func15 rfl rfl (Nat.le_of_ble_eq_true rfl) ?_
  refine ⟨([minute] : List Int).flatMap cI, ([minute] : List Int).length, ⟨rfl, rfl⟩, ?_⟩
  obtain ⟨⟨x1, x2⟩, hx3, hm⟩ := bd_some hm
  refine CallOwn.det (d_moon_clearly s night known (([minute] : List Int)) _ hx3) ?_
  rcases x1 with _ | p4
  · replace hm := opt_none hm
    refine VIf.mk (fun (h5 : (x2 != 0) = true) => ?_) (fun (h5 : (x2 != 0) = false) => ?_)
    · replace hm := if_t h5 hm
      cases hm
      exact RetY.le (leD.refl _)
    · replace hm := if_f h5 hm
      cases hm
  · replace hm := opt_some hm
    refine VIf.mk (fun (h6 : (x2 != 0) = true) => ?_) (fun (h6 : (x2 != 0) = false) => ?_)
    · replace hm := if_t h6 hm
      cases hm
      exact RetY.le (leD.refl _)
    · replace hm := if_f h6 hm
      obtain ⟨x7, hx8, hm⟩ := bd_some hm
      refine CallY.det (d_moon_known_above p4 minute _ hx8) ?_
      cases hm
      exact RetY.le (leD.refl _)

def m_moon_Slip (s : TSky) (night : Int) (known : Int) : Option (TSlip × Int) :=
  Option.bind (m_moon_clearly s night known []) fun ⟨x1, x2⟩ =>
  optM x1 (
    if (x2 != 0) = true then
      some ((⟨(⟨0, 0⟩ : TFrac), false, (⟨0, 0⟩ : TFrac)⟩ : TSlip), x2)
    else
      none) fun p4 =>
  if (x2 != 0) = true then
    some ((⟨(⟨0, 0⟩ : TFrac), false, (⟨0, 0⟩ : TFrac)⟩ : TSlip), x2)
  else
    some (p4.slip, 0)
set_option maxRecDepth 100000 in
set_option maxHeartbeats 2000000 in
theorem d_moon_Slip (s : TSky) (night : Int) (known : Int) (r : (TSlip × Int)) (hm : m_moon_Slip s night known = some r) : Does Try.prog 16 [.agg (TSky.c s), DI night, DI known] (fun x => x = .tup [.agg (TSlip.c r.1), DI r.2]) := by
  refine does_y (X := ⟨Try.prog, tt, Try.f16.ntmps, [], [], [], []⟩) pok _ Try.func16 rfl rfl (Nat.le_of_ble_eq_true rfl) ?_
  obtain ⟨⟨x1, x2⟩, hx3, hm⟩ := bd_some hm
  refine CallY.det ((d_moon_clearly s night known [] _ hx3).le ⟨leD.refl _, leD.refl _, leD.refl _, leD.nil, trivial⟩) ?_
  rcases x1 with _ | p4
  · replace hm := opt_none hm
    refine VIf.mk (fun (h5 : (x2 != 0) = true) => ?_) (fun (h5 : (x2 != 0) = false) => ?_)
    · replace hm := if_t h5 hm
      cases hm
      exact RetY.le (leD.refl _)
    · replace hm := if_f h5 hm
      cases hm
  · replace hm := opt_some hm
    refine VIf.mk (fun (h6 : (x2 != 0) = true) => ?_) (fun (h6 : (x2 != 0) = false) => ?_)
    · replace hm := if_t h6 hm
      cases hm
      exact RetY.le (leD.refl _)
    · replace hm := if_f h6 hm
      cases hm
      exact RetY.le (leD.refl _)

def m_moon_known_clash (k : Tknown) (l : (List TSighting)) : Option Bool :=
  Option.bind (m_moon_known_slipOf k l) fun x1 =>
  Option.bind (m_moon_isEmpty x1) fun x3 =>
  some x3
set_option maxRecDepth 100000 in
set_option maxHeartbeats 2000000 in
theorem d_moon_known_clash (k : Tknown) (l : (List TSighting)) (r : Bool) (hm : m_moon_known_clash k l = some r) : Does Try.prog 64 [.ptr (Tknown.c k) 0, .lst 6 l.length (l.flatMap TSighting.c)] (fun x => x = DB r) := by
  refine does_y (X := ⟨Try.prog, tt, Try.f64.ntmps, [], [], [], []⟩) pok _ Try.func64 rfl rfl (Nat.le_of_ble_eq_true rfl) ?_
  obtain ⟨x1, hx2, hm⟩ := bd_some hm
  refine CallY.det (d_moon_known_slipOf k l _ hx2) ?_
  obtain ⟨x3, hx4, hm⟩ := bd_some hm
  refine CallY.det (d_moon_isEmpty x1 _ hx4) ?_
  cases hm
  exact RetY.le (leD.refl _)

def m_moon_Conflict_L1 (p4 : Tknown) : Int → Option (Sum Int (Sum Int ((List Int) × Int))) := fun v13 =>
  if (decide (v13 < (p4.sightings.length : Int))) = true then
    Option.bind (idx p4.sightings v13) fun e21 =>
    Option.bind (m_moon_known_clash p4 ([e21] : List TSighting)) fun x23 =>
    if x23 = true then
      some (.inr (.inr (([e21.Source] : List Int), 0)))
    else
      some (.inl (W (v13 + 1)))
  else
    some (.inr (.inl v13))
def m_moon_Conflict_L5 (p4 : Tknown) (e79 : TSighting) (sl81 : (List TSighting)) : Int → Option (Sum Int (Sum Int ((List Int) × Int))) := fun v88 =>
  if (decide (v88 < (sl81.length : Int))) = true then
    Option.bind (idx sl81 v88) fun e96 =>
    Option.bind (m_moon_known_clash p4 ([e79, e96] : List TSighting)) fun x98 =>
    if x98 = true then
      some (.inr (.inr (([e79.Source, e96.Source] : List Int), 0)))
    else
      some (.inl (W (v88 + 1)))
  else
    some (.inr (.inl v88))
def m_moon_Conflict_L4 (p4 : Tknown) : Int → Option (Sum Int (Sum Int ((List Int) × Int))) := fun v52 =>
  if (decide (v52 < (p4.sightings.length : Int))) = true then
    Option.bind (idx p4.sightings v52) fun e79 =>
    gd ((0 ≤ (W (v52 + 1)) ∧ (W (v52 + 1)) ≤ (p4.sightings.length : Int))) <|
    Option.bind (some (sub p4.sightings ((W (v52 + 1))).toNat p4.sightings.length)) fun sl81 =>
    Option.bind (loopF (m_moon_Conflict_L5 p4 e79 sl81) 0) fun e =>
    match e with
    | .inl v101 =>
      some (.inl (W (v52 + 1)))
    | .inr rr102 =>
      some (.inr (.inr rr102))
  else
    some (.inr (.inl v52))
def m_moon_Conflict (s : TSky) (night : Int) (known : Int) : Option ((List Int) × Int) :=
  Option.bind (m_moon_look s night known []) fun ⟨x1, x2⟩ =>
  optM x1 (
    if (x2 != 0) = true then
      some ([], x2)
    else
      none) fun p4 =>
  if (x2 != 0) = true then
    some ([], x2)
  else
    Option.bind (loopF (m_moon_Conflict_L1 p4) 0) fun e =>
    match e with
    | .inl v26 =>
      Option.bind (loopF (m_moon_Conflict_L4 p4) 0) fun e =>
      match e with
      | .inl v113 =>
        some ([], 27)
      | .inr rr114 =>
        some rr114
    | .inr rr154 =>
      some rr154
set_option maxRecDepth 100000 in
set_option maxHeartbeats 2000000 in
theorem d_moon_Conflict (s : TSky) (night : Int) (known : Int) (r : ((List Int) × Int)) (hm : m_moon_Conflict s night known = some r) : Does Try.prog 17 [.agg (TSky.c s), DI night, DI known] (fun x => x = .tup [.lst 1 r.1.length (r.1.flatMap cI), DI r.2]) := by
  refine does_y (X := ⟨Try.prog, tt, Try.f17.ntmps, [], [], [], []⟩) pok _ Try.func17 rfl rfl (Nat.le_of_ble_eq_true rfl) ?_
  obtain ⟨⟨x1, x2⟩, hx3, hm⟩ := bd_some hm
  refine CallY.det ((d_moon_look s night known [] _ hx3).le ⟨leD.refl _, leD.refl _, leD.refl _, leD.nil, trivial⟩) ?_
  rcases x1 with _ | p4
  · replace hm := opt_none hm
    refine VIf.mk (fun (h5 : (x2 != 0) = true) => ?_) (fun (h5 : (x2 != 0) = false) => ?_)
    · replace hm := if_t h5 hm
      cases hm
      exact RetY.le (⟨_, rfl, ⟨leD.nil, leD.refl _, trivial⟩⟩)
    · replace hm := if_f h5 hm
      cases hm
  · replace hm := opt_some hm
    refine VIf.mk (fun (h6 : (x2 != 0) = true) => ?_) (fun (h6 : (x2 != 0) = false) => ?_)
    · replace hm := if_t h6 hm
      cases hm
      exact RetY.le (⟨_, rfl, ⟨leD.nil, leD.refl _, trivial⟩⟩)
    · replace hm := if_f h6 hm
      obtain ⟨ev155, he, hk156⟩ := bd_some hm
      refine LoopY.of (fun (lpx : Nat × Int) => match lpx with | (fu157, v13) => (⟨[(0, .agg [.lst 9 s.Sheets.length (s.Sheets.flatMap TSheet.c), .lst 3 s.Roofs.length (s.Roofs.flatMap TRoof.c), .lst 6 s.Sightings.length (s.Sightings.flatMap TSighting.c)]), (1, DI night), (2, DI known), (3, .own 0 0), (6, .v (.slice none 0 0)), (7, DI 0), (8, .ptr [DI p4.Sheet.Source, DI p4.Sheet.Night, DI p4.Sheet.Known, DI p4.Sheet.Until, .lst 5 p4.Sheet.Rows.length (p4.Sheet.Rows.flatMap TRow.c), DI p4.Sheet.Off.Num, DI p4.Sheet.Off.Den, DI p4.Sheet.Light.Lo, DI p4.Sheet.Light.Hi, .lst 3 p4.roofs.length (p4.roofs.flatMap TRoof.c), .lst 6 p4.sightings.length (p4.sightings.flatMap TSighting.c), DI p4.slip.Lo.Num, DI p4.slip.Lo.Den, DB p4.slip.Open, DI p4.slip.Hi.Num, DI p4.slip.Hi.Den] 0), (9, DI x2), (24, DB (x2 != 0)), (29, .lst 6 p4.sightings.length (p4.sightings.flatMap TSighting.c)), (30, DI (p4.sightings.length : Int)), (31, DI v13)], [(0, .blk [.lst 9 s.Sheets.length (s.Sheets.flatMap TSheet.c), .lst 3 s.Roofs.length (s.Roofs.flatMap TRoof.c), .lst 6 s.Sightings.length (s.Sightings.flatMap TSighting.c)] 32)], 1⟩ : Sy)) (fun lpx => loopO (m_moon_Conflict_L1 p4) lpx.1 lpx.2 = some ev155) (fun lpx => lpx.1) (FUEL, 0) (SubY.of 1 rfl ⟨⟨_, rfl, leD.refl _⟩, ⟨_, rfl, leD.refl _⟩, ⟨_, rfl, leD.refl _⟩, ⟨_, rfl, leD.refl _⟩, ⟨_, rfl, leD.refl _⟩, ⟨_, rfl, leD.refl _⟩, ⟨_, rfl, leD.refl _⟩, ⟨_, rfl, leD.refl _⟩, ⟨_, rfl, leD.refl _⟩, ⟨_, rfl, leD.refl _⟩, ⟨_, rfl, leD.refl _⟩, ⟨_, rfl, leD.refl _⟩, trivial⟩ ⟨⟨_, rfl, leDL.refl _⟩, trivial⟩) he ?_
      rintro ⟨fu157, v13⟩ hi158
      obtain ⟨fu157, b, rfl, hm, hi158⟩ := loop_step hi158
      refine VIf.mk (fun (h159 : (decide (v13 < (p4.sightings.length : Int))) = true) => ?_) (fun (h159 : (decide (v13 < (p4.sightings.length : Int))) = false) => ?_)
      · replace hm := if_t h159 hm
        obtain ⟨e160, hx161, hm⟩ := bd_some hm
        refine ⟨_, el_idx (fun _ => rfl) hx161, ?_⟩
        refine ⟨([e160] : List TSighting).flatMap TSighting.c, ([e160] : List TSighting).length, ⟨rfl, rfl⟩, ?_⟩
        obtain ⟨x162, hx163, hm⟩ := bd_some hm
        refine CallOwn.det (d_moon_known_clash p4 (([e160] : List TSighting)) _ hx163) ?_
        refine VIf.mk (fun (h164 : x162 = true) => ?_) (fun (h164 : x162 = false) => ?_)
        · replace hm := if_t h164 hm
          refine ⟨([e160.Source] : List Int).flatMap cI, ([e160.Source] : List Int).length, ⟨rfl, rfl⟩, ?_⟩
          cases hm
          cases hi158
          have hm := hk156
          cases hm
          exact RetY.le (leD.refl _)
        · replace hm := if_f h164 hm
          cases hm
          exact ⟨(fu157, (W (v13 + 1))), SubY.of 1 rfl ⟨⟨_, rfl, leD.refl _⟩, ⟨_, rfl, leD.refl _⟩, ⟨_, rfl, leD.refl _⟩, ⟨_, rfl, leD.refl _⟩, ⟨_, rfl, leD.refl _⟩, ⟨_, rfl, leD.refl _⟩, ⟨_, rfl, leD.refl _⟩, ⟨_, rfl, leD.refl _⟩, ⟨_, rfl, leD.refl _⟩, ⟨_, rfl, leD.refl _⟩, ⟨_, rfl, leD.refl _⟩, ⟨_, rfl, leD.refl _⟩, trivial⟩ ⟨⟨_, rfl, leDL.refl _⟩, trivial⟩, hi158, Nat.lt_succ_self _⟩
      · replace hm := if_f h159 hm
        cases hm
        cases hi158
        have hm := hk156
        obtain ⟨ev253, he, hk254⟩ := bd_some hm
        refine LoopY.of (fun (lpx : Nat × Int) => match lpx with | (fu255, v190) => (⟨[(0, .agg [.lst 9 s.Sheets.length (s.Sheets.flatMap TSheet.c), .lst 3 s.Roofs.length (s.Roofs.flatMap TRoof.c), .lst 6 s.Sightings.length (s.Sightings.flatMap TSighting.c)]), (1, DI night), (2, DI known), (3, .own 0 0), (6, .v (.slice none 0 0)), (7, DI 0), (8, .ptr [DI p4.Sheet.Source, DI p4.Sheet.Night, DI p4.Sheet.Known, DI p4.Sheet.Until, .lst 5 p4.Sheet.Rows.length (p4.Sheet.Rows.flatMap TRow.c), DI p4.Sheet.Off.Num, DI p4.Sheet.Off.Den, DI p4.Sheet.Light.Lo, DI p4.Sheet.Light.Hi, .lst 3 p4.roofs.length (p4.roofs.flatMap TRoof.c), .lst 6 p4.sightings.length (p4.sightings.flatMap TSighting.c), DI p4.slip.Lo.Num, DI p4.slip.Lo.Den, DB p4.slip.Open, DI p4.slip.Hi.Num, DI p4.slip.Hi.Den] 0), (9, DI x2), (24, DB (x2 != 0)), (29, .lst 6 p4.sightings.length (p4.sightings.flatMap TSighting.c)), (30, DI (p4.sightings.length : Int)), (31, DI v13), (32, DB (decide (v13 < (p4.sightings.length : Int)))), (46, .lst 6 p4.sightings.length (p4.sightings.flatMap TSighting.c)), (47, DI (p4.sightings.length : Int)), (48, DI v190)], [(0, .blk [.lst 9 s.Sheets.length (s.Sheets.flatMap TSheet.c), .lst 3 s.Roofs.length (s.Roofs.flatMap TRoof.c), .lst 6 s.Sightings.length (s.Sightings.flatMap TSighting.c)] 32)], 1⟩ : Sy)) (fun lpx => loopO (m_moon_Conflict_L4 p4) lpx.1 lpx.2 = some ev253) (fun lpx => lpx.1) (FUEL, 0) (SubY.of 1 rfl ⟨⟨_, rfl, leD.refl _⟩, ⟨_, rfl, leD.refl _⟩, ⟨_, rfl, leD.refl _⟩, ⟨_, rfl, leD.refl _⟩, ⟨_, rfl, leD.refl _⟩, ⟨_, rfl, leD.refl _⟩, ⟨_, rfl, leD.refl _⟩, ⟨_, rfl, leD.refl _⟩, ⟨_, rfl, leD.refl _⟩, ⟨_, rfl, leD.refl _⟩, ⟨_, rfl, leD.refl _⟩, ⟨_, rfl, leD.refl _⟩, ⟨_, rfl, leD.refl _⟩, ⟨_, rfl, leD.refl _⟩, ⟨_, rfl, leD.refl _⟩, ⟨_, rfl, leD.refl _⟩, trivial⟩ ⟨⟨_, rfl, leDL.refl _⟩, trivial⟩) he ?_
        rintro ⟨fu255, v190⟩ hi256
        obtain ⟨fu255, b, rfl, hm, hi256⟩ := loop_step hi256
        refine VIf.mk (fun (h257 : (decide (v190 < (p4.sightings.length : Int))) = true) => ?_) (fun (h257 : (decide (v190 < (p4.sightings.length : Int))) = false) => ?_)
        · replace hm := if_t h257 hm
          obtain ⟨e258, hx259, hm⟩ := bd_some hm
          refine ⟨_, el_idx (fun _ => rfl) hx259, ?_⟩
          obtain ⟨hg, hm⟩ := gd_some hm
          obtain ⟨sl260, hy, hm⟩ := bd_some hm
          refine ⟨hg, _, (flat_sub (c := TSighting.c) (z := 6) (fun _ => rfl) _ _ _).trans (congrArg _ (Option.some.inj hy)), ?_⟩
          have hl : sl260.length = p4.sightings.length - ((W (v190 + 1))).toNat := by rw [← Option.some.inj hy]; exact sub_len (by omega)
          rw [← hl]
          obtain ⟨ev282, he, hk283⟩ := bd_some hm
          refine LoopY.of (fun (lpx : Nat × Int) => match lpx with | (fu284, v267) => (⟨[(0, .agg [.lst 9 s.Sheets.length (s.Sheets.flatMap TSheet.c), .lst 3 s.Roofs.length (s.Roofs.flatMap TRoof.c), .lst 6 s.Sightings.length (s.Sightings.flatMap TSighting.c)]), (1, DI night), (2, DI known), (3, .own 0 0), (6, .v (.slice none 0 0)), (7, DI 0), (8, .ptr [DI p4.Sheet.Source, DI p4.Sheet.Night, DI p4.Sheet.Known, DI p4.Sheet.Until, .lst 5 p4.Sheet.Rows.length (p4.Sheet.Rows.flatMap TRow.c), DI p4.Sheet.Off.Num, DI p4.Sheet.Off.Den, DI p4.Sheet.Light.Lo, DI p4.Sheet.Light.Hi, .lst 3 p4.roofs.length (p4.roofs.flatMap TRoof.c), .lst 6 p4.sightings.length (p4.sightings.flatMap TSighting.c), DI p4.slip.Lo.Num, DI p4.slip.Lo.Den, DB p4.slip.Open, DI p4.slip.Hi.Num, DI p4.slip.Hi.Den] 0), (9, DI x2), (12, DI v190), (13, .own 1 0), (24, DB (x2 != 0)), (29, .lst 6 p4.sightings.length (p4.sightings.flatMap TSighting.c)), (30, DI (p4.sightings.length : Int)), (31, DI v13), (32, DB (decide (v13 < (p4.sightings.length : Int)))), (46, .lst 6 p4.sightings.length (p4.sightings.flatMap TSighting.c)), (47, DI (p4.sightings.length : Int)), (48, DI v190), (49, DB (decide (v190 < (p4.sightings.length : Int)))), (59, .lst 6 sl260.length (sl260.flatMap TSighting.c)), (60, DI (sl260.length : Int)), (61, DI v267)], [(0, .blk [.lst 9 s.Sheets.length (s.Sheets.flatMap TSheet.c), .lst 3 s.Roofs.length (s.Roofs.flatMap TRoof.c), .lst 6 s.Sightings.length (s.Sightings.flatMap TSighting.c)] 32), (1, .blk [DI e258.Source, DI e258.Night, DI e258.Minute, DB e258.Above, DI e258.Known, DI e258.Until] 43)], 2⟩ : Sy)) (fun lpx => loopO (m_moon_Conflict_L5 p4 e258 sl260) lpx.1 lpx.2 = some ev282) (fun lpx => lpx.1) (FUEL, 0) (SubY.of 2 rfl ⟨⟨_, rfl, leD.refl _⟩, ⟨_, rfl, leD.refl _⟩, ⟨_, rfl, leD.refl _⟩, ⟨_, rfl, leD.refl _⟩, ⟨_, rfl, leD.refl _⟩, ⟨_, rfl, leD.refl _⟩, ⟨_, rfl, leD.refl _⟩, ⟨_, rfl, leD.refl _⟩, ⟨_, rfl, leD.refl _⟩, ⟨_, rfl, leD.refl _⟩, ⟨_, rfl, leD.refl _⟩, ⟨_, rfl, leD.refl _⟩, ⟨_, rfl, leD.refl _⟩, ⟨_, rfl, leD.refl _⟩, ⟨_, rfl, leD.refl _⟩, ⟨_, rfl, leD.refl _⟩, ⟨_, rfl, leD.refl _⟩, ⟨_, rfl, leD.refl _⟩, ⟨_, rfl, leD.refl _⟩, ⟨_, rfl, leD.refl _⟩, ⟨_, rfl, leD.refl _⟩, ⟨_, rfl, leD.refl _⟩, trivial⟩ ⟨⟨_, rfl, leDL.refl _⟩, ⟨_, rfl, leDL.refl _⟩, trivial⟩) he ?_
          rintro ⟨fu284, v267⟩ hi285
          obtain ⟨fu284, b, rfl, hm, hi285⟩ := loop_step hi285
          refine VIf.mk (fun (h286 : (decide (v267 < (sl260.length : Int))) = true) => ?_) (fun (h286 : (decide (v267 < (sl260.length : Int))) = false) => ?_)
          · replace hm := if_t h286 hm
            obtain ⟨e287, hx288, hm⟩ := bd_some hm
            refine ⟨_, el_idx (fun _ => rfl) hx288, ?_⟩
            refine ⟨([e258, e287] : List TSighting).flatMap TSighting.c, ([e258, e287] : List TSighting).length, ⟨rfl, rfl⟩, ?_⟩
            obtain ⟨x289, hx290, hm⟩ := bd_some hm
            refine CallOwn.det (d_moon_known_clash p4 (([e258, e287] : List TSighting)) _ hx290) ?_
            refine VIf.mk (fun (h291 : x289 = true) => ?_) (fun (h291 : x289 = false) => ?_)
            · replace hm := if_t h291 hm
              refine ⟨([e258.Source, e287.Source] : List Int).flatMap cI, ([e258.Source, e287.Source] : List Int).length, ⟨rfl, rfl⟩, ?_⟩
              cases hm
              cases hi285
              have hm := hk283
              cases hm
              cases hi256
              have hm := hk254
              cases hm
              exact RetY.le (leD.refl _)
            · replace hm := if_f h291 hm
              cases hm
              exact ⟨(fu284, (W (v267 + 1))), SubY.of 2 rfl ⟨⟨_, rfl, leD.refl _⟩, ⟨_, rfl, leD.refl _⟩, ⟨_, rfl, leD.refl _⟩, ⟨_, rfl, leD.refl _⟩, ⟨_, rfl, leD.refl _⟩, ⟨_, rfl, leD.refl _⟩, ⟨_, rfl, leD.refl _⟩, ⟨_, rfl, leD.refl _⟩, ⟨_, rfl, leD.refl _⟩, ⟨_, rfl, leD.refl _⟩, ⟨_, rfl, leD.refl _⟩, ⟨_, rfl, leD.refl _⟩, ⟨_, rfl, leD.refl _⟩, ⟨_, rfl, leD.refl _⟩, ⟨_, rfl, leD.refl _⟩, ⟨_, rfl, leD.refl _⟩, ⟨_, rfl, leD.refl _⟩, ⟨_, rfl, leD.refl _⟩, ⟨_, rfl, leD.refl _⟩, ⟨_, rfl, leD.refl _⟩, ⟨_, rfl, leD.refl _⟩, ⟨_, rfl, leD.refl _⟩, trivial⟩ ⟨⟨_, rfl, leDL.refl _⟩, ⟨_, rfl, leDL.refl _⟩, trivial⟩, hi285, Nat.lt_succ_self _⟩
          · replace hm := if_f h286 hm
            cases hm
            cases hi285
            have hm := hk283
            cases hm
            exact ⟨(fu255, (W (v190 + 1))), SubY.of 1 rfl ⟨⟨_, rfl, leD.refl _⟩, ⟨_, rfl, leD.refl _⟩, ⟨_, rfl, leD.refl _⟩, ⟨_, rfl, leD.refl _⟩, ⟨_, rfl, leD.refl _⟩, ⟨_, rfl, leD.refl _⟩, ⟨_, rfl, leD.refl _⟩, ⟨_, rfl, leD.refl _⟩, ⟨_, rfl, leD.refl _⟩, ⟨_, rfl, leD.refl _⟩, ⟨_, rfl, leD.refl _⟩, ⟨_, rfl, leD.refl _⟩, ⟨_, rfl, leD.refl _⟩, ⟨_, rfl, leD.refl _⟩, ⟨_, rfl, leD.refl _⟩, ⟨_, rfl, leD.refl _⟩, trivial⟩ ⟨⟨_, rfl, leDL.refl _⟩, trivial⟩, hi256, Nat.lt_succ_self _⟩
        · replace hm := if_f h257 hm
          cases hm
          cases hi256
          have hm := hk254
          cases hm
          exact RetY.le (⟨_, rfl, ⟨leD.nil, leD.refl _, trivial⟩⟩)

def m_R02_Same_L1 (a : (List Int)) (b_ : (List Int)) : Int → Option (Sum Int (Sum Int Bool)) := fun i8 =>
  if (decide (i8 < (a.length : Int))) = true then
    Option.bind (idx a i8) fun e16 =>
    Option.bind (idx b_ i8) fun e18 =>
    if (e16 != e18) = true then
      some (.inr (.inr false))
    else
      some (.inl (W (i8 + 1)))
  else
    some (.inr (.inl i8))
def m_R02_Same (a : (List Int)) (b_ : (List Int)) : Option Bool :=
  if ((a.length : Int) != (b_.length : Int)) = true then
    some false
  else
    Option.bind (loopF (m_R02_Same_L1 a b_) 0) fun e =>
    match e with
    | .inl i21 =>
      some true
    | .inr rr22 =>
      some rr22
set_option maxRecDepth 100000 in
set_option maxHeartbeats 2000000 in
theorem d_R02_Same (a : (List Int)) (b_ : (List Int)) (r : Bool) (hm : m_R02_Same a b_ = some r) : Does Try.prog 18 [.lst 1 a.length (a.flatMap cI), .lst 1 b_.length (b_.flatMap cI)] (fun x => x = DB r) := by
  refine does_y (X := ⟨Try.prog, tt, Try.f18.ntmps, pl18, [], [], []⟩) pok _ Try.func18 rfl rfl (Nat.le_of_ble_eq_true rfl) ?_
  refine VIf.mk (fun (h1 : ((a.length : Int) != (b_.length : Int)) = true) => ?_) (fun (h1 : ((a.length : Int) != (b_.length : Int)) = false) => ?_)
  · replace hm := if_t h1 hm
    cases hm
    exact RetY.le (leD.refl _)
  · replace hm := if_f h1 hm
    obtain ⟨ev23, he, hk24⟩ := bd_some hm
    refine LoopY.of (fun (lpx : Nat × Int) => match lpx with | (fu25, i8) => (⟨[(0, .lst 1 a.length (a.flatMap cI)), (1, .lst 1 b_.length (b_.flatMap cI)), (4, DB false), (5, DI i8), (10, DB ((a.length : Int) != (b_.length : Int)))], [], 0⟩ : Sy)) (fun lpx => loopO (m_R02_Same_L1 a b_) lpx.1 lpx.2 = some ev23) (fun lpx => lpx.1) (FUEL, 0) (SubY.of 0 rfl ⟨⟨_, rfl, leD.refl _⟩, ⟨_, rfl, leD.refl _⟩, ⟨_, rfl, leD.refl _⟩, ⟨_, rfl, leD.refl _⟩, ⟨_, rfl, leD.refl _⟩, trivial⟩ trivial) he ?_
    rintro ⟨fu25, i8⟩ hi26
    obtain ⟨fu25, b, rfl, hm, hi26⟩ := loop_step hi26
    refine VIf.mk (fun (h27 : (decide (i8 < (a.length : Int))) = true) => ?_) (fun (h27 : (decide (i8 < (a.length : Int))) = false) => ?_)
    · replace hm := if_t h27 hm
      refine ⟨rfl, ?_⟩
      obtain ⟨e28, hx29, hm⟩ := bd_some hm
      refine ⟨_, el_idx (fun _ => rfl) hx29, ?_⟩
      obtain ⟨e30, hx31, hm⟩ := bd_some hm
      refine ⟨_, el_idx (fun _ => rfl) hx31, ?_⟩
      refine VIf.mk (fun (h32 : (e28 != e30) = true) => ?_) (fun (h32 : (e28 != e30) = false) => ?_)
      · replace hm := if_t h32 hm
        cases hm
        cases hi26
        have hm := hk24
        cases hm
        exact RetY.le (leD.refl _)
      · replace hm := if_f h32 hm
        cases hm
        exact ⟨(fu25, (W (i8 + 1))), SubY.of 0 rfl ⟨⟨_, rfl, leD.refl _⟩, ⟨_, rfl, leD.refl _⟩, ⟨_, rfl, leD.refl _⟩, ⟨_, rfl, leD.refl _⟩, ⟨_, rfl, leD.refl _⟩, trivial⟩ trivial, hi26, Nat.lt_succ_self _⟩
    · replace hm := if_f h27 hm
      cases hm
      cases hi26
      have hm := hk24
      cases hm
      exact RetY.le (leD.refl _)

def m_moon_known_answers (k : Tknown) (from_ : Int) (to_ : Int) : Option (Int × Int × Tknown) :=
  some (to_, from_, k)
set_option maxRecDepth 100000 in
set_option maxHeartbeats 2000000 in
theorem d_moon_known_answers (k : Tknown) (from_ : Int) (to_ : Int) (r : (Int × Int × Tknown)) (hm : m_moon_known_answers k from_ to_ = some r) : Does Try.prog 67 [.ptr (Tknown.c k) 0, DI from_, DI to_] (fun x => x = .fn 119 [] [.ptr [DI r.1] 0, .ptr [DI r.2.1] 0, .ptr [.fn 62 [.ptr [DI r.2.2.Sheet.Source, DI r.2.2.Sheet.Night, DI r.2.2.Sheet.Known, DI r.2.2.Sheet.Until, .lst 5 r.2.2.Sheet.Rows.length (r.2.2.Sheet.Rows.flatMap TRow.c), DI r.2.2.Sheet.Off.Num, DI r.2.2.Sheet.Off.Den, DI r.2.2.Sheet.Light.Lo, DI r.2.2.Sheet.Light.Hi, .lst 3 r.2.2.roofs.length (r.2.2.roofs.flatMap TRoof.c), .lst 6 r.2.2.sightings.length (r.2.2.sightings.flatMap TSighting.c), DI r.2.2.slip.Lo.Num, DI r.2.2.slip.Lo.Den, DB r.2.2.slip.Open, DI r.2.2.slip.Hi.Num, DI r.2.2.slip.Hi.Den] 0] []] 0]) := by
  refine does_y (X := ⟨Try.prog, tt, Try.f67.ntmps, [], [], [], []⟩) pok _ Try.func67 rfl rfl (Nat.le_of_ble_eq_true rfl) ?_
  cases hm
  exact RetY.le (leD.refl _)

def en_moon_known_answers_1__moon_known_above (x : (Int × Int)) : List D := [DI x.1, DI x.2]
def it_moon_known_answers_1__moon_known_above_L1 (c_0 : Int) (c_1 : Int) (c_2 : Tknown) : Int → Option (List (Int × Int) × Sum Int Int) := fun v5 =>
  if (decide (v5 < (W ((W (c_0 - c_1)) + 1)))) = true then
    Option.bind (m_moon_known_above c_2 (W (c_1 + v5))) fun x11 =>
    emit ((W (c_1 + v5)), x11) <|
    some ([], .inl (W (v5 + 1)))
  else
    some ([], .inr v5)
def it_moon_known_answers_1__moon_known_above (c_0 : Int) (c_1 : Int) (c_2 : Tknown) : Option (List (Int × Int) × Unit) :=
  bindI (loopIF (it_moon_known_answers_1__moon_known_above_L1 c_0 c_1 c_2) 0) fun v14 =>
  some ([], ())
def ply119 : List (Nat × List PI) := [(3, [(0, [], false), (1, [], false), (2, [], false), (3, [], false), (4, [], false), (5, [], false), (6, [], false), (7, [], false), (8, [], false)])]
set_option maxRecDepth 100000 in
set_option maxHeartbeats 2000000 in
theorem i_moon_known_answers_1__moon_known_above (c_0 : Int) (c_1 : Int) (c_2 : Tknown) (xs : List (Int × Int)) (hm : it_moon_known_answers_1__moon_known_above c_0 c_1 c_2 = some (xs, ())) : DoesIt Try.prog 119 [.ptr [DI c_0] 0, .ptr [DI c_1] 0, .ptr [.fn 62 [.ptr [DI c_2.Sheet.Source, DI c_2.Sheet.Night, DI c_2.Sheet.Known, DI c_2.Sheet.Until, .lst 5 c_2.Sheet.Rows.length (c_2.Sheet.Rows.flatMap TRow.c), DI c_2.Sheet.Off.Num, DI c_2.Sheet.Off.Den, DI c_2.Sheet.Light.Lo, DI c_2.Sheet.Light.Hi, .lst 3 c_2.roofs.length (c_2.roofs.flatMap TRoof.c), .lst 6 c_2.sightings.length (c_2.sightings.flatMap TSighting.c), DI c_2.slip.Lo.Num, DI c_2.slip.Lo.Den, DB c_2.slip.Open, DI c_2.slip.Hi.Num, DI c_2.slip.Hi.Den] 0] []] 0] (xs.map en_moon_known_answers_1__moon_known_above) := by
  refine does_it (X := ⟨Try.prog, tt, Try.f119.ntmps, ply119, [], [], []⟩) pok _ _ [(3, 9)] Try.func119 rfl rfl (Nat.le_of_ble_eq_true rfl) rfl ?_
  intro l
  obtain ⟨r, hr⟩ : ∃ r : List (Int × Int) × Unit, r = (xs, ()) := ⟨_, rfl⟩
  rw [← hr] at hm
  have hp : Hp3 en_moon_known_answers_1__moon_known_above [] r.1 [] (xs.map en_moon_known_answers_1__moon_known_above) := ⟨by rw [hr]; simp⟩
  clear hr
  obtain ⟨ev15, rr19, he, hk16, hb1, hb2⟩ := bindI_some hm
  replace hp := hp.in1 hb1
  clear hb1 hb2
  refine LoopI.of (fun (lpx : Nat × Int) => match lpx with | (fu17, v5) => (⟨[(0, .v (.func (.yield l) #[] #[])), (1, .ptr [DI c_0] 0), (2, .ptr [DI c_1] 0), (3, .ptr [.fn 62 [.ptr [DI c_2.Sheet.Source, DI c_2.Sheet.Night, DI c_2.Sheet.Known, DI c_2.Sheet.Until, .lst 5 c_2.Sheet.Rows.length (c_2.Sheet.Rows.flatMap TRow.c), DI c_2.Sheet.Off.Num, DI c_2.Sheet.Off.Den, DI c_2.Sheet.Light.Lo, DI c_2.Sheet.Light.Hi, .lst 3 c_2.roofs.length (c_2.roofs.flatMap TRoof.c), .lst 6 c_2.sightings.length (c_2.sightings.flatMap TSighting.c), DI c_2.slip.Lo.Num, DI c_2.slip.Lo.Den, DB c_2.slip.Open, DI c_2.slip.Hi.Num, DI c_2.slip.Hi.Den] 0] []] 0), (9, DI (W ((W (c_0 - c_1)) + 1))), (10, DI v5)], [], 0⟩ : Sy)) (fun lpx q => ∃ e, loopIO (it_moon_known_answers_1__moon_known_above_L1 c_0 c_1 c_2) lpx.1 lpx.2 = some e ∧ Hp3 en_moon_known_answers_1__moon_known_above q e.1 _ _ ∧ e.2 = ev15.2) (fun lpx => lpx.1) (FUEL, 0) ⟨_, he, hp, rfl⟩ (SubY.of 0 rfl ⟨⟨_, rfl, leD.refl _⟩, ⟨_, rfl, leD.refl _⟩, ⟨_, rfl, leD.refl _⟩, ⟨_, rfl, leD.refl _⟩, ⟨_, rfl, leD.refl _⟩, ⟨_, rfl, leD.refl _⟩, trivial⟩ trivial) ?_
  clear hp he
  rintro ⟨fu17, v5⟩ q ⟨el21, hi18, hp, hx22⟩
  obtain ⟨fu17, b, tl, rfl, hm, hb1, hi18⟩ := loopI_step hi18
  replace hp := hp.in1 hb1
  clear hb1
  have hq : b.2 = b.2 := rfl
  refine VIf.mk (fun (h24 : (decide (v5 < (W ((W (c_0 - c_1)) + 1)))) = true) => ?_) (fun (h24 : (decide (v5 < (W ((W (c_0 - c_1)) + 1)))) = false) => ?_)
  · replace hm := if_t h24 hm
    refine ⟨rfl, rfl, ?_⟩
    obtain ⟨x25, hx26, hm⟩ := bd_some hm
    refine CallY.det (d_moon_known_above c_2 (W (c_1 + v5)) _ hx26) ?_
    obtain ⟨rb27, hm, hb1, hb2⟩ := emit_some hm
    refine YieldY.of (x' := en_moon_known_answers_1__moon_known_above ((W (c_1 + v5)), x25)) rfl rfl (RetY.le (leD.refl _)) (hp.pre hb1) ?_ ?_
    · replace hp := hp.emit hb1
      replace hq := hq.trans hb2
      cases hm
      rw [hq] at hi18
      obtain ⟨e2, hm, rfl, ht⟩ := hi18
      exact ⟨(fu17, (W (v5 + 1))), _, SubY.of 0 rfl ⟨⟨_, rfl, leD.refl _⟩, ⟨_, rfl, leD.refl _⟩, ⟨_, rfl, leD.refl _⟩, ⟨_, rfl, leD.refl _⟩, ⟨_, rfl, leD.refl _⟩, ⟨_, rfl, leD.refl _⟩, trivial⟩ trivial, rfl, ⟨_, hm, hp.out rfl, ht.symm.trans hx22⟩, Nat.lt_succ_self _⟩
    · exact .inl rfl
  · replace hm := if_f h24 hm
    cases hm
    rw [hq] at hi18
    obtain ⟨rfl, ht⟩ := hi18
    replace hp := (hp.out (l' := []) rfl).out rfl
    have hm := hk16
    try rw [← hx22, ht] at hm
    clear hq
    cases hm
    exact .inr (congrArg some (hp.done rfl))

def m_moon_Rises_L1 : (Int × Int) → (Int × Int) → Option (Sum (Int × Int) (Int × Int)) := fun (v16, v17) (y11, y12) =>
  if (y12 != 0) = true then
    if (y12 == 1) = true then
      some (.inr ((if y11 < v16 then y11 else v16), y11))
    else
      some (.inl ((if y11 < v16 then y11 else v16), v17))
  else
    if (y12 == 1) = true then
      some (.inr (v16, y11))
    else
      some (.inl (v16, v17))
def m_moon_Rises (s : TSky) (night : Int) (known : Int) (from_ : Int) (to_ : Int) : Option (TRange × Int) :=
  Option.bind (m_moon_clearly s night known ([from_, to_] : List Int)) fun ⟨x1, x2⟩ =>
  optM x1 (
    if (x2 != 0) = true then
      some ((⟨0, 0⟩ : TRange), x2)
    else
      none) fun p4 =>
  if (x2 != 0) = true then
    some ((⟨0, 0⟩ : TRange), x2)
  else
    Option.bind (m_moon_known_answers p4 from_ to_) fun ⟨x7, x8, x9⟩ =>
    Option.bind (it_moon_known_answers_1__moon_known_above x7 x8 x9) fun l24 =>
    Option.bind (rangeF m_moon_Rises_L1 l24.1 (1440, 1440)) fun e =>
    match e with
    | .inl (v25, v26) =>
      some ((⟨v25, v26⟩ : TRange), 0)
    | .inr (v27, v28) =>
      some ((⟨v27, v28⟩ : TRange), 0)
set_option maxRecDepth 100000 in
set_option maxHeartbeats 2000000 in
theorem d_moon_Rises (s : TSky) (night : Int) (known : Int) (from_ : Int) (to_ : Int) (r : (TRange × Int)) (hm : m_moon_Rises s night known from_ to_ = some r) : Does Try.prog 20 [.agg (TSky.c s), DI night, DI known, DI from_, DI to_] (fun x => x = .tup [.agg (TRange.c r.1), DI r.2]) := by
  refine does_r (X := ⟨Try.prog, tt, Try.f20.ntmps, [], [], [], []⟩) pok _ Try.func20 rfl rfl (Nat.le_of_ble_eq_true rfl) ?_
  intro ds
  intro ds
  refine ⟨([from_, to_] : List Int).flatMap cI, ([from_, to_] : List Int).length, ⟨rfl, rfl⟩, ?_⟩
  obtain ⟨⟨x1, x2⟩, hx3, hm⟩ := bd_some hm
  refine CallOwn.det (d_moon_clearly s night known (([from_, to_] : List Int)) _ hx3) ?_
  rcases x1 with _ | p4
  · replace hm := opt_none hm
    intro ds
    refine VIf.mk (fun (h5 : (x2 != 0) = true) => ?_) (fun (h5 : (x2 != 0) = false) => ?_)
    · replace hm := if_t h5 hm
      intro ds
      intro ds
      cases hm
      exact RetY.le (leD.refl _)
    · replace hm := if_f h5 hm
      intro ds
      intro ds
      intro ds
      cases hm
  · replace hm := opt_some hm
    intro ds
    refine VIf.mk (fun (h6 : (x2 != 0) = true) => ?_) (fun (h6 : (x2 != 0) = false) => ?_)
    · replace hm := if_t h6 hm
      intro ds
      intro ds
      cases hm
      exact RetY.le (leD.refl _)
    · replace hm := if_f h6 hm
      intro ds
      intro ds
      intro ds
      obtain ⟨⟨x7, x8, x9⟩, hx10, hm⟩ := bd_some hm
      refine CallY.det (d_moon_known_answers p4 from_ to_ _ hx10) ?_
      obtain ⟨l24, hl30, hm⟩ := bd_some hm
      obtain ⟨ev29, he, hm⟩ := bd_some hm
      refine RangeY.of (E := (Int × Int)) en_moon_known_answers_1__moon_known_above l24.1 m_moon_Rises_L1 (fun (lpx : (Int × Int)) => match lpx with | (v16, v17) => (⟨[(0, .agg [.lst 9 s.Sheets.length (s.Sheets.flatMap TSheet.c), .lst 3 s.Roofs.length (s.Roofs.flatMap TRoof.c), .lst 6 s.Sightings.length (s.Sightings.flatMap TSighting.c)]), (1, DI night), (2, DI known), (3, DI from_), (4, DI to_), (5, .own 0 0), (10, .own 1 0), (11, DI 0), (12, .ptr [DI p4.Sheet.Source, DI p4.Sheet.Night, DI p4.Sheet.Known, DI p4.Sheet.Until, .lst 5 p4.Sheet.Rows.length (p4.Sheet.Rows.flatMap TRow.c), DI p4.Sheet.Off.Num, DI p4.Sheet.Off.Den, DI p4.Sheet.Light.Lo, DI p4.Sheet.Light.Hi, .lst 3 p4.roofs.length (p4.roofs.flatMap TRoof.c), .lst 6 p4.sightings.length (p4.sightings.flatMap TSighting.c), DI p4.slip.Lo.Num, DI p4.slip.Lo.Den, DB p4.slip.Open, DI p4.slip.Hi.Num, DI p4.slip.Hi.Den] 0), (13, DI x2), (14, .own 3 0), (28, DB (x2 != 0))], [(0, .blk [.lst 9 s.Sheets.length (s.Sheets.flatMap TSheet.c), .lst 3 s.Roofs.length (s.Roofs.flatMap TRoof.c), .lst 6 s.Sightings.length (s.Sightings.flatMap TSighting.c)] 32), (1, .blk [DI 0, DI 0] 39), (3, .blk [DI v16, DI v17] 39)], 4⟩ : Sy)) (fun (lpx : (Int × Int)) => match lpx with | (v16, v17) => (⟨[(0, .agg [.lst 9 s.Sheets.length (s.Sheets.flatMap TSheet.c), .lst 3 s.Roofs.length (s.Roofs.flatMap TRoof.c), .lst 6 s.Sightings.length (s.Sightings.flatMap TSighting.c)]), (1, DI night), (2, DI known), (3, DI from_), (4, DI to_), (5, .own 0 0), (10, .own 1 0), (11, DI 0), (12, .ptr [DI p4.Sheet.Source, DI p4.Sheet.Night, DI p4.Sheet.Known, DI p4.Sheet.Until, .lst 5 p4.Sheet.Rows.length (p4.Sheet.Rows.flatMap TRow.c), DI p4.Sheet.Off.Num, DI p4.Sheet.Off.Den, DI p4.Sheet.Light.Lo, DI p4.Sheet.Light.Hi, .lst 3 p4.roofs.length (p4.roofs.flatMap TRoof.c), .lst 6 p4.sightings.length (p4.sightings.flatMap TSighting.c), DI p4.slip.Lo.Num, DI p4.slip.Lo.Den, DB p4.slip.Open, DI p4.slip.Hi.Num, DI p4.slip.Hi.Den] 0), (13, DI x2), (14, .own 3 0), (28, DB (x2 != 0))], [(0, .blk [.lst 9 s.Sheets.length (s.Sheets.flatMap TSheet.c), .lst 3 s.Roofs.length (s.Roofs.flatMap TRoof.c), .lst 6 s.Sightings.length (s.Sightings.flatMap TSighting.c)] 32), (1, .blk [DI 0, DI 0] 39), (3, .blk [DI v16, DI v17] 39)], 4⟩ : Sy)) (fun _ => (.exit 0)) (1440, 1440) ev29 [(15, .tmp 36), (16, .tmp 37)] [0, 1, 2, 3, 4, 5, 10, 11, 12, 13, 14, 28] (i_moon_known_answers_1__moon_known_above x7 x8 x9 l24.1 hl30) he (enters_f pok Try.func119 rfl) rfl rfl (fun _ => rfl) rfl rfl rfl (by rintro ⟨v16, v17⟩; rfl) (by rintro ⟨v16, v17⟩; rfl) (SubY.of 4 rfl ⟨⟨_, rfl, leD.refl _⟩, ⟨_, rfl, leD.refl _⟩, ⟨_, rfl, leD.refl _⟩, ⟨_, rfl, leD.refl _⟩, ⟨_, rfl, leD.refl _⟩, ⟨_, rfl, leD.refl _⟩, ⟨_, rfl, leD.refl _⟩, ⟨_, rfl, leD.refl _⟩, ⟨_, rfl, leD.refl _⟩, ⟨_, rfl, leD.refl _⟩, ⟨_, rfl, leD.refl _⟩, ⟨_, rfl, leD.refl _⟩, trivial⟩ ⟨⟨_, rfl, leDL.refl _⟩, ⟨_, rfl, leDL.refl _⟩, ⟨_, rfl, leDL.refl _⟩, trivial⟩) ?_ ?_ (fun _ => .inr ⟨_, rfl⟩) ?_
      · rintro ⟨v25, v26⟩ rfl
        intro ds
        intro ds
        cases hm
        exact RetY.le (leD.refl _)
      · rintro ⟨v27, v28⟩ rfl
        intro ds
        intro ds
        cases hm
        exact RetY.le (leD.refl _)
      · clear he hm
        rintro ⟨v16, v17⟩ ⟨y11, y12⟩ b hm
        refine VIf.mk (fun (h31 : (y12 != 0) = true) => ?_) (fun (h31 : (y12 != 0) = false) => ?_)
        · replace hm := if_t h31 hm
          refine VIf.mk (fun (h32 : (y12 == 1) = true) => ?_) (fun (h32 : (y12 == 1) = false) => ?_)
          · replace hm := if_t h32 hm
            cases hm
            exact ⟨((if y11 < v16 then y11 else v16), y11), rfl, rfl, SubY.of 4 rfl ⟨⟨_, rfl, leD.refl _⟩, ⟨_, rfl, leD.refl _⟩, ⟨_, rfl, leD.refl _⟩, ⟨_, rfl, leD.refl _⟩, ⟨_, rfl, leD.refl _⟩, ⟨_, rfl, leD.refl _⟩, ⟨_, rfl, leD.refl _⟩, ⟨_, rfl, leD.refl _⟩, ⟨_, rfl, leD.refl _⟩, ⟨_, rfl, leD.refl _⟩, ⟨_, rfl, leD.refl _⟩, ⟨_, rfl, leD.refl _⟩, trivial⟩ ⟨⟨_, rfl, leDL.refl _⟩, ⟨_, rfl, leDL.refl _⟩, ⟨_, rfl, leDL.refl _⟩, trivial⟩⟩
          · replace hm := if_f h32 hm
            cases hm
            exact ⟨((if y11 < v16 then y11 else v16), v17), rfl, SubY.of 4 rfl ⟨⟨_, rfl, leD.refl _⟩, ⟨_, rfl, leD.refl _⟩, ⟨_, rfl, leD.refl _⟩, ⟨_, rfl, leD.refl _⟩, ⟨_, rfl, leD.refl _⟩, ⟨_, rfl, leD.refl _⟩, ⟨_, rfl, leD.refl _⟩, ⟨_, rfl, leD.refl _⟩, ⟨_, rfl, leD.refl _⟩, ⟨_, rfl, leD.refl _⟩, ⟨_, rfl, leD.refl _⟩, ⟨_, rfl, leD.refl _⟩, trivial⟩ ⟨⟨_, rfl, leDL.refl _⟩, ⟨_, rfl, leDL.refl _⟩, ⟨_, rfl, leDL.refl _⟩, trivial⟩⟩
        · replace hm := if_f h31 hm
          refine VIf.mk (fun (h33 : (y12 == 1) = true) => ?_) (fun (h33 : (y12 == 1) = false) => ?_)
          · replace hm := if_t h33 hm
            cases hm
            exact ⟨(v16, y11), rfl, rfl, SubY.of 4 rfl ⟨⟨_, rfl, leD.refl _⟩, ⟨_, rfl, leD.refl _⟩, ⟨_, rfl, leD.refl _⟩, ⟨_, rfl, leD.refl _⟩, ⟨_, rfl, leD.refl _⟩, ⟨_, rfl, leD.refl _⟩, ⟨_, rfl, leD.refl _⟩, ⟨_, rfl, leD.refl _⟩, ⟨_, rfl, leD.refl _⟩, ⟨_, rfl, leD.refl _⟩, ⟨_, rfl, leD.refl _⟩, ⟨_, rfl, leD.refl _⟩, trivial⟩ ⟨⟨_, rfl, leDL.refl _⟩, ⟨_, rfl, leDL.refl _⟩, ⟨_, rfl, leDL.refl _⟩, trivial⟩⟩
          · replace hm := if_f h33 hm
            cases hm
            exact ⟨(v16, v17), rfl, SubY.of 4 rfl ⟨⟨_, rfl, leD.refl _⟩, ⟨_, rfl, leD.refl _⟩, ⟨_, rfl, leD.refl _⟩, ⟨_, rfl, leD.refl _⟩, ⟨_, rfl, leD.refl _⟩, ⟨_, rfl, leD.refl _⟩, ⟨_, rfl, leD.refl _⟩, ⟨_, rfl, leD.refl _⟩, ⟨_, rfl, leD.refl _⟩, ⟨_, rfl, leD.refl _⟩, ⟨_, rfl, leD.refl _⟩, ⟨_, rfl, leD.refl _⟩, trivial⟩ ⟨⟨_, rfl, leDL.refl _⟩, ⟨_, rfl, leDL.refl _⟩, ⟨_, rfl, leDL.refl _⟩, trivial⟩⟩

def m_moon_known_light (k : Tknown) (answer : Int) : Option TRange :=
  if (answer == 1) = true then
    some k.Sheet.Light
  else
    if (answer == 0) = true then
      some (⟨0, 0⟩ : TRange)
    else
      some (⟨0, k.Sheet.Light.Hi⟩ : TRange)
set_option maxRecDepth 100000 in
set_option maxHeartbeats 2000000 in
theorem d_moon_known_light (k : Tknown) (answer : Int) (r : TRange) (hm : m_moon_known_light k answer = some r) : Does Try.prog 75 [.ptr (Tknown.c k) 0, DI answer] (fun x => x = .agg (TRange.c r)) := by
  refine does_y (X := ⟨Try.prog, tt, Try.f75.ntmps, [], [], [], []⟩) pok _ Try.func75 rfl rfl (Nat.le_of_ble_eq_true rfl) ?_
  refine VIf.mk (fun (h1 : (answer == 1) = true) => ?_) (fun (h1 : (answer == 1) = false) => ?_)
  · replace hm := if_t h1 hm
    cases hm
    exact RetY.le (leD.refl _)
  · replace hm := if_f h1 hm
    refine VIf.mk (fun (h2 : (answer == 0) = true) => ?_) (fun (h2 : (answer == 0) = false) => ?_)
    · replace hm := if_t h2 hm
      cases hm
      exact RetY.le (leD.refl _)
    · replace hm := if_f h2 hm
      cases hm
      exact RetY.le (leD.refl _)

def m_moon_Whole_L1 : Int → (Int × Int) → Option (Sum Int Int) := fun v15 (y11, y12) =>
  if (y12 == 0) = true then
    some (.inr 0)
  else
    if (y12 == 2) = true then
      some (.inl 2)
    else
      some (.inl v15)
def m_moon_Whole (s : TSky) (night : Int) (known : Int) (from_ : Int) (to_ : Int) : Option (TRange × Int) :=
  Option.bind (m_moon_clearly s night known ([from_, to_] : List Int)) fun ⟨x1, x2⟩ =>
  optM x1 (
    if (x2 != 0) = true then
      some ((⟨0, 0⟩ : TRange), x2)
    else
      none) fun p4 =>
  if (x2 != 0) = true then
    some ((⟨0, 0⟩ : TRange), x2)
  else
    Option.bind (m_moon_known_answers p4 from_ to_) fun ⟨x7, x8, x9⟩ =>
    Option.bind (it_moon_known_answers_1__moon_known_above x7 x8 x9) fun l20 =>
    Option.bind (rangeF m_moon_Whole_L1 l20.1 1) fun e =>
    match e with
    | .inl v21 =>
      Option.bind (m_moon_known_light p4 v21) fun x22 =>
      some (x22, 0)
    | .inr v24 =>
      Option.bind (m_moon_known_light p4 v24) fun x25 =>
      some (x25, 0)
set_option maxRecDepth 100000 in
set_option maxHeartbeats 2000000 in
theorem d_moon_Whole (s : TSky) (night : Int) (known : Int) (from_ : Int) (to_ : Int) (r : (TRange × Int)) (hm : m_moon_Whole s night known from_ to_ = some r) : Does Try.prog 32 [.agg (TSky.c s), DI night, DI known, DI from_, DI to_] (fun x => x = .tup [.agg (TRange.c r.1), DI r.2]) := by
  refine does_r (X := ⟨Try.prog, tt, Try.f32.ntmps, [], [], [], []⟩) pok _ Try.func32 rfl rfl (Nat.le_of_ble_eq_true rfl) ?_
  intro ds
  intro ds
  refine ⟨([from_, to_] : List Int).flatMap cI, ([from_, to_] : List Int).length, ⟨rfl, rfl⟩, ?_⟩
  obtain ⟨⟨x1, x2⟩, hx3, hm⟩ := bd_some hm
  refine CallOwn.det (d_moon_clearly s night known (([from_, to_] : List Int)) _ hx3) ?_
  rcases x1 with _ | p4
  · replace hm := opt_none hm
    intro ds
    refine VIf.mk (fun (h5 : (x2 != 0) = true) => ?_) (fun (h5 : (x2 != 0) = false) => ?_)
    · replace hm := if_t h5 hm
      intro ds
      intro ds
      cases hm
      exact RetY.le (leD.refl _)
    · replace hm := if_f h5 hm
      intro ds
      intro ds
      intro ds
      intro ds
      cases hm
  · replace hm := opt_some hm
    intro ds
    refine VIf.mk (fun (h6 : (x2 != 0) = true) => ?_) (fun (h6 : (x2 != 0) = false) => ?_)
    · replace hm := if_t h6 hm
      intro ds
      intro ds
      cases hm
      exact RetY.le (leD.refl _)
    · replace hm := if_f h6 hm
      intro ds
      intro ds
      intro ds
      intro ds
      obtain ⟨⟨x7, x8, x9⟩, hx10, hm⟩ := bd_some hm
      refine CallY.det (d_moon_known_answers p4 from_ to_ _ hx10) ?_
      obtain ⟨l20, hl28, hm⟩ := bd_some hm
      obtain ⟨ev27, he, hm⟩ := bd_some hm
      refine RangeY.of (E := Int) en_moon_known_answers_1__moon_known_above l20.1 m_moon_Whole_L1 (fun (lpx : Int) => match lpx with | v15 => (⟨[(0, .agg [.lst 9 s.Sheets.length (s.Sheets.flatMap TSheet.c), .lst 3 s.Roofs.length (s.Roofs.flatMap TRoof.c), .lst 6 s.Sightings.length (s.Sightings.flatMap TSighting.c)]), (1, DI night), (2, DI known), (3, DI from_), (4, DI to_), (5, .own 0 0), (10, .own 1 0), (11, DI 0), (12, .ptr [DI p4.Sheet.Source, DI p4.Sheet.Night, DI p4.Sheet.Known, DI p4.Sheet.Until, .lst 5 p4.Sheet.Rows.length (p4.Sheet.Rows.flatMap TRow.c), DI p4.Sheet.Off.Num, DI p4.Sheet.Off.Den, DI p4.Sheet.Light.Lo, DI p4.Sheet.Light.Hi, .lst 3 p4.roofs.length (p4.roofs.flatMap TRoof.c), .lst 6 p4.sightings.length (p4.sightings.flatMap TSighting.c), DI p4.slip.Lo.Num, DI p4.slip.Lo.Den, DB p4.slip.Open, DI p4.slip.Hi.Num, DI p4.slip.Hi.Den] 0), (13, DI x2), (14, .own 3 0), (28, DB (x2 != 0))], [(0, .blk [.lst 9 s.Sheets.length (s.Sheets.flatMap TSheet.c), .lst 3 s.Roofs.length (s.Roofs.flatMap TRoof.c), .lst 6 s.Sightings.length (s.Sightings.flatMap TSighting.c)] 32), (1, .blk [DI 0, DI 0] 39), (3, .blk [DI v15] 3)], 4⟩ : Sy)) (fun (lpx : Int) => match lpx with | v15 => (⟨[(0, .agg [.lst 9 s.Sheets.length (s.Sheets.flatMap TSheet.c), .lst 3 s.Roofs.length (s.Roofs.flatMap TRoof.c), .lst 6 s.Sightings.length (s.Sightings.flatMap TSighting.c)]), (1, DI night), (2, DI known), (3, DI from_), (4, DI to_), (5, .own 0 0), (10, .own 1 0), (11, DI 0), (12, .ptr [DI p4.Sheet.Source, DI p4.Sheet.Night, DI p4.Sheet.Known, DI p4.Sheet.Until, .lst 5 p4.Sheet.Rows.length (p4.Sheet.Rows.flatMap TRow.c), DI p4.Sheet.Off.Num, DI p4.Sheet.Off.Den, DI p4.Sheet.Light.Lo, DI p4.Sheet.Light.Hi, .lst 3 p4.roofs.length (p4.roofs.flatMap TRoof.c), .lst 6 p4.sightings.length (p4.sightings.flatMap TSighting.c), DI p4.slip.Lo.Num, DI p4.slip.Lo.Den, DB p4.slip.Open, DI p4.slip.Hi.Num, DI p4.slip.Hi.Den] 0), (13, DI x2), (14, .own 3 0), (28, DB (x2 != 0))], [(0, .blk [.lst 9 s.Sheets.length (s.Sheets.flatMap TSheet.c), .lst 3 s.Roofs.length (s.Roofs.flatMap TRoof.c), .lst 6 s.Sightings.length (s.Sightings.flatMap TSighting.c)] 32), (1, .blk [DI 0, DI 0] 39), (3, .blk [DI v15] 3)], 4⟩ : Sy)) (fun _ => (.exit 0)) 1 ev27 [(16, .tmp 36)] [0, 1, 2, 3, 4, 5, 10, 11, 12, 13, 14, 28] (i_moon_known_answers_1__moon_known_above x7 x8 x9 l20.1 hl28) he (enters_f pok Try.func119 rfl) rfl rfl (fun _ => rfl) rfl rfl rfl (by rintro v15; rfl) (by rintro v15; rfl) (SubY.of 4 rfl ⟨⟨_, rfl, leD.refl _⟩, ⟨_, rfl, leD.refl _⟩, ⟨_, rfl, leD.refl _⟩, ⟨_, rfl, leD.refl _⟩, ⟨_, rfl, leD.refl _⟩, ⟨_, rfl, leD.refl _⟩, ⟨_, rfl, leD.refl _⟩, ⟨_, rfl, leD.refl _⟩, ⟨_, rfl, leD.refl _⟩, ⟨_, rfl, leD.refl _⟩, ⟨_, rfl, leD.refl _⟩, ⟨_, rfl, leD.refl _⟩, trivial⟩ ⟨⟨_, rfl, leDL.refl _⟩, ⟨_, rfl, leDL.refl _⟩, ⟨_, rfl, leDL.refl _⟩, trivial⟩) ?_ ?_ (fun _ => .inr ⟨_, rfl⟩) ?_
      · rintro v21 rfl
        intro ds
        obtain ⟨x22, hx23, hm⟩ := bd_some hm
        refine CallY.det (d_moon_known_light p4 v21 _ hx23) ?_
        intro ds
        cases hm
        exact RetY.le (leD.refl _)
      · rintro v24 rfl
        intro ds
        obtain ⟨x25, hx26, hm⟩ := bd_some hm
        refine CallY.det (d_moon_known_light p4 v24 _ hx26) ?_
        intro ds
        cases hm
        exact RetY.le (leD.refl _)
      · clear he hm
        rintro v15 ⟨y11, y12⟩ b hm
        refine VIf.mk (fun (h29 : (y12 == 0) = true) => ?_) (fun (h29 : (y12 == 0) = false) => ?_)
        · replace hm := if_t h29 hm
          cases hm
          exact ⟨0, rfl, rfl, SubY.of 4 rfl ⟨⟨_, rfl, leD.refl _⟩, ⟨_, rfl, leD.refl _⟩, ⟨_, rfl, leD.refl _⟩, ⟨_, rfl, leD.refl _⟩, ⟨_, rfl, leD.refl _⟩, ⟨_, rfl, leD.refl _⟩, ⟨_, rfl, leD.refl _⟩, ⟨_, rfl, leD.refl _⟩, ⟨_, rfl, leD.refl _⟩, ⟨_, rfl, leD.refl _⟩, ⟨_, rfl, leD.refl _⟩, ⟨_, rfl, leD.refl _⟩, trivial⟩ ⟨⟨_, rfl, leDL.refl _⟩, ⟨_, rfl, leDL.refl _⟩, ⟨_, rfl, leDL.refl _⟩, trivial⟩⟩
        · replace hm := if_f h29 hm
          refine VIf.mk (fun (h30 : (y12 == 2) = true) => ?_) (fun (h30 : (y12 == 2) = false) => ?_)
          · replace hm := if_t h30 hm
            cases hm
            exact ⟨2, rfl, SubY.of 4 rfl ⟨⟨_, rfl, leD.refl _⟩, ⟨_, rfl, leD.refl _⟩, ⟨_, rfl, leD.refl _⟩, ⟨_, rfl, leD.refl _⟩, ⟨_, rfl, leD.refl _⟩, ⟨_, rfl, leD.refl _⟩, ⟨_, rfl, leD.refl _⟩, ⟨_, rfl, leD.refl _⟩, ⟨_, rfl, leD.refl _⟩, ⟨_, rfl, leD.refl _⟩, ⟨_, rfl, leD.refl _⟩, ⟨_, rfl, leD.refl _⟩, trivial⟩ ⟨⟨_, rfl, leDL.refl _⟩, ⟨_, rfl, leDL.refl _⟩, ⟨_, rfl, leDL.refl _⟩, trivial⟩⟩
          · replace hm := if_f h30 hm
            cases hm
            exact ⟨v15, rfl, SubY.of 4 rfl ⟨⟨_, rfl, leD.refl _⟩, ⟨_, rfl, leD.refl _⟩, ⟨_, rfl, leD.refl _⟩, ⟨_, rfl, leD.refl _⟩, ⟨_, rfl, leD.refl _⟩, ⟨_, rfl, leD.refl _⟩, ⟨_, rfl, leD.refl _⟩, ⟨_, rfl, leD.refl _⟩, ⟨_, rfl, leD.refl _⟩, ⟨_, rfl, leD.refl _⟩, ⟨_, rfl, leD.refl _⟩, ⟨_, rfl, leD.refl _⟩, trivial⟩ ⟨⟨_, rfl, leDL.refl _⟩, ⟨_, rfl, leDL.refl _⟩, ⟨_, rfl, leDL.refl _⟩, trivial⟩⟩

def m_moon_Margin (s : TSheet) (l : (List TRoof)) (minute : Int) : Option (TFrac × Int) :=
  Option.bind (m_moon_CheckSheet s) fun x1 =>
  if (x1 != 0) = true then
    some ((⟨0, 0⟩ : TFrac), 21)
  else
    Option.bind (m_moon_areRoofs l) fun x4 =>
    if (!x4) = true then
      some ((⟨0, 0⟩ : TFrac), 22)
    else
      Option.bind (m_moon_isMinute minute) fun x7 =>
      if (!x7) = true then
        some ((⟨0, 0⟩ : TFrac), 1)
      else
        Option.bind (m_moon_margin s l minute) fun x10 =>
        some (x10, 0)
set_option maxRecDepth 100000 in
set_option maxHeartbeats 2000000 in
theorem d_moon_Margin (s : TSheet) (l : (List TRoof)) (minute : Int) (r : (TFrac × Int)) (hm : m_moon_Margin s l minute = some r) : Does Try.prog 39 [.agg (TSheet.c s), .lst 3 l.length (l.flatMap TRoof.c), DI minute] (fun x => x = .tup [.agg (TFrac.c r.1), DI r.2]) := by
  refine does_y (X := ⟨Try.prog, tt, Try.f39.ntmps, [], [], [], []⟩) pok _ Try.func39 rfl rfl (Nat.le_of_ble_eq_true rfl) ?_
  obtain ⟨x1, hx2, hm⟩ := bd_some hm
  refine CallY.det (d_moon_CheckSheet s _ hx2) ?_
  refine VIf.mk (fun (h3 : (x1 != 0) = true) => ?_) (fun (h3 : (x1 != 0) = false) => ?_)
  · replace hm := if_t h3 hm
    cases hm
    exact RetY.le (leD.refl _)
  · replace hm := if_f h3 hm
    obtain ⟨x4, hx5, hm⟩ := bd_some hm
    refine CallY.det (d_moon_areRoofs l _ hx5) ?_
    refine VIf.mk (fun (h6 : (!x4) = true) => ?_) (fun (h6 : (!x4) = false) => ?_)
    · replace hm := if_t h6 hm
      cases hm
      exact RetY.le (leD.refl _)
    · replace hm := if_f h6 hm
      obtain ⟨x7, hx8, hm⟩ := bd_some hm
      refine CallY.det (d_moon_isMinute minute _ hx8) ?_
      refine VIf.mk (fun (h9 : (!x7) = true) => ?_) (fun (h9 : (!x7) = false) => ?_)
      · replace hm := if_t h9 hm
        cases hm
        exact RetY.le (leD.refl _)
      · replace hm := if_f h9 hm
        obtain ⟨x10, hx11, hm⟩ := bd_some hm
        refine CallY.det (d_moon_margin s l minute _ hx11) ?_
        cases hm
        exact RetY.le (leD.refl _)

def m_moon_Spans_L1 : (List TSpan) → (Int × Int) → Option (Sum (List TSpan) Unit) := fun v13 (y11, y12) =>
  if (decide ((v13.length : Int) > 0)) = true then
    Option.bind (idx v13 (W ((v13.length : Int) - 1))) fun e25 =>
    Option.bind (idx v13 (W ((v13.length : Int) - 1))) fun e27 =>
    if (e27.Answer == y12) = true then
      Option.bind (idx v13 (W ((v13.length : Int) - 1))) fun e30 =>
      Option.bind (idx v13 (W ((v13.length : Int) - 1))) fun e32 =>
      some (.inl (v13.set (W ((v13.length : Int) - 1)).toNat (⟨e32.From, y11, e32.Answer⟩ : TSpan)))
    else
      gd ((v13.length + ([(⟨y11, y11, y12⟩ : TSpan)] : List TSpan).length) * 24 ≤ 140737488355328 ∧ v13.length + ([(⟨y11, y11, y12⟩ : TSpan)] : List TSpan).length ≤ 9223372036854775807) <|
      some (.inl (v13 ++ ([(⟨y11, y11, y12⟩ : TSpan)] : List TSpan)))
  else
    gd ((v13.length + ([(⟨y11, y11, y12⟩ : TSpan)] : List TSpan).length) * 24 ≤ 140737488355328 ∧ v13.length + ([(⟨y11, y11, y12⟩ : TSpan)] : List TSpan).length ≤ 9223372036854775807) <|
    some (.inl (v13 ++ ([(⟨y11, y11, y12⟩ : TSpan)] : List TSpan)))
def m_moon_Spans (s : TSky) (night : Int) (known : Int) (from_ : Int) (to_ : Int) : Option ((List TSpan) × Int) :=
  Option.bind (m_moon_clearly s night known ([from_, to_] : List Int)) fun ⟨x1, x2⟩ =>
  optM x1 (
    if (x2 != 0) = true then
      some ([], x2)
    else
      none) fun p4 =>
  if (x2 != 0) = true then
    some ([], x2)
  else
    Option.bind (m_moon_known_answers p4 from_ to_) fun ⟨x7, x8, x9⟩ =>
    Option.bind (it_moon_known_answers_1__moon_known_above x7 x8 x9) fun l34 =>
    Option.bind (rangeF m_moon_Spans_L1 l34.1 []) fun e =>
    match e with
    | .inl v35 =>
      some (v35, 0)
    | .inr _ => none
set_option maxRecDepth 100000 in
set_option maxHeartbeats 2000000 in
theorem d_moon_Spans (s : TSky) (night : Int) (known : Int) (from_ : Int) (to_ : Int) (r : ((List TSpan) × Int)) (hm : m_moon_Spans s night known from_ to_ = some r) : Does Try.prog 45 [.agg (TSky.c s), DI night, DI known, DI from_, DI to_] (fun x => x = .tup [.lst 3 r.1.length (r.1.flatMap TSpan.c), DI r.2]) := by
  refine does_r (X := ⟨Try.prog, tt, Try.f45.ntmps, [], [], [], []⟩) pok _ Try.func45 rfl rfl (Nat.le_of_ble_eq_true rfl) ?_
  intro ds
  intro ds
  refine ⟨([from_, to_] : List Int).flatMap cI, ([from_, to_] : List Int).length, ⟨rfl, rfl⟩, ?_⟩
  obtain ⟨⟨x1, x2⟩, hx3, hm⟩ := bd_some hm
  refine CallOwn.det (d_moon_clearly s night known (([from_, to_] : List Int)) _ hx3) ?_
  rcases x1 with _ | p4
  · replace hm := opt_none hm
    intro ds
    refine VIf.mk (fun (h5 : (x2 != 0) = true) => ?_) (fun (h5 : (x2 != 0) = false) => ?_)
    · replace hm := if_t h5 hm
      intro ds
      intro ds
      cases hm
      exact RetY.le (⟨_, rfl, ⟨leD.nil, leD.refl _, trivial⟩⟩)
    · replace hm := if_f h5 hm
      intro ds
      intro ds
      intro ds
      cases hm
  · replace hm := opt_some hm
    intro ds
    refine VIf.mk (fun (h6 : (x2 != 0) = true) => ?_) (fun (h6 : (x2 != 0) = false) => ?_)
    · replace hm := if_t h6 hm
      intro ds
      intro ds
      cases hm
      exact RetY.le (⟨_, rfl, ⟨leD.nil, leD.refl _, trivial⟩⟩)
    · replace hm := if_f h6 hm
      intro ds
      intro ds
      intro ds
      obtain ⟨⟨x7, x8, x9⟩, hx10, hm⟩ := bd_some hm
      refine CallY.det (d_moon_known_answers p4 from_ to_ _ hx10) ?_
      obtain ⟨l34, hl37, hm⟩ := bd_some hm
      obtain ⟨ev36, he, hm⟩ := bd_some hm
      refine RangeY.of (E := Unit) en_moon_known_answers_1__moon_known_above l34.1 m_moon_Spans_L1 (fun (lpx : (List TSpan)) => match lpx with | v13 => (⟨[(0, .agg [.lst 9 s.Sheets.length (s.Sheets.flatMap TSheet.c), .lst 3 s.Roofs.length (s.Roofs.flatMap TRoof.c), .lst 6 s.Sightings.length (s.Sightings.flatMap TSighting.c)]), (1, DI night), (2, DI known), (3, DI from_), (4, DI to_), (5, .own 0 0), (10, .v (.slice none 0 0)), (11, DI 0), (12, .ptr [DI p4.Sheet.Source, DI p4.Sheet.Night, DI p4.Sheet.Known, DI p4.Sheet.Until, .lst 5 p4.Sheet.Rows.length (p4.Sheet.Rows.flatMap TRow.c), DI p4.Sheet.Off.Num, DI p4.Sheet.Off.Den, DI p4.Sheet.Light.Lo, DI p4.Sheet.Light.Hi, .lst 3 p4.roofs.length (p4.roofs.flatMap TRoof.c), .lst 6 p4.sightings.length (p4.sightings.flatMap TSighting.c), DI p4.slip.Lo.Num, DI p4.slip.Lo.Den, DB p4.slip.Open, DI p4.slip.Hi.Num, DI p4.slip.Hi.Den] 0), (13, DI x2), (14, .own 2 0), (28, DB (x2 != 0))], [(0, .blk [.lst 9 s.Sheets.length (s.Sheets.flatMap TSheet.c), .lst 3 s.Roofs.length (s.Roofs.flatMap TRoof.c), .lst 6 s.Sightings.length (s.Sightings.flatMap TSighting.c)] 32), (2, .blk [.row 3 3] 84), (3, .row 3 v13.length (v13.flatMap TSpan.c) 123)], 4⟩ : Sy)) (fun (_ : Unit) => (⟨[], [], 0⟩ : Sy)) (fun _ => .ret) [] ev36 [(15, .tmp 34), (16, .tmp 35)] [0, 1, 2, 3, 4, 5, 10, 11, 12, 13, 14, 28] (i_moon_known_answers_1__moon_known_above x7 x8 x9 l34.1 hl37) he (enters_f pok Try.func119 rfl) rfl rfl (fun _ => rfl) rfl rfl rfl (by rintro v13; rfl) (by intro _; rfl) (SubY.of 3 rfl ⟨⟨_, rfl, leD.refl _⟩, ⟨_, rfl, leD.refl _⟩, ⟨_, rfl, leD.refl _⟩, ⟨_, rfl, leD.refl _⟩, ⟨_, rfl, leD.refl _⟩, ⟨_, rfl, leD.refl _⟩, ⟨_, rfl, leD.refl _⟩, ⟨_, rfl, leD.refl _⟩, ⟨_, rfl, leD.refl _⟩, ⟨_, rfl, leD.refl _⟩, ⟨_, rfl, leD.refl _⟩, ⟨_, rfl, leD.refl _⟩, trivial⟩ ⟨⟨_, rfl, leDL.refl _⟩, ⟨_, rfl, leDL.refl _⟩, ⟨rfl, rfl⟩, trivial⟩) ?_ ?_ (fun _ => .inl rfl) ?_
      · rintro v35 rfl
        intro ds
        intro ds
        cases hm
        exact RetY.le (leD.refl _)
      · rintro _ rfl
        cases hm
      · clear he hm
        rintro v13 ⟨y11, y12⟩ b hm
        refine VIf.mk (fun (h38 : (decide ((v13.length : Int) > 0)) = true) => ?_) (fun (h38 : (decide ((v13.length : Int) > 0)) = false) => ?_)
        · replace hm := if_t h38 hm
          obtain ⟨e39, hx40, hm⟩ := bd_some hm
          refine ⟨idx_bd hx40, ?_⟩
          obtain ⟨e41, hx42, hm⟩ := bd_some hm
          refine ⟨_, el_row (fun _ => rfl) hx42, ?_⟩
          refine VIf.mk (fun (h43 : (e41.Answer == y12) = true) => ?_) (fun (h43 : (e41.Answer == y12) = false) => ?_)
          · replace hm := if_t h43 hm
            obtain ⟨e44, hx45, hm⟩ := bd_some hm
            refine ⟨idx_bd hx45, ?_⟩
            obtain ⟨e46, hx47, hm⟩ := bd_some hm
            refine ⟨_, el_row (fun _ => rfl) hx47, _, set_row (y := (⟨e46.From, y11, e46.Answer⟩ : TSpan)) (fun _ => rfl) hx47, ?_⟩
            cases hm
            exact ⟨(v13.set (W ((v13.length : Int) - 1)).toNat (⟨e46.From, y11, e46.Answer⟩ : TSpan)), rfl, SubY.of 4 rfl ⟨⟨_, rfl, leD.refl _⟩, ⟨_, rfl, leD.refl _⟩, ⟨_, rfl, leD.refl _⟩, ⟨_, rfl, leD.refl _⟩, ⟨_, rfl, leD.refl _⟩, ⟨_, rfl, leD.refl _⟩, ⟨_, rfl, leD.refl _⟩, ⟨_, rfl, leD.refl _⟩, ⟨_, rfl, leD.refl _⟩, ⟨_, rfl, leD.refl _⟩, ⟨_, rfl, leD.refl _⟩, ⟨_, rfl, leD.refl _⟩, trivial⟩ ⟨⟨_, rfl, leDL.refl _⟩, ⟨_, rfl, leDL.refl _⟩, ⟨_, _, rfl, (by first | rfl | simp), rfl⟩, trivial⟩⟩
          · replace hm := if_f h43 hm
            refine ⟨([(⟨y11, y11, y12⟩ : TSpan)] : List TSpan).flatMap TSpan.c, ([(⟨y11, y11, y12⟩ : TSpan)] : List TSpan).length, ⟨rfl, rfl⟩, ?_⟩
            obtain ⟨hg, hm⟩ := gd_some hm
            refine ⟨hg, _, _, flat_app (c := TSpan.c) (l := (v13 : List TSpan)) (r := (([(⟨y11, y11, y12⟩ : TSpan)] : List TSpan) : List TSpan)), ?_⟩
            cases hm
            exact ⟨(v13 ++ ([(⟨y11, y11, y12⟩ : TSpan)] : List TSpan)), rfl, SubY.of 4 rfl ⟨⟨_, rfl, leD.refl _⟩, ⟨_, rfl, leD.refl _⟩, ⟨_, rfl, leD.refl _⟩, ⟨_, rfl, leD.refl _⟩, ⟨_, rfl, leD.refl _⟩, ⟨_, rfl, leD.refl _⟩, ⟨_, rfl, leD.refl _⟩, ⟨_, rfl, leD.refl _⟩, ⟨_, rfl, leD.refl _⟩, ⟨_, rfl, leD.refl _⟩, ⟨_, rfl, leD.refl _⟩, ⟨_, rfl, leD.refl _⟩, trivial⟩ ⟨⟨_, rfl, leDL.refl _⟩, ⟨_, rfl, leDL.refl _⟩, ⟨_, _, rfl, (by first | rfl | simp), rfl⟩, trivial⟩⟩
        · replace hm := if_f h38 hm
          refine ⟨([(⟨y11, y11, y12⟩ : TSpan)] : List TSpan).flatMap TSpan.c, ([(⟨y11, y11, y12⟩ : TSpan)] : List TSpan).length, ⟨rfl, rfl⟩, ?_⟩
          obtain ⟨hg, hm⟩ := gd_some hm
          refine ⟨hg, _, _, flat_app (c := TSpan.c) (l := (v13 : List TSpan)) (r := (([(⟨y11, y11, y12⟩ : TSpan)] : List TSpan) : List TSpan)), ?_⟩
          cases hm
          exact ⟨(v13 ++ ([(⟨y11, y11, y12⟩ : TSpan)] : List TSpan)), rfl, SubY.of 4 rfl ⟨⟨_, rfl, leD.refl _⟩, ⟨_, rfl, leD.refl _⟩, ⟨_, rfl, leD.refl _⟩, ⟨_, rfl, leD.refl _⟩, ⟨_, rfl, leD.refl _⟩, ⟨_, rfl, leD.refl _⟩, ⟨_, rfl, leD.refl _⟩, ⟨_, rfl, leD.refl _⟩, ⟨_, rfl, leD.refl _⟩, ⟨_, rfl, leD.refl _⟩, ⟨_, rfl, leD.refl _⟩, ⟨_, rfl, leD.refl _⟩, trivial⟩ ⟨⟨_, rfl, leDL.refl _⟩, ⟨_, rfl, leDL.refl _⟩, ⟨_, _, rfl, (by first | rfl | simp), rfl⟩, trivial⟩⟩

def m_R02_SameSpans_L1 (a : (List TSpan)) (b_ : (List TSpan)) : Int → Option (Sum Int (Sum Int Bool)) := fun i8 =>
  if (decide (i8 < (a.length : Int))) = true then
    Option.bind (idx a i8) fun e16 =>
    Option.bind (idx b_ i8) fun e18 =>
    if (!((e16.From == e18.From) && ((e16.To == e18.To) && (e16.Answer == e18.Answer)))) = true then
      some (.inr (.inr false))
    else
      some (.inl (W (i8 + 1)))
  else
    some (.inr (.inl i8))
def m_R02_SameSpans (a : (List TSpan)) (b_ : (List TSpan)) : Option Bool :=
  if ((a.length : Int) != (b_.length : Int)) = true then
    some false
  else
    Option.bind (loopF (m_R02_SameSpans_L1 a b_) 0) fun e =>
    match e with
    | .inl i21 =>
      some true
    | .inr rr22 =>
      some rr22
set_option maxRecDepth 100000 in
set_option maxHeartbeats 2000000 in
theorem d_R02_SameSpans (a : (List TSpan)) (b_ : (List TSpan)) (r : Bool) (hm : m_R02_SameSpans a b_ = some r) : Does Try.prog 47 [.lst 3 a.length (a.flatMap TSpan.c), .lst 3 b_.length (b_.flatMap TSpan.c)] (fun x => x = DB r) := by
  refine does_y (X := ⟨Try.prog, tt, Try.f47.ntmps, pl47, [], [], []⟩) pok _ Try.func47 rfl rfl (Nat.le_of_ble_eq_true rfl) ?_
  refine VIf.mk (fun (h1 : ((a.length : Int) != (b_.length : Int)) = true) => ?_) (fun (h1 : ((a.length : Int) != (b_.length : Int)) = false) => ?_)
  · replace hm := if_t h1 hm
    cases hm
    exact RetY.le (leD.refl _)
  · replace hm := if_f h1 hm
    obtain ⟨ev23, he, hk24⟩ := bd_some hm
    refine LoopY.of (fun (lpx : Nat × Int) => match lpx with | (fu25, i8) => (⟨[(0, .lst 3 a.length (a.flatMap TSpan.c)), (1, .lst 3 b_.length (b_.flatMap TSpan.c)), (4, DB false), (5, DI i8), (10, DB ((a.length : Int) != (b_.length : Int)))], [], 0⟩ : Sy)) (fun lpx => loopO (m_R02_SameSpans_L1 a b_) lpx.1 lpx.2 = some ev23) (fun lpx => lpx.1) (FUEL, 0) (SubY.of 0 rfl ⟨⟨_, rfl, leD.refl _⟩, ⟨_, rfl, leD.refl _⟩, ⟨_, rfl, leD.refl _⟩, ⟨_, rfl, leD.refl _⟩, ⟨_, rfl, leD.refl _⟩, trivial⟩ trivial) he ?_
    rintro ⟨fu25, i8⟩ hi26
    obtain ⟨fu25, b, rfl, hm, hi26⟩ := loop_step hi26
    refine VIf.mk (fun (h27 : (decide (i8 < (a.length : Int))) = true) => ?_) (fun (h27 : (decide (i8 < (a.length : Int))) = false) => ?_)
    · replace hm := if_t h27 hm
      refine ⟨rfl, ?_⟩
      obtain ⟨e28, hx29, hm⟩ := bd_some hm
      refine ⟨_, el_idx (fun _ => rfl) hx29, ?_⟩
      obtain ⟨e30, hx31, hm⟩ := bd_some hm
      refine ⟨_, el_idx (fun _ => rfl) hx31, ?_⟩
      refine VIf.mk (fun (h32 : (!((e28.From == e30.From) && ((e28.To == e30.To) && (e28.Answer == e30.Answer)))) = true) => ?_) (fun (h32 : (!((e28.From == e30.From) && ((e28.To == e30.To) && (e28.Answer == e30.Answer)))) = false) => ?_)
      · replace hm := if_t h32 hm
        cases hm
        cases hi26
        have hm := hk24
        cases hm
        exact RetY.le (leD.refl _)
      · replace hm := if_f h32 hm
        cases hm
        exact ⟨(fu25, (W (i8 + 1))), SubY.of 0 rfl ⟨⟨_, rfl, leD.refl _⟩, ⟨_, rfl, leD.refl _⟩, ⟨_, rfl, leD.refl _⟩, ⟨_, rfl, leD.refl _⟩, ⟨_, rfl, leD.refl _⟩, trivial⟩ trivial, hi26, Nat.lt_succ_self _⟩
    · replace hm := if_f h27 hm
      cases hm
      cases hi26
      have hm := hk24
      cases hm
      exact RetY.le (leD.refl _)

def m_L02_of (n : Int) : Option TFrac :=
  some (⟨n, 1⟩ : TFrac)
set_option maxRecDepth 100000 in
set_option maxHeartbeats 2000000 in
theorem d_L02_of (n : Int) (r : TFrac) (hm : m_L02_of n = some r) : Does Try.prog 66 [DI n] (fun x => x = .agg (TFrac.c r)) := by
  refine does_y (X := ⟨Try.prog, tt, Try.f66.ntmps, [], [], [], []⟩) pok _ Try.func66 rfl rfl (Nat.le_of_ble_eq_true rfl) ?_
  cases hm
  exact RetY.le (leD.refl _)

def m_L02_example : Option TSky :=
  Option.bind (m_L02_of 2) fun x1 =>
  Option.bind (m_L02_of (-20)) fun x3 =>
  Option.bind (m_L02_of 80) fun x5 =>
  Option.bind (m_L02_of 0) fun x7 =>
  Option.bind (m_L02_of 100) fun x9 =>
  Option.bind (m_L02_of 30) fun x11 =>
  Option.bind (m_L02_of 200) fun x13 =>
  Option.bind (m_L02_of (-10)) fun x15 =>
  Option.bind (m_L02_of 300) fun x17 =>
  some (⟨[(⟨1, 5, 3, 0, ([(⟨0, x3, x5⟩ : TRow), (⟨500, x7, x9⟩ : TRow), (⟨800, x11, x13⟩ : TRow), (⟨1439, x15, x17⟩ : TRow)] : List TRow), x1, (⟨400, 500⟩ : TRange)⟩ : TSheet)], ([(⟨90, 110, 1⟩ : TRoof), (⟨190, 360, 10⟩ : TRoof)] : List TRoof), ([(⟨10, 5, 500, true, 6, 0⟩ : TSighting), (⟨11, 5, 520, false, 7, 0⟩ : TSighting)] : List TSighting)⟩ : TSky)
set_option maxRecDepth 100000 in
set_option maxHeartbeats 2000000 in
theorem d_L02_example (r : TSky) (hm : m_L02_example  = some r) : Does Try.prog 65 [] (fun x => x = .agg (TSky.c r)) := by
  refine does_y (X := ⟨Try.prog, tt, Try.f65.ntmps, [], [], [], []⟩) pok _ Try.func65 rfl rfl (Nat.le_of_ble_eq_true rfl) ?_
  obtain ⟨x1, hx2, hm⟩ := bd_some hm
  refine CallY.det (d_L02_of 2 _ hx2) ?_
  obtain ⟨x3, hx4, hm⟩ := bd_some hm
  refine CallY.det (d_L02_of (-20) _ hx4) ?_
  obtain ⟨x5, hx6, hm⟩ := bd_some hm
  refine CallY.det (d_L02_of 80 _ hx6) ?_
  obtain ⟨x7, hx8, hm⟩ := bd_some hm
  refine CallY.det (d_L02_of 0 _ hx8) ?_
  obtain ⟨x9, hx10, hm⟩ := bd_some hm
  refine CallY.det (d_L02_of 100 _ hx10) ?_
  obtain ⟨x11, hx12, hm⟩ := bd_some hm
  refine CallY.det (d_L02_of 30 _ hx12) ?_
  obtain ⟨x13, hx14, hm⟩ := bd_some hm
  refine CallY.det (d_L02_of 200 _ hx14) ?_
  obtain ⟨x15, hx16, hm⟩ := bd_some hm
  refine CallY.det (d_L02_of (-10) _ hx16) ?_
  obtain ⟨x17, hx18, hm⟩ := bd_some hm
  refine CallY.det (d_L02_of 300 _ hx18) ?_
  refine ⟨([(⟨0, x3, x5⟩ : TRow), (⟨500, x7, x9⟩ : TRow), (⟨800, x11, x13⟩ : TRow), (⟨1439, x15, x17⟩ : TRow)] : List TRow).flatMap TRow.c, ([(⟨0, x3, x5⟩ : TRow), (⟨500, x7, x9⟩ : TRow), (⟨800, x11, x13⟩ : TRow), (⟨1439, x15, x17⟩ : TRow)] : List TRow).length, ⟨rfl, rfl⟩, ?_⟩
  refine ⟨([(⟨90, 110, 1⟩ : TRoof), (⟨190, 360, 10⟩ : TRoof)] : List TRoof).flatMap TRoof.c, ([(⟨90, 110, 1⟩ : TRoof), (⟨190, 360, 10⟩ : TRoof)] : List TRoof).length, ⟨rfl, rfl⟩, ?_⟩
  refine ⟨([(⟨10, 5, 500, true, 6, 0⟩ : TSighting), (⟨11, 5, 520, false, 7, 0⟩ : TSighting)] : List TSighting).flatMap TSighting.c, ([(⟨10, 5, 500, true, 6, 0⟩ : TSighting), (⟨11, 5, 520, false, 7, 0⟩ : TSighting)] : List TSighting).length, ⟨rfl, rfl⟩, ?_⟩
  cases hm
  exact RetY.le (leD.refl _)

end Go.Proofs.Ytdhjccionnbljaa
