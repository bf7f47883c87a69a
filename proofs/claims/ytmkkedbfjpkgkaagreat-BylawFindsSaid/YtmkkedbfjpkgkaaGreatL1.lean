/- Functions of the program as pure Lean functions, and that calls do what these say. Printed by a program out of the given form. -/
import Derived.Test.YtmkkedbfjpkgkaaGreatL0
set_option linter.unusedVariables false
set_option linter.unusedSimpArgs false
namespace Go.Proofs.YtmkkedbfjpkgkaaGreat
open Go Go.RowKit Go.Sx
set_option maxRecDepth 100000
set_option maxHeartbeats 20000000
def m_bylaw_in (n : Int) (low : Int) (high : Int) : Option Bool :=
  if (decide (low ≤ n)) = true then
    some (decide (n ≤ high))
  else
    some false
theorem d_bylaw_in (n : Int) (low : Int) (high : Int) (r : Bool) (hm : m_bylaw_in n low high = some r) : Does Tryz.prog 21 [DI n, DI low, DI high] (fun x => x = DB r) := by
  refine does_zy (X := ⟨Tryz.prog, tt, Tryz.f21.ntmps, [], [], [], [], [70], []⟩) pok _ Tryz.func21 rfl rfl (Nat.le_of_ble_eq_true rfl) ?_
  revert hm
  refine VIf.b (fun h1 hm => ?_) (fun h1 hm => ?_)
  cases hm
  exact RetY.le (leD.refl _)
  cases hm
  exact RetY.le (leD.refl _)

def m_bylaw_isNight (n : Int) : Option Bool :=
  Option.bind (m_bylaw_in n 0 100000) fun x1 =>
  some x1
theorem d_bylaw_isNight (n : Int) (r : Bool) (hm : m_bylaw_isNight n = some r) : Does Tryz.prog 22 [DI n] (fun x => x = DB r) := by
  refine does_zy (X := ⟨Tryz.prog, tt, Tryz.f22.ntmps, [], [], [], [], [70], []⟩) pok _ Tryz.func22 rfl rfl (Nat.le_of_ble_eq_true rfl) ?_
  obtain ⟨x1, hx2, hm⟩ := bd_some hm
  refine CallY.det (d_bylaw_in n 0 100000 _ hx2) ?_
  cases hm
  exact RetY.le (leD.refl _)

def m_bylaw_isRange (r_ : TRange) (high : Int) : Option Bool :=
  if (decide (0 ≤ r_.Lo)) = true then
    if (decide (r_.Lo ≤ r_.Hi)) = true then
      some (decide (r_.Hi ≤ high))
    else
      some false
  else
    some false
theorem d_bylaw_isRange (r_ : TRange) (high : Int) (r : Bool) (hm : m_bylaw_isRange r_ high = some r) : Does Tryz.prog 73 [.agg (TRange.c r_), DI high] (fun x => x = DB r) := by
  refine does_zy (X := ⟨Tryz.prog, tt, Tryz.f73.ntmps, [], [], [], [], [70], []⟩) pok _ Tryz.func73 rfl rfl (Nat.le_of_ble_eq_true rfl) ?_
  revert hm
  refine VIf.b (fun h1 hm => ?_) (fun h1 hm => ?_)
  revert hm
  refine VIf.b (fun h2 hm => ?_) (fun h2 hm => ?_)
  cases hm
  exact RetY.le (leD.refl _)
  cases hm
  exact RetY.le (leD.refl _)
  cases hm
  exact RetY.le (leD.refl _)

def m_bylaw_CheckVersion (v : TVersion) : Option Int :=
  Option.bind (m_bylaw_in v.Source 1 99999) fun x1 =>
  if (!x1) = true then
    some 10
  else
    Option.bind (m_bylaw_in v.Class 1 9) fun x4 =>
    if (!x4) = true then
      some 10
    else
      Option.bind (m_bylaw_isNight v.From) fun x7 =>
      if (!x7) = true then
        some 10
      else
        Option.bind (m_bylaw_isRange v.On 600) fun x10 =>
        if (!x10) = true then
          some 10
        else
          Option.bind (m_bylaw_isRange v.Off 600) fun x13 =>
          if (!x13) = true then
            some 10
          else
            Option.bind (m_bylaw_in v.Moon 0 1001) fun x16 =>
            if (!x16) = true then
              some 10
            else
              Option.bind (m_bylaw_in v.Fog 0 600) fun x19 =>
              if (!x19) = true then
                some 10
              else
                Option.bind (m_bylaw_isNight v.Known) fun x22 =>
                if (!x22) = true then
                  some 10
                else
                  if (v.Until != 0) = true then
                    Option.bind (m_bylaw_in v.Until (W (v.Known + 1)) 100000) fun x26 =>
                    if (!x26) = true then
                      some 10
                    else
                      some 0
                  else
                    some 0
theorem d_bylaw_CheckVersion (v : TVersion) (r : Int) (hm : m_bylaw_CheckVersion v = some r) : Does Tryz.prog 41 [.agg (TVersion.c v)] (fun x => x = DI r) := by
  refine does_zy (X := ⟨Tryz.prog, tt, Tryz.f41.ntmps, [], [], [], [], [70], []⟩) pok _ Tryz.func41 rfl rfl (Nat.le_of_ble_eq_true rfl) ?_
  obtain ⟨x1, hx2, hm⟩ := bd_some hm
  refine CallY.det (d_bylaw_in v.Source 1 99999 _ hx2) ?_
  revert hm
  refine VIf.b (fun h3 hm => ?_) (fun h3 hm => ?_)
  cases hm
  exact RetY.le (leD.refl _)
  obtain ⟨x4, hx5, hm⟩ := bd_some hm
  refine CallY.det (d_bylaw_in v.Class 1 9 _ hx5) ?_
  revert hm
  refine VIf.b (fun h6 hm => ?_) (fun h6 hm => ?_)
  cases hm
  exact RetY.le (leD.refl _)
  obtain ⟨x7, hx8, hm⟩ := bd_some hm
  refine CallY.det (d_bylaw_isNight v.From _ hx8) ?_
  revert hm
  refine VIf.b (fun h9 hm => ?_) (fun h9 hm => ?_)
  cases hm
  exact RetY.le (leD.refl _)
  obtain ⟨x10, hx11, hm⟩ := bd_some hm
  refine CallY.det (d_bylaw_isRange v.On 600 _ hx11) ?_
  revert hm
  refine VIf.b (fun h12 hm => ?_) (fun h12 hm => ?_)
  cases hm
  exact RetY.le (leD.refl _)
  obtain ⟨x13, hx14, hm⟩ := bd_some hm
  refine CallY.det (d_bylaw_isRange v.Off 600 _ hx14) ?_
  revert hm
  refine VIf.b (fun h15 hm => ?_) (fun h15 hm => ?_)
  cases hm
  exact RetY.le (leD.refl _)
  obtain ⟨x16, hx17, hm⟩ := bd_some hm
  refine CallY.det (d_bylaw_in v.Moon 0 1001 _ hx17) ?_
  revert hm
  refine VIf.b (fun h18 hm => ?_) (fun h18 hm => ?_)
  cases hm
  exact RetY.le (leD.refl _)
  obtain ⟨x19, hx20, hm⟩ := bd_some hm
  refine CallY.det (d_bylaw_in v.Fog 0 600 _ hx20) ?_
  revert hm
  refine VIf.b (fun h21 hm => ?_) (fun h21 hm => ?_)
  cases hm
  exact RetY.le (leD.refl _)
  obtain ⟨x22, hx23, hm⟩ := bd_some hm
  refine CallY.det (d_bylaw_isNight v.Known _ hx23) ?_
  revert hm
  refine VIf.b (fun h24 hm => ?_) (fun h24 hm => ?_)
  cases hm
  exact RetY.le (leD.refl _)
  revert hm
  refine VIf.b (fun h25 hm => ?_) (fun h25 hm => ?_)
  obtain ⟨x26, hx27, hm⟩ := bd_some hm
  refine CallY.det (d_bylaw_in v.Until (W (v.Known + 1)) 100000 _ hx27) ?_
  revert hm
  refine VIf.b (fun h28 hm => ?_) (fun h28 hm => ?_)
  cases hm
  exact RetY.le (leD.refl _)
  cases hm
  exact RetY.le (leD.refl _)
  cases hm
  exact RetY.le (leD.refl _)

def m_bylaw_sourceOf (v : TVersion) : Option Int :=
  some v.Source
theorem d_bylaw_sourceOf (v : TVersion) (r : Int) (hm : m_bylaw_sourceOf v = some r) : Does Tryz.prog 42 [.agg (TVersion.c v)] (fun x => x = DI r) := by
  refine does_zy (X := ⟨Tryz.prog, tt, Tryz.f42.ntmps, [], [], [], [], [70], []⟩) pok _ Tryz.func42 rfl rfl (Nat.le_of_ble_eq_true rfl) ?_
  cases hm
  exact RetY.le (leD.refl _)

def m_bylaw_CheckStreet (s : TStreet) : Option Int :=
  Option.bind (m_bylaw_in s.Id 1 99) fun x1 =>
  if (!x1) = true then
    some 11
  else
    Option.bind (m_bylaw_in s.Class 1 9) fun x4 =>
    if (!x4) = true then
      some 11
    else
      Option.bind (m_bylaw_in s.District 1 9) fun x7 =>
      if (!x7) = true then
        some 11
      else
        Option.bind (m_bylaw_in s.First 1 999) fun x10 =>
        if (!x10) = true then
          some 11
        else
          Option.bind (m_bylaw_in s.Many 1 200) fun x13 =>
          if (!x13) = true then
            some 11
          else
            if (decide ((W ((W (s.First + s.Many)) - 1)) > 999)) = true then
              some 11
            else
              some 0
theorem d_bylaw_CheckStreet (s : TStreet) (r : Int) (hm : m_bylaw_CheckStreet s = some r) : Does Tryz.prog 44 [.agg (TStreet.c s)] (fun x => x = DI r) := by
  refine does_zy (X := ⟨Tryz.prog, tt, Tryz.f44.ntmps, [], [], [], [], [70], []⟩) pok _ Tryz.func44 rfl rfl (Nat.le_of_ble_eq_true rfl) ?_
  obtain ⟨x1, hx2, hm⟩ := bd_some hm
  refine CallY.det (d_bylaw_in s.Id 1 99 _ hx2) ?_
  revert hm
  refine VIf.b (fun h3 hm => ?_) (fun h3 hm => ?_)
  cases hm
  exact RetY.le (leD.refl _)
  obtain ⟨x4, hx5, hm⟩ := bd_some hm
  refine CallY.det (d_bylaw_in s.Class 1 9 _ hx5) ?_
  revert hm
  refine VIf.b (fun h6 hm => ?_) (fun h6 hm => ?_)
  cases hm
  exact RetY.le (leD.refl _)
  obtain ⟨x7, hx8, hm⟩ := bd_some hm
  refine CallY.det (d_bylaw_in s.District 1 9 _ hx8) ?_
  revert hm
  refine VIf.b (fun h9 hm => ?_) (fun h9 hm => ?_)
  cases hm
  exact RetY.le (leD.refl _)
  obtain ⟨x10, hx11, hm⟩ := bd_some hm
  refine CallY.det (d_bylaw_in s.First 1 999 _ hx11) ?_
  revert hm
  refine VIf.b (fun h12 hm => ?_) (fun h12 hm => ?_)
  cases hm
  exact RetY.le (leD.refl _)
  obtain ⟨x13, hx14, hm⟩ := bd_some hm
  refine CallY.det (d_bylaw_in s.Many 1 200 _ hx14) ?_
  revert hm
  refine VIf.b (fun h15 hm => ?_) (fun h15 hm => ?_)
  cases hm
  exact RetY.le (leD.refl _)
  revert hm
  refine VIf.b (fun h16 hm => ?_) (fun h16 hm => ?_)
  cases hm
  exact RetY.le (leD.refl _)
  cases hm
  exact RetY.le (leD.refl _)

def m_bylaw_idOf (s : TStreet) : Option Int :=
  some s.Id
theorem d_bylaw_idOf (s : TStreet) (r : Int) (hm : m_bylaw_idOf s = some r) : Does Tryz.prog 45 [.agg (TStreet.c s)] (fun x => x = DI r) := by
  refine does_zy (X := ⟨Tryz.prog, tt, Tryz.f45.ntmps, [], [], [], [], [70], []⟩) pok _ Tryz.func45 rfl rfl (Nat.le_of_ble_eq_true rfl) ?_
  cases hm
  exact RetY.le (leD.refl _)

def m_bylaw_has (s : TStreet) (lamp : Int) : Option Bool :=
  Option.bind (m_bylaw_in lamp s.First (W ((W (s.First + s.Many)) - 1))) fun x1 =>
  some x1
theorem d_bylaw_has (s : TStreet) (lamp : Int) (r : Bool) (hm : m_bylaw_has s lamp = some r) : Does Tryz.prog 46 [.agg (TStreet.c s), DI lamp] (fun x => x = DB r) := by
  refine does_zy (X := ⟨Tryz.prog, tt, Tryz.f46.ntmps, [], [], [], [], [70], []⟩) pok _ Tryz.func46 rfl rfl (Nat.le_of_ble_eq_true rfl) ?_
  obtain ⟨x1, hx2, hm⟩ := bd_some hm
  refine CallY.det (d_bylaw_in lamp s.First (W ((W (s.First + s.Many)) - 1)) _ hx2) ?_
  cases hm
  exact RetY.le (leD.refl _)

def m_bylaw_areAll_api_Version__bylaw_CheckVersion__bylaw_sourceOf_L1 (l : (List TVersion)) : Int → Option (Sum Int (Sum Int Bool)) := fun v7 =>
  if (decide (v7 < (l.length : Int))) = true then
    Option.bind (idx l v7) fun e23 =>
    Option.bind (m_bylaw_CheckVersion e23) fun x25 =>
    if (x25 != 0) = true then
      some (.inr (.inr false))
    else
      if (decide (v7 > 0)) = true then
        Option.bind (idx l (W (v7 - 1))) fun e29 =>
        Option.bind (m_bylaw_sourceOf e29) fun x31 =>
        Option.bind (m_bylaw_sourceOf e23) fun x33 =>
        if (decide (x31 ≥ x33)) = true then
          some (.inr (.inr false))
        else
          some (.inl (W (v7 + 1)))
      else
        some (.inl (W (v7 + 1)))
  else
    some (.inr (.inl v7))
def m_bylaw_areAll_api_Version__bylaw_CheckVersion__bylaw_sourceOf (l : (List TVersion)) (most : Int) : Option Bool :=
  Option.bind (loopF (m_bylaw_areAll_api_Version__bylaw_CheckVersion__bylaw_sourceOf_L1 l) 0) fun e =>
  match e with
  | .inl v36 =>
    some (decide ((l.length : Int) ≤ most))
  | .inr rr37 =>
    some rr37
theorem d_bylaw_areAll_api_Version__bylaw_CheckVersion__bylaw_sourceOf (l : (List TVersion)) (most : Int) (r : Bool) (hm : m_bylaw_areAll_api_Version__bylaw_CheckVersion__bylaw_sourceOf l most = some r) : Does Tryz.prog 40 [lD 11 l TVersion.c, DI most, .fn 41 [] [], .fn 42 [] []] (fun x => x = DB r) := by
  refine does_zy (X := ⟨Tryz.prog, tt, Tryz.f40.ntmps, pl40, [], [], [], [70], []⟩) pok _ Tryz.func40 rfl rfl (Nat.le_of_ble_eq_true rfl) ?_
  obtain ⟨ev38, he, hk39⟩ := bd_some hm
  refine LoopY.ofL (m_bylaw_areAll_api_Version__bylaw_CheckVersion__bylaw_sourceOf_L1 l) (fun v7 => ⟨[(0, lD 11 l TVersion.c), (1, DI most), (2, .fn 41 [] []), (3, .fn 42 [] []), (8, DB false), (11, lD 11 l TVersion.c), (12, DI (l.length : Int)), (13, DI v7)], [], 0⟩) 0 (SubY.of 0 rfl ⟨tR rfl, tR rfl, tR rfl, tR rfl, tR rfl, tR rfl, tR rfl, tR rfl, trivial⟩ trivial) he ?_
  rintro fu40 v7 b hm hi41
  revert hm
  refine VIf.b (fun h42 hm => ?_) (fun h42 hm => ?_)
  obtain ⟨e43, hx44, hm⟩ := bd_some hm
  refine ⟨_, el_idx (fun _ => rfl) hx44, ?_⟩
  refine ⟨rfl, ?_⟩
  obtain ⟨x45, hx46, hm⟩ := bd_some hm
  refine CallY.det (d_bylaw_CheckVersion e43 _ hx46) ?_
  revert hm
  refine VIf.b (fun h47 hm => ?_) (fun h47 hm => ?_)
  cases hm
  cases hi41
  have hm := hk39
  cases hm
  exact RetY.le (leD.refl _)
  revert hm
  refine VIf.b (fun h48 hm => ?_) (fun h48 hm => ?_)
  obtain ⟨e49, hx50, hm⟩ := bd_some hm
  refine ⟨_, el_idx (fun _ => rfl) hx50, ?_⟩
  obtain ⟨x51, hx52, hm⟩ := bd_some hm
  refine CallY.det (d_bylaw_sourceOf e49 _ hx52) ?_
  obtain ⟨x53, hx54, hm⟩ := bd_some hm
  refine CallY.det (d_bylaw_sourceOf e43 _ hx54) ?_
  revert hm
  refine VIf.b (fun h55 hm => ?_) (fun h55 hm => ?_)
  cases hm
  cases hi41
  have hm := hk39
  cases hm
  exact RetY.le (leD.refl _)
  cases hm
  exact ⟨(_, (W (v7 + 1))), SubY.of 0 rfl ⟨tR rfl, tR rfl, tR rfl, tR rfl, tR rfl, tR rfl, tR rfl, tR rfl, trivial⟩ trivial, hi41, Nat.lt_succ_self _⟩
  cases hm
  exact ⟨(_, (W (v7 + 1))), SubY.of 0 rfl ⟨tR rfl, tR rfl, tR rfl, tR rfl, tR rfl, tR rfl, tR rfl, tR rfl, trivial⟩ trivial, hi41, Nat.lt_succ_self _⟩
  cases hm
  cases hi41
  have hm := hk39
  cases hm
  exact RetY.le (leD.refl _)

def m_bylaw_areAll_api_Street__bylaw_CheckStreet__bylaw_idOf_L1 (l : (List TStreet)) : Int → Option (Sum Int (Sum Int Bool)) := fun v7 =>
  if (decide (v7 < (l.length : Int))) = true then
    Option.bind (idx l v7) fun e23 =>
    Option.bind (m_bylaw_CheckStreet e23) fun x25 =>
    if (x25 != 0) = true then
      some (.inr (.inr false))
    else
      if (decide (v7 > 0)) = true then
        Option.bind (idx l (W (v7 - 1))) fun e29 =>
        Option.bind (m_bylaw_idOf e29) fun x31 =>
        Option.bind (m_bylaw_idOf e23) fun x33 =>
        if (decide (x31 ≥ x33)) = true then
          some (.inr (.inr false))
        else
          some (.inl (W (v7 + 1)))
      else
        some (.inl (W (v7 + 1)))
  else
    some (.inr (.inl v7))
def m_bylaw_areAll_api_Street__bylaw_CheckStreet__bylaw_idOf (l : (List TStreet)) (most : Int) : Option Bool :=
  Option.bind (loopF (m_bylaw_areAll_api_Street__bylaw_CheckStreet__bylaw_idOf_L1 l) 0) fun e =>
  match e with
  | .inl v36 =>
    some (decide ((l.length : Int) ≤ most))
  | .inr rr37 =>
    some rr37
theorem d_bylaw_areAll_api_Street__bylaw_CheckStreet__bylaw_idOf (l : (List TStreet)) (most : Int) (r : Bool) (hm : m_bylaw_areAll_api_Street__bylaw_CheckStreet__bylaw_idOf l most = some r) : Does Tryz.prog 43 [lD 5 l TStreet.c, DI most, .fn 44 [] [], .fn 45 [] []] (fun x => x = DB r) := by
  refine does_zy (X := ⟨Tryz.prog, tt, Tryz.f43.ntmps, pl43, [], [], [], [70], []⟩) pok _ Tryz.func43 rfl rfl (Nat.le_of_ble_eq_true rfl) ?_
  obtain ⟨ev38, he, hk39⟩ := bd_some hm
  refine LoopY.ofL (m_bylaw_areAll_api_Street__bylaw_CheckStreet__bylaw_idOf_L1 l) (fun v7 => ⟨[(0, lD 5 l TStreet.c), (1, DI most), (2, .fn 44 [] []), (3, .fn 45 [] []), (8, DB false), (11, lD 5 l TStreet.c), (12, DI (l.length : Int)), (13, DI v7)], [], 0⟩) 0 (SubY.of 0 rfl ⟨tR rfl, tR rfl, tR rfl, tR rfl, tR rfl, tR rfl, tR rfl, tR rfl, trivial⟩ trivial) he ?_
  rintro fu40 v7 b hm hi41
  revert hm
  refine VIf.b (fun h42 hm => ?_) (fun h42 hm => ?_)
  obtain ⟨e43, hx44, hm⟩ := bd_some hm
  refine ⟨_, el_idx (fun _ => rfl) hx44, ?_⟩
  refine ⟨rfl, ?_⟩
  obtain ⟨x45, hx46, hm⟩ := bd_some hm
  refine CallY.det (d_bylaw_CheckStreet e43 _ hx46) ?_
  revert hm
  refine VIf.b (fun h47 hm => ?_) (fun h47 hm => ?_)
  cases hm
  cases hi41
  have hm := hk39
  cases hm
  exact RetY.le (leD.refl _)
  revert hm
  refine VIf.b (fun h48 hm => ?_) (fun h48 hm => ?_)
  obtain ⟨e49, hx50, hm⟩ := bd_some hm
  refine ⟨_, el_idx (fun _ => rfl) hx50, ?_⟩
  obtain ⟨x51, hx52, hm⟩ := bd_some hm
  refine CallY.det (d_bylaw_idOf e49 _ hx52) ?_
  obtain ⟨x53, hx54, hm⟩ := bd_some hm
  refine CallY.det (d_bylaw_idOf e43 _ hx54) ?_
  revert hm
  refine VIf.b (fun h55 hm => ?_) (fun h55 hm => ?_)
  cases hm
  cases hi41
  have hm := hk39
  cases hm
  exact RetY.le (leD.refl _)
  cases hm
  exact ⟨(_, (W (v7 + 1))), SubY.of 0 rfl ⟨tR rfl, tR rfl, tR rfl, tR rfl, tR rfl, tR rfl, tR rfl, tR rfl, trivial⟩ trivial, hi41, Nat.lt_succ_self _⟩
  cases hm
  exact ⟨(_, (W (v7 + 1))), SubY.of 0 rfl ⟨tR rfl, tR rfl, tR rfl, tR rfl, tR rfl, tR rfl, tR rfl, tR rfl, trivial⟩ trivial, hi41, Nat.lt_succ_self _⟩
  cases hm
  cases hi41
  have hm := hk39
  cases hm
  exact RetY.le (leD.refl _)

def m_bylaw_Check_L4 (e77 : TStreet) (sl79 : (List TStreet)) : Int → Option (Sum Int (Sum Int Int)) := fun v89 =>
  if (decide (v89 < (sl79.length : Int))) = true then
    Option.bind (idx sl79 v89) fun e100 =>
    Option.bind (m_bylaw_has e77 e100.First) fun x102 =>
    if x102 = true then
      some (.inr (.inr 13))
    else
      Option.bind (m_bylaw_has e100 e77.First) fun x105 =>
      if x105 = true then
        some (.inr (.inr 13))
      else
        some (.inl (W (v89 + 1)))
  else
    some (.inr (.inl v89))
def m_bylaw_Check_L3 (b_ : TBylaw) : Int → Option (Sum Int (Sum Int Int)) := fun v41 =>
  if (decide (v41 < (b_.Streets.length : Int))) = true then
    Option.bind (idx b_.Streets v41) fun e77 =>
    gd ((0 ≤ v41 ∧ v41 ≤ (b_.Streets.length : Int))) <|
    Option.bind (some (sub b_.Streets 0 (v41).toNat)) fun sl79 =>
    Option.bind (loopF (m_bylaw_Check_L4 e77 sl79) 0) fun e =>
    match e with
    | .inl v108 =>
      some (.inl (W (v41 + 1)))
    | .inr rr109 =>
      some (.inr (.inr rr109))
  else
    some (.inr (.inl v41))
def m_bylaw_Check (b_ : TBylaw) : Option Int :=
  Option.bind (m_bylaw_areAll_api_Version__bylaw_CheckVersion__bylaw_sourceOf b_.Versions 60) fun x1 =>
  if (!x1) = true then
    some 13
  else
    Option.bind (m_bylaw_areAll_api_Street__bylaw_CheckStreet__bylaw_idOf b_.Streets 20) fun x4 =>
    if (!x4) = true then
      some 13
    else
      Option.bind (loopF (m_bylaw_Check_L3 b_) 0) fun e =>
      match e with
      | .inl v123 =>
        some 0
      | .inr rr124 =>
        some rr124
theorem d_bylaw_Check (b_ : TBylaw) (r : Int) (hm : m_bylaw_Check b_ = some r) : Does Tryz.prog 16 [.agg (TBylaw.c b_)] (fun x => x = DI r) := by
  refine does_zy (X := ⟨Tryz.prog, tt, Tryz.f16.ntmps, [], [], [], [], [70], []⟩) pok _ Tryz.func16 rfl rfl (Nat.le_of_ble_eq_true rfl) ?_
  obtain ⟨x1, hx2, hm⟩ := bd_some hm
  refine CallY.det (d_bylaw_areAll_api_Version__bylaw_CheckVersion__bylaw_sourceOf b_.Versions 60 _ hx2) ?_
  revert hm
  refine VIf.b (fun h3 hm => ?_) (fun h3 hm => ?_)
  cases hm
  exact RetY.le (leD.refl _)
  obtain ⟨x4, hx5, hm⟩ := bd_some hm
  refine CallY.det (d_bylaw_areAll_api_Street__bylaw_CheckStreet__bylaw_idOf b_.Streets 20 _ hx5) ?_
  revert hm
  refine VIf.b (fun h6 hm => ?_) (fun h6 hm => ?_)
  cases hm
  exact RetY.le (leD.refl _)
  obtain ⟨ev125, he, hk126⟩ := bd_some hm
  refine LoopY.ofL (m_bylaw_Check_L3 b_) (fun v41 => ⟨[(0, .agg [lD 11 b_.Versions TVersion.c, lD 5 b_.Streets TStreet.c]), (1, .own 0 0), (2, DI 0), (16, DB (!x4)), (18, lD 5 b_.Streets TStreet.c), (19, DI (b_.Streets.length : Int)), (20, DI v41)], [(0, .blk [lD 11 b_.Versions TVersion.c, lD 5 b_.Streets TStreet.c] 25)], 1⟩) 0 (SubY.of 1 rfl ⟨tR rfl, tR rfl, tR rfl, tR rfl, tR rfl, tR rfl, tR rfl, trivial⟩ ⟨hR rfl, trivial⟩) he ?_
  rintro fu127 v41 b hm hi128
  revert hm
  refine VIf.b (fun h129 hm => ?_) (fun h129 hm => ?_)
  obtain ⟨e130, hx131, hm⟩ := bd_some hm
  refine ⟨_, el_idx (fun _ => rfl) hx131, ?_⟩
  obtain ⟨hg, hm⟩ := gd_some hm
  obtain ⟨sl132, hy, hm⟩ := bd_some hm
  refine ⟨hg, _, (flat_sub (c := TStreet.c) (z := 5) (fun _ => rfl) _ _ _).trans (congrArg _ (Option.some.inj hy)), ?_⟩
  have hl : sl132.length = (v41).toNat - 0 := by rw [← Option.some.inj hy]; exact sub_len (by omega)
  rw [← hl]
  obtain ⟨ev163, he, hk164⟩ := bd_some hm
  refine LoopY.ofL (m_bylaw_Check_L4 e130 sl132) (fun v142 => ⟨[(0, .agg [lD 11 b_.Versions TVersion.c, lD 5 b_.Streets TStreet.c]), (1, .own 0 0), (2, DI 0), (3, DI v41), (4, .own 1 0), (16, DB (!x4)), (18, lD 5 b_.Streets TStreet.c), (19, DI (b_.Streets.length : Int)), (20, DI v41), (21, DB (decide (v41 < (b_.Streets.length : Int)))), (28, lD 5 sl132 TStreet.c), (29, DI (sl132.length : Int)), (30, DI v142)], [(0, .blk [lD 11 b_.Versions TVersion.c, lD 5 b_.Streets TStreet.c] 25), (1, .blk [DI e130.Id, DI e130.Class, DI e130.District, DI e130.First, DI e130.Many] 42)], 2⟩) 0 (SubY.of 2 rfl ⟨tR rfl, tR rfl, tR rfl, tR rfl, tR rfl, tR rfl, tR rfl, tR rfl, tR rfl, tR rfl, tR rfl, tR rfl, tR rfl, trivial⟩ ⟨hR rfl, hR rfl, trivial⟩) he ?_
  rintro fu165 v142 b hm hi166
  revert hm
  refine VIf.b (fun h167 hm => ?_) (fun h167 hm => ?_)
  obtain ⟨e168, hx169, hm⟩ := bd_some hm
  refine ⟨_, el_idx (fun _ => rfl) hx169, ?_⟩
  obtain ⟨x170, hx171, hm⟩ := bd_some hm
  refine CallY.det (d_bylaw_has e130 e168.First _ hx171) ?_
  revert hm
  refine VIf.b (fun h172 hm => ?_) (fun h172 hm => ?_)
  cases hm
  cases hi166
  have hm := hk164
  cases hm
  cases hi128
  have hm := hk126
  cases hm
  exact RetY.le (leD.refl _)
  obtain ⟨x173, hx174, hm⟩ := bd_some hm
  refine CallY.det (d_bylaw_has e168 e130.First _ hx174) ?_
  revert hm
  refine VIf.b (fun h175 hm => ?_) (fun h175 hm => ?_)
  cases hm
  cases hi166
  have hm := hk164
  cases hm
  cases hi128
  have hm := hk126
  cases hm
  exact RetY.le (leD.refl _)
  cases hm
  exact ⟨(_, (W (v142 + 1))), SubY.of 2 rfl ⟨tR rfl, tR rfl, tR rfl, tR rfl, tR rfl, tR rfl, tR rfl, tR rfl, tR rfl, tR rfl, tR rfl, tR rfl, tR rfl, trivial⟩ ⟨hR rfl, hR rfl, trivial⟩, hi166, Nat.lt_succ_self _⟩
  cases hm
  cases hi166
  have hm := hk164
  cases hm
  exact ⟨(_, (W (v41 + 1))), SubY.of 1 rfl ⟨tR rfl, tR rfl, tR rfl, tR rfl, tR rfl, tR rfl, tR rfl, trivial⟩ ⟨hR rfl, trivial⟩, hi128, Nat.lt_succ_self _⟩
  cases hm
  cases hi128
  have hm := hk126
  cases hm
  exact RetY.le (leD.refl _)

def m_cmp_isNaN_int (x : Int) : Option Bool :=
  some (x != x)
theorem d_cmp_isNaN_int (x : Int) (r : Bool) (hm : m_cmp_isNaN_int x = some r) : Does Tryz.prog 104 [DI x] (fun x => x = DB r) := by
  refine does_zy (X := ⟨Tryz.prog, tt, Tryz.f104.ntmps, [], [], [], [], [70], []⟩) pok _ Tryz.func104 rfl rfl (Nat.le_of_ble_eq_true rfl) ?_
  cases hm
  exact RetY.le (leD.refl _)

def m_slices_Sort_int_int (x : List Int) : Option (List Int) := gd (x.length < 4611686018427387904) (some (sortI x))
theorem d_slices_Sort_int_int (x r : List Int) (hm : m_slices_Sort_int_int x = some r) : DoesS Tryz.prog 17 1 x.length (x.flatMap cI) 3 [] r.length (r.flatMap cI) := by
  obtain ⟨hg, hm⟩ := gd_some hm
  cases hm
  exact does_sort lay_sort x 3 hg

def m_slices_Compact_int_int (x : List Int) : Option (List Int) := some (compI x)
theorem d_slices_Compact_int_int (x r : List Int) (hm : m_slices_Compact_int_int x = some r) : DoesL Tryz.prog 18 1 x.length (x.flatMap cI) 3 [] 1 r.length (r.flatMap cI) := by
  cases hm
  exact does_comp lay_comp x 3

def m_bylaw_Dates_L1 (b_ : TBylaw) : ((List Int) × Int × (List Int)) → Option (Sum ((List Int) × Int × (List Int)) ((List Int) × Int × (List Int))) := fun (out8, v9, out10) =>
  if (decide (v9 < (b_.Versions.length : Int))) = true then
    Option.bind (idx b_.Versions v9) fun e16 =>
    gd ((out10.length + ([e16.Known] : List Int).length) * 8 ≤ 140737488355328 ∧ out10.length + ([e16.Known] : List Int).length ≤ 9223372036854775807) <|
    if (e16.Until != 0) = true then
      gd (((out10 ++ ([e16.Known] : List Int)).length + ([e16.Until] : List Int).length) * 8 ≤ 140737488355328 ∧ (out10 ++ ([e16.Known] : List Int)).length + ([e16.Until] : List Int).length ≤ 9223372036854775807) <|
      some (.inl (out8, (W (v9 + 1)), ((out10 ++ ([e16.Known] : List Int)) ++ ([e16.Until] : List Int))))
    else
      some (.inl (out8, (W (v9 + 1)), (out10 ++ ([e16.Known] : List Int))))
  else
    some (.inr (out8, v9, out10))
def m_bylaw_Dates (b_ : TBylaw) : Option ((List Int) × Int) :=
  Option.bind (m_bylaw_Check b_) fun x1 =>
  if (x1 != 0) = true then
    some ([], x1)
  else
    Option.bind (loopF (m_bylaw_Dates_L1 b_) ([], 0, [])) fun (out19, v20, out21) =>
    Option.bind (m_slices_Sort_int_int out21) fun x23 =>
    Option.bind (m_slices_Compact_int_int x23) fun x24 =>
    some (x24, 0)
theorem d_bylaw_Dates (b_ : TBylaw) (r : ((List Int) × Int)) (hm : m_bylaw_Dates b_ = some r) : Does Tryz.prog 4 [.agg (TBylaw.c b_)] (fun x => x = .tup [lD 1 r.1 cI, DI r.2]) := by
  refine does_zy (X := ⟨Tryz.prog, tt, Tryz.f4.ntmps, [], [17, 18], [], [], [70], []⟩) pok _ Tryz.func4 rfl rfl (Nat.le_of_ble_eq_true rfl) ?_
  obtain ⟨x1, hx2, hm⟩ := bd_some hm
  refine CallY.det (d_bylaw_Check b_ _ hx2) ?_
  revert hm
  refine VIf.b (fun h3 hm => ?_) (fun h3 hm => ?_)
  cases hm
  exact RetY.le (⟨_, rfl, ⟨leD.nil, leD.refl _, trivial⟩⟩)
  obtain ⟨ev26, he, hk27⟩ := bd_some hm
  refine LoopY.ofL (m_bylaw_Dates_L1 b_) (fun (out8, v9, out10) => ⟨[(0, .agg [lD 11 b_.Versions TVersion.c, lD 5 b_.Streets TStreet.c]), (1, .own 0 0), (2, .v (.slice none 0 0)), (3, DI 0), (4, DI x1), (5, .row 2 1), (11, DB (x1 != 0)), (14, lD 11 b_.Versions TVersion.c), (15, DI (b_.Versions.length : Int)), (16, DI v9)], [(0, .blk [lD 11 b_.Versions TVersion.c, lD 5 b_.Streets TStreet.c] 25), (1, rE 1 out8 cI 3), (2, rE 1 out10 cI 3)], 3⟩) ([], 0, []) (SubY.of 1 rfl ⟨tR rfl, tR rfl, tR rfl, tR rfl, tR rfl, tR rfl, tR rfl, tR rfl, tR rfl, tR rfl, trivial⟩ ⟨hR rfl, ⟨rfl, rfl⟩, ⟨rfl, rfl⟩, trivial⟩) he ?_
  rintro fu28 ⟨out8, v9, out10⟩ b hm hi29
  revert hm
  refine VIf.b (fun h30 hm => ?_) (fun h30 hm => ?_)
  obtain ⟨e31, hx32, hm⟩ := bd_some hm
  refine ⟨_, el_idx (fun _ => rfl) hx32, ?_⟩
  refine ⟨([e31.Known] : List Int).flatMap cI, ([e31.Known] : List Int).length, ⟨rfl, rfl⟩, ?_⟩
  obtain ⟨hg, hm⟩ := gd_some hm
  refine ⟨hg, _, _, flat_app (c := cI) (l := (out10 : List Int)) (r := (([e31.Known] : List Int) : List Int)), ?_⟩
  revert hm
  refine VIf.b (fun h33 hm => ?_) (fun h33 hm => ?_)
  refine ⟨([e31.Until] : List Int).flatMap cI, ([e31.Until] : List Int).length, ⟨rfl, rfl⟩, ?_⟩
  obtain ⟨hg, hm⟩ := gd_some hm
  refine ⟨hg, _, _, flat_app (c := cI) (l := ((out10 ++ ([e31.Known] : List Int)) : List Int)) (r := (([e31.Until] : List Int) : List Int)), ?_⟩
  cases hm
  exact ⟨(_, (out8, (W (v9 + 1)), ((out10 ++ ([e31.Known] : List Int)) ++ ([e31.Until] : List Int)))), SubY.of 3 rfl ⟨tR rfl, tR rfl, tR rfl, tR rfl, tR rfl, tR rfl, tR rfl, tR rfl, tR rfl, tR rfl, trivial⟩ ⟨hR rfl, hW rfl, hW rfl, trivial⟩, hi29, Nat.lt_succ_self _⟩
  cases hm
  exact ⟨(_, (out8, (W (v9 + 1)), (out10 ++ ([e31.Known] : List Int)))), SubY.of 3 rfl ⟨tR rfl, tR rfl, tR rfl, tR rfl, tR rfl, tR rfl, tR rfl, tR rfl, tR rfl, tR rfl, trivial⟩ ⟨hR rfl, hW rfl, hW rfl, trivial⟩, hi29, Nat.lt_succ_self _⟩
  cases hm
  cases hi29
  have hm := hk27
  obtain ⟨x35, hx34, hm⟩ := bd_some hm
  refine .inr (CallS.mk ⟨_, _, _, _, _, _, rfl, d_slices_Sort_int_int out10 _ hx34, ?_⟩)
  obtain ⟨x36, hx37, hm⟩ := bd_some hm
  refine .inl (CallL.mk ⟨_, _, _, _, _, _, _, rfl, d_slices_Compact_int_int x35 _ hx37, ?_⟩)
  cases hm
  exact RetY.le (leD.refl _)

def m_R01_Within (n : Int) (lo : Int) (hi : Int) : Option Bool :=
  if (decide (lo ≤ n)) = true then
    some (decide (n ≤ hi))
  else
    some false
theorem d_R01_Within (n : Int) (lo : Int) (hi : Int) (r : Bool) (hm : m_R01_Within n lo hi = some r) : Does Tryz.prog 24 [DI n, DI lo, DI hi] (fun x => x = DB r) := by
  refine does_zy (X := ⟨Tryz.prog, tt, Tryz.f24.ntmps, [], [], [], [], [70], []⟩) pok _ Tryz.func24 rfl rfl (Nat.le_of_ble_eq_true rfl) ?_
  revert hm
  refine VIf.b (fun h1 hm => ?_) (fun h1 hm => ?_)
  cases hm
  exact RetY.le (leD.refl _)
  cases hm
  exact RetY.le (leD.refl _)

def m_R01_IsNight (n : Int) : Option Bool :=
  Option.bind (m_R01_Within n 0 100000) fun x1 =>
  some x1
theorem d_R01_IsNight (n : Int) (r : Bool) (hm : m_R01_IsNight n = some r) : Does Tryz.prog 25 [DI n] (fun x => x = DB r) := by
  refine does_zy (X := ⟨Tryz.prog, tt, Tryz.f25.ntmps, [], [], [], [], [70], []⟩) pok _ Tryz.func25 rfl rfl (Nat.le_of_ble_eq_true rfl) ?_
  obtain ⟨x1, hx2, hm⟩ := bd_some hm
  refine CallY.det (d_R01_Within n 0 100000 _ hx2) ?_
  cases hm
  exact RetY.le (leD.refl _)

def m_R01_IsRange (r_ : TRange) (lo : Int) (hi : Int) : Option Bool :=
  if (decide (lo ≤ r_.Lo)) = true then
    if (decide (r_.Lo ≤ r_.Hi)) = true then
      some (decide (r_.Hi ≤ hi))
    else
      some false
  else
    some false
theorem d_R01_IsRange (r_ : TRange) (lo : Int) (hi : Int) (r : Bool) (hm : m_R01_IsRange r_ lo hi = some r) : Does Tryz.prog 85 [.agg (TRange.c r_), DI lo, DI hi] (fun x => x = DB r) := by
  refine does_zy (X := ⟨Tryz.prog, tt, Tryz.f85.ntmps, [], [], [], [], [70], []⟩) pok _ Tryz.func85 rfl rfl (Nat.le_of_ble_eq_true rfl) ?_
  revert hm
  refine VIf.b (fun h1 hm => ?_) (fun h1 hm => ?_)
  revert hm
  refine VIf.b (fun h2 hm => ?_) (fun h2 hm => ?_)
  cases hm
  exact RetY.le (leD.refl _)
  cases hm
  exact RetY.le (leD.refl _)
  cases hm
  exact RetY.le (leD.refl _)

def m_R01_Lasts (known : Int) (until_ : Int) : Option Bool :=
  Option.bind (m_R01_IsNight known) fun x1 =>
  if x1 = true then
    if (until_ == 0) = true then
      some true
    else
      if (decide (known < until_)) = true then
        Option.bind (m_R01_IsNight until_) fun x6 =>
        some x6
      else
        some false
  else
    some false
theorem d_R01_Lasts (known : Int) (until_ : Int) (r : Bool) (hm : m_R01_Lasts known until_ = some r) : Does Tryz.prog 86 [DI known, DI until_] (fun x => x = DB r) := by
  refine does_zy (X := ⟨Tryz.prog, tt, Tryz.f86.ntmps, [], [], [], [], [70], []⟩) pok _ Tryz.func86 rfl rfl (Nat.le_of_ble_eq_true rfl) ?_
  obtain ⟨x1, hx2, hm⟩ := bd_some hm
  refine CallY.det (d_R01_IsNight known _ hx2) ?_
  revert hm
  refine VIf.b (fun h3 hm => ?_) (fun h3 hm => ?_)
  revert hm
  refine VIf.b (fun h4 hm => ?_) (fun h4 hm => ?_)
  cases hm
  exact RetY.le (leD.refl _)
  revert hm
  refine VIf.b (fun h5 hm => ?_) (fun h5 hm => ?_)
  obtain ⟨x6, hx7, hm⟩ := bd_some hm
  refine CallY.det (d_R01_IsNight until_ _ hx7) ?_
  cases hm
  exact RetY.le (leD.refl _)
  cases hm
  exact RetY.le (leD.refl _)
  cases hm
  exact RetY.le (leD.refl _)

def m_R01_CheckVersion (v : TVersion) : Option Int :=
  Option.bind (m_R01_Within v.Source 1 99999) fun x1 =>
  if (!x1) = true then
    some 10
  else
    Option.bind (m_R01_Within v.Class 1 9) fun x4 =>
    if (!x4) = true then
      some 10
    else
      Option.bind (m_R01_IsNight v.From) fun x7 =>
      if (!x7) = true then
        some 10
      else
        Option.bind (m_R01_IsRange v.On 0 600) fun x10 =>
        if (!x10) = true then
          some 10
        else
          Option.bind (m_R01_IsRange v.Off 0 600) fun x13 =>
          if (!x13) = true then
            some 10
          else
            Option.bind (m_R01_Within v.Moon 0 1001) fun x16 =>
            if (!x16) = true then
              some 10
            else
              Option.bind (m_R01_Within v.Fog 0 600) fun x19 =>
              if (!x19) = true then
                some 10
              else
                Option.bind (m_R01_Lasts v.Known v.Until) fun x22 =>
                if (!x22) = true then
                  some 10
                else
                  some 0
theorem d_R01_CheckVersion (v : TVersion) (r : Int) (hm : m_R01_CheckVersion v = some r) : Does Tryz.prog 49 [.agg (TVersion.c v)] (fun x => x = DI r) := by
  refine does_zy (X := ⟨Tryz.prog, tt, Tryz.f49.ntmps, [], [], [], [], [70], []⟩) pok _ Tryz.func49 rfl rfl (Nat.le_of_ble_eq_true rfl) ?_
  obtain ⟨x1, hx2, hm⟩ := bd_some hm
  refine CallY.det (d_R01_Within v.Source 1 99999 _ hx2) ?_
  revert hm
  refine VIf.b (fun h3 hm => ?_) (fun h3 hm => ?_)
  cases hm
  exact RetY.le (leD.refl _)
  obtain ⟨x4, hx5, hm⟩ := bd_some hm
  refine CallY.det (d_R01_Within v.Class 1 9 _ hx5) ?_
  revert hm
  refine VIf.b (fun h6 hm => ?_) (fun h6 hm => ?_)
  cases hm
  exact RetY.le (leD.refl _)
  obtain ⟨x7, hx8, hm⟩ := bd_some hm
  refine CallY.det (d_R01_IsNight v.From _ hx8) ?_
  revert hm
  refine VIf.b (fun h9 hm => ?_) (fun h9 hm => ?_)
  cases hm
  exact RetY.le (leD.refl _)
  obtain ⟨x10, hx11, hm⟩ := bd_some hm
  refine CallY.det (d_R01_IsRange v.On 0 600 _ hx11) ?_
  revert hm
  refine VIf.b (fun h12 hm => ?_) (fun h12 hm => ?_)
  cases hm
  exact RetY.le (leD.refl _)
  obtain ⟨x13, hx14, hm⟩ := bd_some hm
  refine CallY.det (d_R01_IsRange v.Off 0 600 _ hx14) ?_
  revert hm
  refine VIf.b (fun h15 hm => ?_) (fun h15 hm => ?_)
  cases hm
  exact RetY.le (leD.refl _)
  obtain ⟨x16, hx17, hm⟩ := bd_some hm
  refine CallY.det (d_R01_Within v.Moon 0 1001 _ hx17) ?_
  revert hm
  refine VIf.b (fun h18 hm => ?_) (fun h18 hm => ?_)
  cases hm
  exact RetY.le (leD.refl _)
  obtain ⟨x19, hx20, hm⟩ := bd_some hm
  refine CallY.det (d_R01_Within v.Fog 0 600 _ hx20) ?_
  revert hm
  refine VIf.b (fun h21 hm => ?_) (fun h21 hm => ?_)
  cases hm
  exact RetY.le (leD.refl _)
  obtain ⟨x22, hx23, hm⟩ := bd_some hm
  refine CallY.det (d_R01_Lasts v.Known v.Until _ hx23) ?_
  revert hm
  refine VIf.b (fun h24 hm => ?_) (fun h24 hm => ?_)
  cases hm
  exact RetY.le (leD.refl _)
  cases hm
  exact RetY.le (leD.refl _)

def m_R01_CheckStreet (s : TStreet) : Option Int :=
  Option.bind (m_R01_Within s.Id 1 99) fun x1 =>
  if (!x1) = true then
    some 11
  else
    Option.bind (m_R01_Within s.Class 1 9) fun x4 =>
    if (!x4) = true then
      some 11
    else
      Option.bind (m_R01_Within s.District 1 9) fun x7 =>
      if (!x7) = true then
        some 11
      else
        Option.bind (m_R01_Within s.First 1 999) fun x10 =>
        if (!x10) = true then
          some 11
        else
          Option.bind (m_R01_Within s.Many 1 200) fun x13 =>
          if (!x13) = true then
            some 11
          else
            if (decide ((W ((W (s.First + s.Many)) - 1)) > 999)) = true then
              some 11
            else
              some 0
theorem d_R01_CheckStreet (s : TStreet) (r : Int) (hm : m_R01_CheckStreet s = some r) : Does Tryz.prog 50 [.agg (TStreet.c s)] (fun x => x = DI r) := by
  refine does_zy (X := ⟨Tryz.prog, tt, Tryz.f50.ntmps, [], [], [], [], [70], []⟩) pok _ Tryz.func50 rfl rfl (Nat.le_of_ble_eq_true rfl) ?_
  obtain ⟨x1, hx2, hm⟩ := bd_some hm
  refine CallY.det (d_R01_Within s.Id 1 99 _ hx2) ?_
  revert hm
  refine VIf.b (fun h3 hm => ?_) (fun h3 hm => ?_)
  cases hm
  exact RetY.le (leD.refl _)
  obtain ⟨x4, hx5, hm⟩ := bd_some hm
  refine CallY.det (d_R01_Within s.Class 1 9 _ hx5) ?_
  revert hm
  refine VIf.b (fun h6 hm => ?_) (fun h6 hm => ?_)
  cases hm
  exact RetY.le (leD.refl _)
  obtain ⟨x7, hx8, hm⟩ := bd_some hm
  refine CallY.det (d_R01_Within s.District 1 9 _ hx8) ?_
  revert hm
  refine VIf.b (fun h9 hm => ?_) (fun h9 hm => ?_)
  cases hm
  exact RetY.le (leD.refl _)
  obtain ⟨x10, hx11, hm⟩ := bd_some hm
  refine CallY.det (d_R01_Within s.First 1 999 _ hx11) ?_
  revert hm
  refine VIf.b (fun h12 hm => ?_) (fun h12 hm => ?_)
  cases hm
  exact RetY.le (leD.refl _)
  obtain ⟨x13, hx14, hm⟩ := bd_some hm
  refine CallY.det (d_R01_Within s.Many 1 200 _ hx14) ?_
  revert hm
  refine VIf.b (fun h15 hm => ?_) (fun h15 hm => ?_)
  cases hm
  exact RetY.le (leD.refl _)
  revert hm
  refine VIf.b (fun h16 hm => ?_) (fun h16 hm => ?_)
  cases hm
  exact RetY.le (leD.refl _)
  cases hm
  exact RetY.le (leD.refl _)

def m_R01_meet (a : TStreet) (b_ : TStreet) : Option Bool :=
  if (decide (a.First < (W (b_.First + b_.Many)))) = true then
    some (decide (b_.First < (W (a.First + a.Many))))
  else
    some false
theorem d_R01_meet (a : TStreet) (b_ : TStreet) (r : Bool) (hm : m_R01_meet a b_ = some r) : Does Tryz.prog 51 [.agg (TStreet.c a), .agg (TStreet.c b_)] (fun x => x = DB r) := by
  refine does_zy (X := ⟨Tryz.prog, tt, Tryz.f51.ntmps, [], [], [], [], [70], []⟩) pok _ Tryz.func51 rfl rfl (Nat.le_of_ble_eq_true rfl) ?_
  revert hm
  refine VIf.b (fun h1 hm => ?_) (fun h1 hm => ?_)
  cases hm
  exact RetY.le (leD.refl _)
  cases hm
  exact RetY.le (leD.refl _)

def m_R01_Check_L1 (b_ : TBylaw) : Int → Option (Sum Int (Sum Int Int)) := fun v9 =>
  if (decide (v9 < (b_.Versions.length : Int))) = true then
    Option.bind (idx b_.Versions v9) fun e21 =>
    Option.bind (m_R01_CheckVersion e21) fun x23 =>
    if (x23 != 0) = true then
      some (.inr (.inr 13))
    else
      if (decide (v9 > 0)) = true then
        Option.bind (idx b_.Versions (W (v9 - 1))) fun e27 =>
        if (decide (e27.Source ≥ e21.Source)) = true then
          some (.inr (.inr 13))
        else
          some (.inl (W (v9 + 1)))
      else
        some (.inl (W (v9 + 1)))
  else
    some (.inr (.inl v9))
def m_R01_Check_L6 (b_ : TBylaw) (v37 : Int) (e91 : TStreet) : Int → Option (Sum Int (Sum Int Int)) := fun k106 =>
  if (decide (k106 < v37)) = true then
    Option.bind (idx b_.Streets k106) fun e114 =>
    Option.bind (m_R01_meet e114 e91) fun x116 =>
    if x116 = true then
      some (.inr (.inr 13))
    else
      some (.inl (W (k106 + 1)))
  else
    some (.inr (.inl k106))
def m_R01_Check_L5 (b_ : TBylaw) : Int → Option (Sum Int (Sum Int Int)) := fun v37 =>
  if (decide (v37 < (b_.Streets.length : Int))) = true then
    Option.bind (idx b_.Streets v37) fun e91 =>
    Option.bind (m_R01_CheckStreet e91) fun x93 =>
    if (x93 != 0) = true then
      some (.inr (.inr 13))
    else
      if (decide (v37 > 0)) = true then
        Option.bind (idx b_.Streets (W (v37 - 1))) fun e97 =>
        if (decide (e97.Id ≥ e91.Id)) = true then
          some (.inr (.inr 13))
        else
          Option.bind (loopF (m_R01_Check_L6 b_ v37 e91) 0) fun e =>
          match e with
          | .inl k119 =>
            some (.inl (W (v37 + 1)))
          | .inr rr120 =>
            some (.inr (.inr rr120))
      else
        Option.bind (loopF (m_R01_Check_L6 b_ v37 e91) 0) fun e =>
        match e with
        | .inl k150 =>
          some (.inl (W (v37 + 1)))
        | .inr rr151 =>
          some (.inr (.inr rr151))
  else
    some (.inr (.inl v37))
def m_R01_Check (b_ : TBylaw) : Option Int :=
  if (decide ((b_.Versions.length : Int) > 60)) = true then
    some 13
  else
    if (decide ((b_.Streets.length : Int) > 20)) = true then
      some 13
    else
      Option.bind (loopF (m_R01_Check_L1 b_) 0) fun e =>
      match e with
      | .inl v30 =>
        Option.bind (loopF (m_R01_Check_L5 b_) 0) fun e =>
        match e with
        | .inl v162 =>
          some 0
        | .inr rr163 =>
          some rr163
      | .inr rr240 =>
        some rr240
theorem d_R01_Check (b_ : TBylaw) (r : Int) (hm : m_R01_Check b_ = some r) : Does Tryz.prog 19 [.agg (TBylaw.c b_)] (fun x => x = DI r) := by
  refine does_zy (X := ⟨Tryz.prog, tt, Tryz.f19.ntmps, pl19, [], [], [], [70], []⟩) pok _ Tryz.func19 rfl rfl (Nat.le_of_ble_eq_true rfl) ?_
  revert hm
  refine VIf.b (fun h1 hm => ?_) (fun h1 hm => ?_)
  cases hm
  exact RetY.le (leD.refl _)
  revert hm
  refine VIf.b (fun h2 hm => ?_) (fun h2 hm => ?_)
  cases hm
  exact RetY.le (leD.refl _)
  obtain ⟨ev241, he, hk242⟩ := bd_some hm
  refine LoopY.ofL (m_R01_Check_L1 b_) (fun v9 => ⟨[(0, .agg [lD 11 b_.Versions TVersion.c, lD 5 b_.Streets TStreet.c]), (1, .own 0 0), (2, DI 0), (17, DB (decide ((b_.Streets.length : Int) > 20))), (19, lD 11 b_.Versions TVersion.c), (20, DI (b_.Versions.length : Int)), (21, DI v9)], [(0, .blk [lD 11 b_.Versions TVersion.c, lD 5 b_.Streets TStreet.c] 25)], 1⟩) 0 (SubY.of 1 rfl ⟨tR rfl, tR rfl, tR rfl, tR rfl, tR rfl, tR rfl, tR rfl, trivial⟩ ⟨hR rfl, trivial⟩) he ?_
  rintro fu243 v9 b hm hi244
  revert hm
  refine VIf.b (fun h245 hm => ?_) (fun h245 hm => ?_)
  obtain ⟨e246, hx247, hm⟩ := bd_some hm
  refine ⟨_, el_idx (fun _ => rfl) hx247, ?_⟩
  refine ⟨rfl, ?_⟩
  obtain ⟨x248, hx249, hm⟩ := bd_some hm
  refine CallY.det (d_R01_CheckVersion e246 _ hx249) ?_
  revert hm
  refine VIf.b (fun h250 hm => ?_) (fun h250 hm => ?_)
  cases hm
  cases hi244
  have hm := hk242
  cases hm
  exact RetY.le (leD.refl _)
  revert hm
  refine VIf.b (fun h251 hm => ?_) (fun h251 hm => ?_)
  obtain ⟨e252, hx253, hm⟩ := bd_some hm
  refine ⟨_, el_idx (fun _ => rfl) hx253, ?_⟩
  revert hm
  refine VIf.b (fun h254 hm => ?_) (fun h254 hm => ?_)
  cases hm
  cases hi244
  have hm := hk242
  cases hm
  exact RetY.le (leD.refl _)
  cases hm
  exact ⟨(_, (W (v9 + 1))), SubY.of 1 rfl ⟨tR rfl, tR rfl, tR rfl, tR rfl, tR rfl, tR rfl, tR rfl, trivial⟩ ⟨hR rfl, trivial⟩, hi244, Nat.lt_succ_self _⟩
  cases hm
  exact ⟨(_, (W (v9 + 1))), SubY.of 1 rfl ⟨tR rfl, tR rfl, tR rfl, tR rfl, tR rfl, tR rfl, tR rfl, trivial⟩ ⟨hR rfl, trivial⟩, hi244, Nat.lt_succ_self _⟩
  cases hm
  cases hi244
  have hm := hk242
  obtain ⟨ev388, he, hk389⟩ := bd_some hm
  refine LoopY.ofL (m_R01_Check_L5 b_) (fun v261 => ⟨[(0, .agg [lD 11 b_.Versions TVersion.c, lD 5 b_.Streets TStreet.c]), (1, .own 0 0), (2, DI 0), (17, DB (decide ((b_.Streets.length : Int) > 20))), (19, lD 11 b_.Versions TVersion.c), (20, DI (b_.Versions.length : Int)), (21, DI v9), (22, DB (decide (v9 < (b_.Versions.length : Int)))), (47, lD 5 b_.Streets TStreet.c), (48, DI (b_.Streets.length : Int)), (49, DI v261)], [(0, .blk [lD 11 b_.Versions TVersion.c, lD 5 b_.Streets TStreet.c] 25)], 1⟩) 0 (SubY.of 1 rfl ⟨tR rfl, tR rfl, tR rfl, tR rfl, tR rfl, tR rfl, tR rfl, tR rfl, tR rfl, tR rfl, tR rfl, trivial⟩ ⟨hR rfl, trivial⟩) he ?_
  rintro fu390 v261 b hm hi391
  revert hm
  refine VIf.b (fun h392 hm => ?_) (fun h392 hm => ?_)
  obtain ⟨e393, hx394, hm⟩ := bd_some hm
  refine ⟨_, el_idx (fun _ => rfl) hx394, ?_⟩
  refine ⟨rfl, ?_⟩
  obtain ⟨x395, hx396, hm⟩ := bd_some hm
  refine CallY.det (d_R01_CheckStreet e393 _ hx396) ?_
  revert hm
  refine VIf.b (fun h397 hm => ?_) (fun h397 hm => ?_)
  cases hm
  cases hi391
  have hm := hk389
  cases hm
  exact RetY.le (leD.refl _)
  revert hm
  refine VIf.b (fun h398 hm => ?_) (fun h398 hm => ?_)
  obtain ⟨e399, hx400, hm⟩ := bd_some hm
  refine ⟨_, el_idx (fun _ => rfl) hx400, ?_⟩
  revert hm
  refine VIf.b (fun h401 hm => ?_) (fun h401 hm => ?_)
  cases hm
  cases hi391
  have hm := hk389
  cases hm
  exact RetY.le (leD.refl _)
  obtain ⟨ev423, he, hk424⟩ := bd_some hm
  refine LoopY.ofL (m_R01_Check_L6 b_ v261 e393) (fun k408 => ⟨[(0, .agg [lD 11 b_.Versions TVersion.c, lD 5 b_.Streets TStreet.c]), (1, .own 0 0), (2, DI 0), (5, DI v261), (6, .own 1 0), (7, DI k408), (17, DB (decide ((b_.Streets.length : Int) > 20))), (19, lD 11 b_.Versions TVersion.c), (20, DI (b_.Versions.length : Int)), (21, DI v9), (22, DB (decide (v9 < (b_.Versions.length : Int)))), (47, lD 5 b_.Streets TStreet.c), (48, DI (b_.Streets.length : Int)), (49, DI v261), (50, DB (decide (v261 < (b_.Streets.length : Int)))), (72, DB (decide (e399.Id ≥ e393.Id)))], [(0, .blk [lD 11 b_.Versions TVersion.c, lD 5 b_.Streets TStreet.c] 25), (1, .blk [DI e393.Id, DI e393.Class, DI e393.District, DI e393.First, DI e393.Many] 42)], 2⟩) 0 (SubY.of 2 rfl ⟨tR rfl, tR rfl, tR rfl, tR rfl, tR rfl, tR rfl, tR rfl, tR rfl, tR rfl, tR rfl, tR rfl, tR rfl, tR rfl, tR rfl, tR rfl, tR rfl, trivial⟩ ⟨hR rfl, hR rfl, trivial⟩) he ?_
  rintro fu425 k408 b hm hi426
  revert hm
  refine VIf.b (fun h427 hm => ?_) (fun h427 hm => ?_)
  refine ⟨rfl, ?_⟩
  obtain ⟨e428, hx429, hm⟩ := bd_some hm
  refine ⟨_, el_idx (fun _ => rfl) hx429, ?_⟩
  obtain ⟨x430, hx431, hm⟩ := bd_some hm
  refine CallY.det (d_R01_meet e428 e393 _ hx431) ?_
  revert hm
  refine VIf.b (fun h432 hm => ?_) (fun h432 hm => ?_)
  cases hm
  cases hi426
  have hm := hk424
  cases hm
  cases hi391
  have hm := hk389
  cases hm
  exact RetY.le (leD.refl _)
  cases hm
  exact ⟨(_, (W (k408 + 1))), SubY.of 2 rfl ⟨tR rfl, tR rfl, tR rfl, tR rfl, tR rfl, tR rfl, tR rfl, tR rfl, tR rfl, tR rfl, tR rfl, tR rfl, tR rfl, tR rfl, tR rfl, tR rfl, trivial⟩ ⟨hR rfl, hR rfl, trivial⟩, hi426, Nat.lt_succ_self _⟩
  cases hm
  cases hi426
  have hm := hk424
  cases hm
  exact ⟨(_, (W (v261 + 1))), SubY.of 1 rfl ⟨tR rfl, tR rfl, tR rfl, tR rfl, tR rfl, tR rfl, tR rfl, tR rfl, tR rfl, tR rfl, tR rfl, trivial⟩ ⟨hR rfl, trivial⟩, hi391, Nat.lt_succ_self _⟩
  obtain ⟨ev454, he, hk455⟩ := bd_some hm
  refine LoopY.ofL (m_R01_Check_L6 b_ v261 e393) (fun k439 => ⟨[(0, .agg [lD 11 b_.Versions TVersion.c, lD 5 b_.Streets TStreet.c]), (1, .own 0 0), (2, DI 0), (5, DI v261), (6, .own 1 0), (7, DI k439), (17, DB (decide ((b_.Streets.length : Int) > 20))), (19, lD 11 b_.Versions TVersion.c), (20, DI (b_.Versions.length : Int)), (21, DI v9), (22, DB (decide (v9 < (b_.Versions.length : Int)))), (47, lD 5 b_.Streets TStreet.c), (48, DI (b_.Streets.length : Int)), (49, DI v261), (50, DB (decide (v261 < (b_.Streets.length : Int)))), (72, DB false)], [(0, .blk [lD 11 b_.Versions TVersion.c, lD 5 b_.Streets TStreet.c] 25), (1, .blk [DI e393.Id, DI e393.Class, DI e393.District, DI e393.First, DI e393.Many] 42)], 2⟩) 0 (SubY.of 2 rfl ⟨tR rfl, tR rfl, tR rfl, tR rfl, tR rfl, tR rfl, tR rfl, tR rfl, tR rfl, tR rfl, tR rfl, tR rfl, tR rfl, tR rfl, tR rfl, tR rfl, trivial⟩ ⟨hR rfl, hR rfl, trivial⟩) he ?_
  rintro fu456 k439 b hm hi457
  revert hm
  refine VIf.b (fun h458 hm => ?_) (fun h458 hm => ?_)
  refine ⟨rfl, ?_⟩
  obtain ⟨e459, hx460, hm⟩ := bd_some hm
  refine ⟨_, el_idx (fun _ => rfl) hx460, ?_⟩
  obtain ⟨x461, hx462, hm⟩ := bd_some hm
  refine CallY.det (d_R01_meet e459 e393 _ hx462) ?_
  revert hm
  refine VIf.b (fun h463 hm => ?_) (fun h463 hm => ?_)
  cases hm
  cases hi457
  have hm := hk455
  cases hm
  cases hi391
  have hm := hk389
  cases hm
  exact RetY.le (leD.refl _)
  cases hm
  exact ⟨(_, (W (k439 + 1))), SubY.of 2 rfl ⟨tR rfl, tR rfl, tR rfl, tR rfl, tR rfl, tR rfl, tR rfl, tR rfl, tR rfl, tR rfl, tR rfl, tR rfl, tR rfl, tR rfl, tR rfl, tR rfl, trivial⟩ ⟨hR rfl, hR rfl, trivial⟩, hi457, Nat.lt_succ_self _⟩
  cases hm
  cases hi457
  have hm := hk455
  cases hm
  exact ⟨(_, (W (v261 + 1))), SubY.of 1 rfl ⟨tR rfl, tR rfl, tR rfl, tR rfl, tR rfl, tR rfl, tR rfl, tR rfl, tR rfl, tR rfl, tR rfl, trivial⟩ ⟨hR rfl, trivial⟩, hi391, Nat.lt_succ_self _⟩
  cases hm
  cases hi391
  have hm := hk389
  cases hm
  exact RetY.le (leD.refl _)

def m_R01_Put_L1 (l : (List Int)) (n : Int) : Int → Option (Sum Int Int) := fun at_5 =>
  if (decide (at_5 < (l.length : Int))) = true then
    Option.bind (idx l at_5) fun e11 =>
    if (decide (e11 < n)) = true then
      some (.inl (W (at_5 + 1)))
    else
      some (.inr at_5)
  else
    some (.inr at_5)
def m_R01_Put (l : (List Int)) (n : Int) : Option (List Int) :=
  Option.bind (loopF (m_R01_Put_L1 l n) 0) fun at_14 =>
  if (decide (at_14 < (l.length : Int))) = true then
    Option.bind (idx l at_14) fun e16 =>
    if (e16 == n) = true then
      some l
    else
      gd ((0 ≤ at_14 ∧ at_14 ≤ (l.length : Int))) <|
      Option.bind (some (sub l 0 (at_14).toNat)) fun sl19 =>
      gd ((0 ≤ at_14 ∧ at_14 ≤ (l.length : Int))) <|
      Option.bind (some (sub l (at_14).toNat l.length)) fun sl20 =>
      gd ((([] : List Int).length + sl19.length) * 8 ≤ 140737488355328 ∧ ([] : List Int).length + sl19.length ≤ 9223372036854775807) <|
      gd (((([] : List Int) ++ sl19).length + ([n] : List Int).length) * 8 ≤ 140737488355328 ∧ (([] : List Int) ++ sl19).length + ([n] : List Int).length ≤ 9223372036854775807) <|
      gd ((((([] : List Int) ++ sl19) ++ ([n] : List Int)).length + sl20.length) * 8 ≤ 140737488355328 ∧ ((([] : List Int) ++ sl19) ++ ([n] : List Int)).length + sl20.length ≤ 9223372036854775807) <|
      some (((([] : List Int) ++ sl19) ++ ([n] : List Int)) ++ sl20)
  else
    gd ((0 ≤ at_14 ∧ at_14 ≤ (l.length : Int))) <|
    Option.bind (some (sub l 0 (at_14).toNat)) fun sl21 =>
    gd ((0 ≤ at_14 ∧ at_14 ≤ (l.length : Int))) <|
    Option.bind (some (sub l (at_14).toNat l.length)) fun sl22 =>
    gd ((([] : List Int).length + sl21.length) * 8 ≤ 140737488355328 ∧ ([] : List Int).length + sl21.length ≤ 9223372036854775807) <|
    gd (((([] : List Int) ++ sl21).length + ([n] : List Int).length) * 8 ≤ 140737488355328 ∧ (([] : List Int) ++ sl21).length + ([n] : List Int).length ≤ 9223372036854775807) <|
    gd ((((([] : List Int) ++ sl21) ++ ([n] : List Int)).length + sl22.length) * 8 ≤ 140737488355328 ∧ ((([] : List Int) ++ sl21) ++ ([n] : List Int)).length + sl22.length ≤ 9223372036854775807) <|
    some (((([] : List Int) ++ sl21) ++ ([n] : List Int)) ++ sl22)
theorem d_R01_Put (l : (List Int)) (n : Int) (r : (List Int)) (hm : m_R01_Put l n = some r) : Does Tryz.prog 20 [lD 1 l cI, DI n] (fun x => x = lD 1 r cI) := by
  refine does_zy (X := ⟨Tryz.prog, tt, Tryz.f20.ntmps, pl20, [], [], [], [70], []⟩) pok _ Tryz.func20 rfl rfl (Nat.le_of_ble_eq_true rfl) ?_
  obtain ⟨ev23, he, hk24⟩ := bd_some hm
  refine LoopY.ofL (m_R01_Put_L1 l n) (fun at_5 => ⟨[(0, lD 1 l cI), (1, DI n), (4, .v (.slice none 0 0)), (5, DI at_5)], [], 0⟩) 0 (SubY.of 0 rfl ⟨tR rfl, tR rfl, tR rfl, tR rfl, trivial⟩ trivial) he ?_
  rintro fu25 at_5 b hm hi26
  revert hm
  refine VIf.b (fun h27 hm => ?_) (fun h27 hm => ?_)
  obtain ⟨e28, hx29, hm⟩ := bd_some hm
  refine ⟨_, el_idx (fun _ => rfl) hx29, ?_⟩
  revert hm
  refine VIf.b (fun h30 hm => ?_) (fun h30 hm => ?_)
  cases hm
  exact ⟨(_, (W (at_5 + 1))), SubY.of 0 rfl ⟨tR rfl, tR rfl, tR rfl, tR rfl, trivial⟩ trivial, hi26, Nat.lt_succ_self _⟩
  cases hm
  have hm := hk24
  rw [show ev23 = at_5 from by first | exact hi26 | exact hi26.symm] at hm
  revert hm
  refine VIf.b (fun h31 hm => ?_) (fun h31 hm => ?_)
  obtain ⟨e32, hx33, hm⟩ := bd_some hm
  refine ⟨_, el_idx (fun _ => rfl) hx33, ?_⟩
  revert hm
  refine VIf.b (fun h34 hm => ?_) (fun h34 hm => ?_)
  cases hm
  exact RetY.le (leD.refl _)
  refine ⟨rfl, ?_⟩
  obtain ⟨hg, hm⟩ := gd_some hm
  obtain ⟨sl35, hy, hm⟩ := bd_some hm
  refine ⟨hg, _, (flat_sub (c := cI) (z := 1) (fun _ => rfl) _ _ _).trans (congrArg _ (Option.some.inj hy)), ?_⟩
  have hl : sl35.length = (at_5).toNat - 0 := by rw [← Option.some.inj hy]; exact sub_len (by omega)
  rw [← hl]
  obtain ⟨hg, hm⟩ := gd_some hm
  obtain ⟨sl36, hy, hm⟩ := bd_some hm
  refine ⟨hg, _, (flat_sub (c := cI) (z := 1) (fun _ => rfl) _ _ _).trans (congrArg _ (Option.some.inj hy)), ?_⟩
  have hl : sl36.length = l.length - (at_5).toNat := by rw [← Option.some.inj hy]; exact sub_len (by omega)
  rw [← hl]
  refine ⟨?_, ?_⟩
  refine ⟨([] : List Int).flatMap cI, ([] : List Int).length, ⟨rfl, rfl⟩, ?_⟩
  refine ⟨?_, ?_⟩
  obtain ⟨hg, hm⟩ := gd_some hm
  refine ⟨hg, _, _, flat_app (c := cI) (l := (([] : List Int) : List Int)) (r := (sl35 : List Int)), ?_⟩
  refine ⟨([n] : List Int).flatMap cI, ([n] : List Int).length, ⟨rfl, rfl⟩, ?_⟩
  obtain ⟨hg, hm⟩ := gd_some hm
  refine ⟨hg, _, _, flat_app (c := cI) (l := ((([] : List Int) ++ sl35) : List Int)) (r := (([n] : List Int) : List Int)), ?_⟩
  obtain ⟨hg, hm⟩ := gd_some hm
  refine ⟨hg, _, _, flat_app (c := cI) (l := (((([] : List Int) ++ sl35) ++ ([n] : List Int)) : List Int)) (r := (sl36 : List Int)), ?_⟩
  cases hm
  exact RetY.le (leD.refl _)
  refine ⟨([n] : List Int).flatMap cI, ([n] : List Int).length, ⟨rfl, rfl⟩, ?_⟩
  obtain ⟨hg, hm⟩ := gd_some hm
  refine ⟨hg, _, _, flat_app (c := cI) (l := (([] : List Int) : List Int)) (r := (sl35 : List Int)), ?_⟩
  obtain ⟨hg, hm⟩ := gd_some hm
  refine ⟨hg, _, _, flat_app (c := cI) (l := ((([] : List Int) ++ sl35) : List Int)) (r := (([n] : List Int) : List Int)), ?_⟩
  obtain ⟨hg, hm⟩ := gd_some hm
  refine ⟨hg, _, _, flat_app (c := cI) (l := (((([] : List Int) ++ sl35) ++ ([n] : List Int)) : List Int)) (r := (sl36 : List Int)), ?_⟩
  cases hm
  exact RetY.le (leD.refl _)
  refine ⟨([n] : List Int).flatMap cI, ([n] : List Int).length, ⟨rfl, rfl⟩, ?_⟩
  refine ⟨([] : List Int).flatMap cI, ([] : List Int).length, ⟨rfl, rfl⟩, ?_⟩
  obtain ⟨hg, hm⟩ := gd_some hm
  refine ⟨hg, _, _, flat_app (c := cI) (l := (([] : List Int) : List Int)) (r := (sl35 : List Int)), ?_⟩
  obtain ⟨hg, hm⟩ := gd_some hm
  refine ⟨hg, _, _, flat_app (c := cI) (l := ((([] : List Int) ++ sl35) : List Int)) (r := (([n] : List Int) : List Int)), ?_⟩
  obtain ⟨hg, hm⟩ := gd_some hm
  refine ⟨hg, _, _, flat_app (c := cI) (l := (((([] : List Int) ++ sl35) ++ ([n] : List Int)) : List Int)) (r := (sl36 : List Int)), ?_⟩
  cases hm
  exact RetY.le (leD.refl _)
  refine ⟨rfl, ?_⟩
  obtain ⟨hg, hm⟩ := gd_some hm
  obtain ⟨sl37, hy, hm⟩ := bd_some hm
  refine ⟨hg, _, (flat_sub (c := cI) (z := 1) (fun _ => rfl) _ _ _).trans (congrArg _ (Option.some.inj hy)), ?_⟩
  have hl : sl37.length = (at_5).toNat - 0 := by rw [← Option.some.inj hy]; exact sub_len (by omega)
  rw [← hl]
  obtain ⟨hg, hm⟩ := gd_some hm
  obtain ⟨sl38, hy, hm⟩ := bd_some hm
  refine ⟨hg, _, (flat_sub (c := cI) (z := 1) (fun _ => rfl) _ _ _).trans (congrArg _ (Option.some.inj hy)), ?_⟩
  have hl : sl38.length = l.length - (at_5).toNat := by rw [← Option.some.inj hy]; exact sub_len (by omega)
  rw [← hl]
  refine ⟨?_, ?_⟩
  refine ⟨([] : List Int).flatMap cI, ([] : List Int).length, ⟨rfl, rfl⟩, ?_⟩
  refine ⟨?_, ?_⟩
  obtain ⟨hg, hm⟩ := gd_some hm
  refine ⟨hg, _, _, flat_app (c := cI) (l := (([] : List Int) : List Int)) (r := (sl37 : List Int)), ?_⟩
  refine ⟨([n] : List Int).flatMap cI, ([n] : List Int).length, ⟨rfl, rfl⟩, ?_⟩
  obtain ⟨hg, hm⟩ := gd_some hm
  refine ⟨hg, _, _, flat_app (c := cI) (l := ((([] : List Int) ++ sl37) : List Int)) (r := (([n] : List Int) : List Int)), ?_⟩
  obtain ⟨hg, hm⟩ := gd_some hm
  refine ⟨hg, _, _, flat_app (c := cI) (l := (((([] : List Int) ++ sl37) ++ ([n] : List Int)) : List Int)) (r := (sl38 : List Int)), ?_⟩
  cases hm
  exact RetY.le (leD.refl _)
  refine ⟨([n] : List Int).flatMap cI, ([n] : List Int).length, ⟨rfl, rfl⟩, ?_⟩
  obtain ⟨hg, hm⟩ := gd_some hm
  refine ⟨hg, _, _, flat_app (c := cI) (l := (([] : List Int) : List Int)) (r := (sl37 : List Int)), ?_⟩
  obtain ⟨hg, hm⟩ := gd_some hm
  refine ⟨hg, _, _, flat_app (c := cI) (l := ((([] : List Int) ++ sl37) : List Int)) (r := (([n] : List Int) : List Int)), ?_⟩
  obtain ⟨hg, hm⟩ := gd_some hm
  refine ⟨hg, _, _, flat_app (c := cI) (l := (((([] : List Int) ++ sl37) ++ ([n] : List Int)) : List Int)) (r := (sl38 : List Int)), ?_⟩
  cases hm
  exact RetY.le (leD.refl _)
  refine ⟨([n] : List Int).flatMap cI, ([n] : List Int).length, ⟨rfl, rfl⟩, ?_⟩
  refine ⟨([] : List Int).flatMap cI, ([] : List Int).length, ⟨rfl, rfl⟩, ?_⟩
  obtain ⟨hg, hm⟩ := gd_some hm
  refine ⟨hg, _, _, flat_app (c := cI) (l := (([] : List Int) : List Int)) (r := (sl37 : List Int)), ?_⟩
  obtain ⟨hg, hm⟩ := gd_some hm
  refine ⟨hg, _, _, flat_app (c := cI) (l := ((([] : List Int) ++ sl37) : List Int)) (r := (([n] : List Int) : List Int)), ?_⟩
  obtain ⟨hg, hm⟩ := gd_some hm
  refine ⟨hg, _, _, flat_app (c := cI) (l := (((([] : List Int) ++ sl37) ++ ([n] : List Int)) : List Int)) (r := (sl38 : List Int)), ?_⟩
  cases hm
  exact RetY.le (leD.refl _)
  cases hm
  have hm := hk24
  rw [show ev23 = at_5 from by first | exact hi26 | exact hi26.symm] at hm
  revert hm
  refine VIf.b (fun h39 hm => ?_) (fun h39 hm => ?_)
  obtain ⟨e40, hx41, hm⟩ := bd_some hm
  refine ⟨_, el_idx (fun _ => rfl) hx41, ?_⟩
  revert hm
  refine VIf.b (fun h42 hm => ?_) (fun h42 hm => ?_)
  cases hm
  exact RetY.le (leD.refl _)
  refine ⟨rfl, ?_⟩
  obtain ⟨hg, hm⟩ := gd_some hm
  obtain ⟨sl43, hy, hm⟩ := bd_some hm
  refine ⟨hg, _, (flat_sub (c := cI) (z := 1) (fun _ => rfl) _ _ _).trans (congrArg _ (Option.some.inj hy)), ?_⟩
  have hl : sl43.length = (at_5).toNat - 0 := by rw [← Option.some.inj hy]; exact sub_len (by omega)
  rw [← hl]
  obtain ⟨hg, hm⟩ := gd_some hm
  obtain ⟨sl44, hy, hm⟩ := bd_some hm
  refine ⟨hg, _, (flat_sub (c := cI) (z := 1) (fun _ => rfl) _ _ _).trans (congrArg _ (Option.some.inj hy)), ?_⟩
  have hl : sl44.length = l.length - (at_5).toNat := by rw [← Option.some.inj hy]; exact sub_len (by omega)
  rw [← hl]
  refine ⟨?_, ?_⟩
  refine ⟨([] : List Int).flatMap cI, ([] : List Int).length, ⟨rfl, rfl⟩, ?_⟩
  refine ⟨?_, ?_⟩
  obtain ⟨hg, hm⟩ := gd_some hm
  refine ⟨hg, _, _, flat_app (c := cI) (l := (([] : List Int) : List Int)) (r := (sl43 : List Int)), ?_⟩
  refine ⟨([n] : List Int).flatMap cI, ([n] : List Int).length, ⟨rfl, rfl⟩, ?_⟩
  obtain ⟨hg, hm⟩ := gd_some hm
  refine ⟨hg, _, _, flat_app (c := cI) (l := ((([] : List Int) ++ sl43) : List Int)) (r := (([n] : List Int) : List Int)), ?_⟩
  obtain ⟨hg, hm⟩ := gd_some hm
  refine ⟨hg, _, _, flat_app (c := cI) (l := (((([] : List Int) ++ sl43) ++ ([n] : List Int)) : List Int)) (r := (sl44 : List Int)), ?_⟩
  cases hm
  exact RetY.le (leD.refl _)
  refine ⟨([n] : List Int).flatMap cI, ([n] : List Int).length, ⟨rfl, rfl⟩, ?_⟩
  obtain ⟨hg, hm⟩ := gd_some hm
  refine ⟨hg, _, _, flat_app (c := cI) (l := (([] : List Int) : List Int)) (r := (sl43 : List Int)), ?_⟩
  obtain ⟨hg, hm⟩ := gd_some hm
  refine ⟨hg, _, _, flat_app (c := cI) (l := ((([] : List Int) ++ sl43) : List Int)) (r := (([n] : List Int) : List Int)), ?_⟩
  obtain ⟨hg, hm⟩ := gd_some hm
  refine ⟨hg, _, _, flat_app (c := cI) (l := (((([] : List Int) ++ sl43) ++ ([n] : List Int)) : List Int)) (r := (sl44 : List Int)), ?_⟩
  cases hm
  exact RetY.le (leD.refl _)
  refine ⟨([n] : List Int).flatMap cI, ([n] : List Int).length, ⟨rfl, rfl⟩, ?_⟩
  refine ⟨([] : List Int).flatMap cI, ([] : List Int).length, ⟨rfl, rfl⟩, ?_⟩
  obtain ⟨hg, hm⟩ := gd_some hm
  refine ⟨hg, _, _, flat_app (c := cI) (l := (([] : List Int) : List Int)) (r := (sl43 : List Int)), ?_⟩
  obtain ⟨hg, hm⟩ := gd_some hm
  refine ⟨hg, _, _, flat_app (c := cI) (l := ((([] : List Int) ++ sl43) : List Int)) (r := (([n] : List Int) : List Int)), ?_⟩
  obtain ⟨hg, hm⟩ := gd_some hm
  refine ⟨hg, _, _, flat_app (c := cI) (l := (((([] : List Int) ++ sl43) ++ ([n] : List Int)) : List Int)) (r := (sl44 : List Int)), ?_⟩
  cases hm
  exact RetY.le (leD.refl _)
  refine ⟨rfl, ?_⟩
  obtain ⟨hg, hm⟩ := gd_some hm
  obtain ⟨sl45, hy, hm⟩ := bd_some hm
  refine ⟨hg, _, (flat_sub (c := cI) (z := 1) (fun _ => rfl) _ _ _).trans (congrArg _ (Option.some.inj hy)), ?_⟩
  have hl : sl45.length = (at_5).toNat - 0 := by rw [← Option.some.inj hy]; exact sub_len (by omega)
  rw [← hl]
  obtain ⟨hg, hm⟩ := gd_some hm
  obtain ⟨sl46, hy, hm⟩ := bd_some hm
  refine ⟨hg, _, (flat_sub (c := cI) (z := 1) (fun _ => rfl) _ _ _).trans (congrArg _ (Option.some.inj hy)), ?_⟩
  have hl : sl46.length = l.length - (at_5).toNat := by rw [← Option.some.inj hy]; exact sub_len (by omega)
  rw [← hl]
  refine ⟨?_, ?_⟩
  refine ⟨([] : List Int).flatMap cI, ([] : List Int).length, ⟨rfl, rfl⟩, ?_⟩
  refine ⟨?_, ?_⟩
  obtain ⟨hg, hm⟩ := gd_some hm
  refine ⟨hg, _, _, flat_app (c := cI) (l := (([] : List Int) : List Int)) (r := (sl45 : List Int)), ?_⟩
  refine ⟨([n] : List Int).flatMap cI, ([n] : List Int).length, ⟨rfl, rfl⟩, ?_⟩
  obtain ⟨hg, hm⟩ := gd_some hm
  refine ⟨hg, _, _, flat_app (c := cI) (l := ((([] : List Int) ++ sl45) : List Int)) (r := (([n] : List Int) : List Int)), ?_⟩
  obtain ⟨hg, hm⟩ := gd_some hm
  refine ⟨hg, _, _, flat_app (c := cI) (l := (((([] : List Int) ++ sl45) ++ ([n] : List Int)) : List Int)) (r := (sl46 : List Int)), ?_⟩
  cases hm
  exact RetY.le (leD.refl _)
  refine ⟨([n] : List Int).flatMap cI, ([n] : List Int).length, ⟨rfl, rfl⟩, ?_⟩
  obtain ⟨hg, hm⟩ := gd_some hm
  refine ⟨hg, _, _, flat_app (c := cI) (l := (([] : List Int) : List Int)) (r := (sl45 : List Int)), ?_⟩
  obtain ⟨hg, hm⟩ := gd_some hm
  refine ⟨hg, _, _, flat_app (c := cI) (l := ((([] : List Int) ++ sl45) : List Int)) (r := (([n] : List Int) : List Int)), ?_⟩
  obtain ⟨hg, hm⟩ := gd_some hm
  refine ⟨hg, _, _, flat_app (c := cI) (l := (((([] : List Int) ++ sl45) ++ ([n] : List Int)) : List Int)) (r := (sl46 : List Int)), ?_⟩
  cases hm
  exact RetY.le (leD.refl _)
  refine ⟨([n] : List Int).flatMap cI, ([n] : List Int).length, ⟨rfl, rfl⟩, ?_⟩
  refine ⟨([] : List Int).flatMap cI, ([] : List Int).length, ⟨rfl, rfl⟩, ?_⟩
  obtain ⟨hg, hm⟩ := gd_some hm
  refine ⟨hg, _, _, flat_app (c := cI) (l := (([] : List Int) : List Int)) (r := (sl45 : List Int)), ?_⟩
  obtain ⟨hg, hm⟩ := gd_some hm
  refine ⟨hg, _, _, flat_app (c := cI) (l := ((([] : List Int) ++ sl45) : List Int)) (r := (([n] : List Int) : List Int)), ?_⟩
  obtain ⟨hg, hm⟩ := gd_some hm
  refine ⟨hg, _, _, flat_app (c := cI) (l := (((([] : List Int) ++ sl45) ++ ([n] : List Int)) : List Int)) (r := (sl46 : List Int)), ?_⟩
  cases hm
  exact RetY.le (leD.refl _)

def m_R01_Dates_L1 (b_ : TBylaw) : ((List Int) × Int) → Option (Sum ((List Int) × Int) ((List Int) × Int)) := fun (out14, v13) =>
  if (decide (v13 < (b_.Versions.length : Int))) = true then
    Option.bind (idx b_.Versions v13) fun e24 =>
    Option.bind (m_R01_Put out14 e24.Known) fun x26 =>
    if (decide (e24.Until > 0)) = true then
      Option.bind (m_R01_Put x26 e24.Until) fun x29 =>
      some (.inl (x29, (W (v13 + 1))))
    else
      some (.inl (x26, (W (v13 + 1))))
  else
    some (.inr (out14, v13))
def m_R01_Dates (b_ : TBylaw) : Option ((List Int) × Int) :=
  Option.bind (m_R01_Check b_) fun x1 =>
  if (x1 != 0) = true then
    some ([], x1)
  else
    Option.bind (loopF (m_R01_Dates_L1 b_) ([], 0)) fun (out31, v32) =>
    some (out31, 0)
theorem d_R01_Dates (b_ : TBylaw) (r : ((List Int) × Int)) (hm : m_R01_Dates b_ = some r) : Does Tryz.prog 5 [.agg (TBylaw.c b_)] (fun x => x = .tup [lD 1 r.1 cI, DI r.2]) := by
  refine does_zy (X := ⟨Tryz.prog, tt, Tryz.f5.ntmps, [], [], [], [], [70], []⟩) pok _ Tryz.func5 rfl rfl (Nat.le_of_ble_eq_true rfl) ?_
  obtain ⟨x1, hx2, hm⟩ := bd_some hm
  refine CallY.det (d_R01_Check b_ _ hx2) ?_
  revert hm
  refine VIf.b (fun h3 hm => ?_) (fun h3 hm => ?_)
  cases hm
  exact RetY.le (⟨_, rfl, ⟨leD.nil, leD.refl _, trivial⟩⟩)
  obtain ⟨ev33, he, hk34⟩ := bd_some hm
  refine LoopY.ofL (m_R01_Dates_L1 b_) (fun (out14, v13) => ⟨[(0, .agg [lD 11 b_.Versions TVersion.c, lD 5 b_.Streets TStreet.c]), (1, .own 0 0), (2, .v (.slice none 0 0)), (3, DI 0), (4, DI x1), (5, lD 1 out14 cI), (11, DB (x1 != 0)), (14, lD 11 b_.Versions TVersion.c), (15, DI (b_.Versions.length : Int)), (16, DI v13)], [(0, .blk [lD 11 b_.Versions TVersion.c, lD 5 b_.Streets TStreet.c] 25)], 1⟩) ([], 0) (SubY.of 1 rfl ⟨tR rfl, tR rfl, tR rfl, tR rfl, tR rfl, ⟨_, rfl, leD.nil⟩, tR rfl, tR rfl, tR rfl, tR rfl, trivial⟩ ⟨hR rfl, trivial⟩) he ?_
  rintro fu35 ⟨out14, v13⟩ b hm hi36
  revert hm
  refine VIf.b (fun h37 hm => ?_) (fun h37 hm => ?_)
  obtain ⟨e38, hx39, hm⟩ := bd_some hm
  refine ⟨_, el_idx (fun _ => rfl) hx39, ?_⟩
  obtain ⟨x40, hx41, hm⟩ := bd_some hm
  refine CallY.det (d_R01_Put out14 e38.Known _ hx41) ?_
  revert hm
  refine VIf.b (fun h42 hm => ?_) (fun h42 hm => ?_)
  obtain ⟨x43, hx44, hm⟩ := bd_some hm
  refine CallY.det (d_R01_Put x40 e38.Until _ hx44) ?_
  cases hm
  exact ⟨(_, (x43, (W (v13 + 1)))), SubY.of 1 rfl ⟨tR rfl, tR rfl, tR rfl, tR rfl, tR rfl, tR rfl, tR rfl, tR rfl, tR rfl, tR rfl, trivial⟩ ⟨hR rfl, trivial⟩, hi36, Nat.lt_succ_self _⟩
  cases hm
  exact ⟨(_, (x40, (W (v13 + 1)))), SubY.of 1 rfl ⟨tR rfl, tR rfl, tR rfl, tR rfl, tR rfl, tR rfl, tR rfl, tR rfl, tR rfl, tR rfl, trivial⟩ ⟨hR rfl, trivial⟩, hi36, Nat.lt_succ_self _⟩
  cases hm
  cases hi36
  have hm := hk34
  cases hm
  exact RetY.le (leD.refl _)

def m_bylaw_inForce_L1 (b_ : TBylaw) (class_ : Int) (night : Int) (known : Int) : (Int × Int × Int × Int × Int × Int × Int × Int × Int × Int × Int × Int) → Option (Sum (Int × Int × Int × Int × Int × Int × Int × Int × Int × Int × Int × Int) (Int × Int × Int × Int × Int × Int × Int × Int × Int × Int × Int × Int)) := fun (v11, v12, v13, v14, v15, v16, v17, v18, v19, v20, v21, v22) =>
  if (decide (v11 < (b_.Versions.length : Int))) = true then
    Option.bind (idx b_.Versions v11) fun e34 =>
    if (e34.Class == class_) = true then
      if (decide (e34.From ≤ night)) = true then
        if (decide (e34.Known ≤ known)) = true then
          if (e34.Until == 0) = true then
            if (decide (e34.From ≥ v14)) = true then
              some (.inl ((W (v11 + 1)), e34.Source, e34.Class, e34.From, e34.On.Lo, e34.On.Hi, e34.Off.Lo, e34.Off.Hi, e34.Moon, e34.Fog, e34.Known, e34.Until))
            else
              some (.inl ((W (v11 + 1)), v12, v13, v14, v15, v16, v17, v18, v19, v20, v21, v22))
          else
            if (decide (e34.Until > known)) = true then
              if (decide (e34.From ≥ v14)) = true then
                some (.inl ((W (v11 + 1)), e34.Source, e34.Class, e34.From, e34.On.Lo, e34.On.Hi, e34.Off.Lo, e34.Off.Hi, e34.Moon, e34.Fog, e34.Known, e34.Until))
              else
                some (.inl ((W (v11 + 1)), v12, v13, v14, v15, v16, v17, v18, v19, v20, v21, v22))
            else
              some (.inl ((W (v11 + 1)), v12, v13, v14, v15, v16, v17, v18, v19, v20, v21, v22))
        else
          some (.inl ((W (v11 + 1)), v12, v13, v14, v15, v16, v17, v18, v19, v20, v21, v22))
      else
        some (.inl ((W (v11 + 1)), v12, v13, v14, v15, v16, v17, v18, v19, v20, v21, v22))
    else
      some (.inl ((W (v11 + 1)), v12, v13, v14, v15, v16, v17, v18, v19, v20, v21, v22))
  else
    some (.inr (v11, v12, v13, v14, v15, v16, v17, v18, v19, v20, v21, v22))
def m_bylaw_inForce (b_ : TBylaw) (class_ : Int) (night : Int) (known : Int) : Option (TVersion × Int) :=
  Option.bind (loopF (m_bylaw_inForce_L1 b_ class_ night known) (0, 0, 0, 0, 0, 0, 0, 0, 0, 0, 0, 0)) fun (v43, v44, v45, v46, v47, v48, v49, v50, v51, v52, v53, v54) =>
  if ((v44 == 0) && ((v45 == 0) && ((v46 == 0) && ((v47 == 0) && ((v48 == 0) && ((v49 == 0) && ((v50 == 0) && ((v51 == 0) && ((v52 == 0) && ((v53 == 0) && (v54 == 0))))))))))) = true then
    some ((⟨v44, v45, v46, (⟨v47, v48⟩ : TRange), (⟨v49, v50⟩ : TRange), v51, v52, v53, v54⟩ : TVersion), 14)
  else
    some ((⟨v44, v45, v46, (⟨v47, v48⟩ : TRange), (⟨v49, v50⟩ : TRange), v51, v52, v53, v54⟩ : TVersion), 0)
theorem d_bylaw_inForce (b_ : TBylaw) (class_ : Int) (night : Int) (known : Int) (r : (TVersion × Int)) (hm : m_bylaw_inForce b_ class_ night known = some r) : Does Tryz.prog 23 [.agg (TBylaw.c b_), DI class_, DI night, DI known] (fun x => x = .tup [.agg (TVersion.c r.1), DI r.2]) := by
  refine does_zy (X := ⟨Tryz.prog, tt, Tryz.f23.ntmps, [], [], [], [], [70], []⟩) pok _ Tryz.func23 rfl rfl (Nat.le_of_ble_eq_true rfl) ?_
  obtain ⟨ev56, he, hk57⟩ := bd_some hm
  refine LoopY.ofL (m_bylaw_inForce_L1 b_ class_ night known) (fun (v11, v12, v13, v14, v15, v16, v17, v18, v19, v20, v21, v22) => ⟨[(0, .agg [lD 11 b_.Versions TVersion.c, lD 5 b_.Streets TStreet.c]), (1, DI class_), (2, DI night), (3, DI known), (4, .own 0 0), (8, .own 1 0), (9, DI 0), (10, .own 2 0), (14, lD 11 b_.Versions TVersion.c), (15, DI (b_.Versions.length : Int)), (16, DI v11)], [(0, .blk [lD 11 b_.Versions TVersion.c, lD 5 b_.Streets TStreet.c] 25), (1, .blk [DI 0, DI 0, DI 0, DI 0, DI 0, DI 0, DI 0, DI 0, DI 0, DI 0, DI 0] 35), (2, .blk [DI v12, DI v13, DI v14, DI v15, DI v16, DI v17, DI v18, DI v19, DI v20, DI v21, DI v22] 35)], 3⟩) (0, 0, 0, 0, 0, 0, 0, 0, 0, 0, 0, 0) (SubY.of 3 rfl ⟨tR rfl, tR rfl, tR rfl, tR rfl, tR rfl, tR rfl, tR rfl, tR rfl, tR rfl, tR rfl, tR rfl, trivial⟩ ⟨hR rfl, hR rfl, hR rfl, trivial⟩) he ?_
  rintro fu58 ⟨v11, v12, v13, v14, v15, v16, v17, v18, v19, v20, v21, v22⟩ b hm hi59
  revert hm
  refine VIf.b (fun h60 hm => ?_) (fun h60 hm => ?_)
  obtain ⟨e61, hx62, hm⟩ := bd_some hm
  refine ⟨_, el_idx (fun _ => rfl) hx62, ?_⟩
  revert hm
  refine VIf.b (fun h63 hm => ?_) (fun h63 hm => ?_)
  revert hm
  refine VIf.b (fun h64 hm => ?_) (fun h64 hm => ?_)
  revert hm
  refine VIf.b (fun h65 hm => ?_) (fun h65 hm => ?_)
  revert hm
  refine VIf.b (fun h66 hm => ?_) (fun h66 hm => ?_)
  revert hm
  refine VIf.b (fun h67 hm => ?_) (fun h67 hm => ?_)
  cases hm
  exact ⟨(_, ((W (v11 + 1)), e61.Source, e61.Class, e61.From, e61.On.Lo, e61.On.Hi, e61.Off.Lo, e61.Off.Hi, e61.Moon, e61.Fog, e61.Known, e61.Until)), SubY.of 3 rfl ⟨tR rfl, tR rfl, tR rfl, tR rfl, tR rfl, tR rfl, tR rfl, tR rfl, tR rfl, tR rfl, tR rfl, trivial⟩ ⟨hR rfl, hR rfl, hR rfl, trivial⟩, hi59, Nat.lt_succ_self _⟩
  cases hm
  exact ⟨(_, ((W (v11 + 1)), v12, v13, v14, v15, v16, v17, v18, v19, v20, v21, v22)), SubY.of 3 rfl ⟨tR rfl, tR rfl, tR rfl, tR rfl, tR rfl, tR rfl, tR rfl, tR rfl, tR rfl, tR rfl, tR rfl, trivial⟩ ⟨hR rfl, hR rfl, hR rfl, trivial⟩, hi59, Nat.lt_succ_self _⟩
  revert hm
  refine VIf.b (fun h68 hm => ?_) (fun h68 hm => ?_)
  revert hm
  refine VIf.b (fun h69 hm => ?_) (fun h69 hm => ?_)
  cases hm
  exact ⟨(_, ((W (v11 + 1)), e61.Source, e61.Class, e61.From, e61.On.Lo, e61.On.Hi, e61.Off.Lo, e61.Off.Hi, e61.Moon, e61.Fog, e61.Known, e61.Until)), SubY.of 3 rfl ⟨tR rfl, tR rfl, tR rfl, tR rfl, tR rfl, tR rfl, tR rfl, tR rfl, tR rfl, tR rfl, tR rfl, trivial⟩ ⟨hR rfl, hR rfl, hR rfl, trivial⟩, hi59, Nat.lt_succ_self _⟩
  cases hm
  exact ⟨(_, ((W (v11 + 1)), v12, v13, v14, v15, v16, v17, v18, v19, v20, v21, v22)), SubY.of 3 rfl ⟨tR rfl, tR rfl, tR rfl, tR rfl, tR rfl, tR rfl, tR rfl, tR rfl, tR rfl, tR rfl, tR rfl, trivial⟩ ⟨hR rfl, hR rfl, hR rfl, trivial⟩, hi59, Nat.lt_succ_self _⟩
  cases hm
  exact ⟨(_, ((W (v11 + 1)), v12, v13, v14, v15, v16, v17, v18, v19, v20, v21, v22)), SubY.of 3 rfl ⟨tR rfl, tR rfl, tR rfl, tR rfl, tR rfl, tR rfl, tR rfl, tR rfl, tR rfl, tR rfl, tR rfl, trivial⟩ ⟨hR rfl, hR rfl, hR rfl, trivial⟩, hi59, Nat.lt_succ_self _⟩
  cases hm
  exact ⟨(_, ((W (v11 + 1)), v12, v13, v14, v15, v16, v17, v18, v19, v20, v21, v22)), SubY.of 3 rfl ⟨tR rfl, tR rfl, tR rfl, tR rfl, tR rfl, tR rfl, tR rfl, tR rfl, tR rfl, tR rfl, tR rfl, trivial⟩ ⟨hR rfl, hR rfl, hR rfl, trivial⟩, hi59, Nat.lt_succ_self _⟩
  cases hm
  exact ⟨(_, ((W (v11 + 1)), v12, v13, v14, v15, v16, v17, v18, v19, v20, v21, v22)), SubY.of 3 rfl ⟨tR rfl, tR rfl, tR rfl, tR rfl, tR rfl, tR rfl, tR rfl, tR rfl, tR rfl, tR rfl, tR rfl, trivial⟩ ⟨hR rfl, hR rfl, hR rfl, trivial⟩, hi59, Nat.lt_succ_self _⟩
  cases hm
  exact ⟨(_, ((W (v11 + 1)), v12, v13, v14, v15, v16, v17, v18, v19, v20, v21, v22)), SubY.of 3 rfl ⟨tR rfl, tR rfl, tR rfl, tR rfl, tR rfl, tR rfl, tR rfl, tR rfl, tR rfl, tR rfl, tR rfl, trivial⟩ ⟨hR rfl, hR rfl, hR rfl, trivial⟩, hi59, Nat.lt_succ_self _⟩
  cases hm
  cases hi59
  have hm := hk57
  revert hm
  refine VIf.b (fun h70 hm => ?_) (fun h70 hm => ?_)
  cases hm
  exact RetY.le (leD.refl _)
  cases hm
  exact RetY.le (leD.refl _)

def m_bylaw_InForce (b_ : TBylaw) (class_ : Int) (night : Int) (known : Int) : Option (TVersion × Int) :=
  Option.bind (m_bylaw_Check b_) fun x1 =>
  if (x1 != 0) = true then
    some ((⟨0, 0, 0, (⟨0, 0⟩ : TRange), (⟨0, 0⟩ : TRange), 0, 0, 0, 0⟩ : TVersion), x1)
  else
    Option.bind (m_bylaw_in class_ 1 9) fun x4 =>
    if (!x4) = true then
      some ((⟨0, 0, 0, (⟨0, 0⟩ : TRange), (⟨0, 0⟩ : TRange), 0, 0, 0, 0⟩ : TVersion), 1)
    else
      Option.bind (m_bylaw_isNight night) fun x7 =>
      if (!x7) = true then
        some ((⟨0, 0, 0, (⟨0, 0⟩ : TRange), (⟨0, 0⟩ : TRange), 0, 0, 0, 0⟩ : TVersion), 6)
      else
        Option.bind (m_bylaw_isNight known) fun x10 =>
        if (!x10) = true then
          some ((⟨0, 0, 0, (⟨0, 0⟩ : TRange), (⟨0, 0⟩ : TRange), 0, 0, 0, 0⟩ : TVersion), 6)
        else
          Option.bind (m_bylaw_inForce b_ class_ night known) fun ⟨x13, x14⟩ =>
          some (x13, x14)
theorem d_bylaw_InForce (b_ : TBylaw) (class_ : Int) (night : Int) (known : Int) (r : (TVersion × Int)) (hm : m_bylaw_InForce b_ class_ night known = some r) : Does Tryz.prog 6 [.agg (TBylaw.c b_), DI class_, DI night, DI known] (fun x => x = .tup [.agg (TVersion.c r.1), DI r.2]) := by
  refine does_zy (X := ⟨Tryz.prog, tt, Tryz.f6.ntmps, [], [], [], [], [70], []⟩) pok _ Tryz.func6 rfl rfl (Nat.le_of_ble_eq_true rfl) ?_
  obtain ⟨x1, hx2, hm⟩ := bd_some hm
  refine CallY.det (d_bylaw_Check b_ _ hx2) ?_
  revert hm
  refine VIf.b (fun h3 hm => ?_) (fun h3 hm => ?_)
  cases hm
  exact RetY.le (leD.refl _)
  obtain ⟨x4, hx5, hm⟩ := bd_some hm
  refine CallY.det (d_bylaw_in class_ 1 9 _ hx5) ?_
  revert hm
  refine VIf.b (fun h6 hm => ?_) (fun h6 hm => ?_)
  cases hm
  exact RetY.le (leD.refl _)
  obtain ⟨x7, hx8, hm⟩ := bd_some hm
  refine CallY.det (d_bylaw_isNight night _ hx8) ?_
  revert hm
  refine VIf.b (fun h9 hm => ?_) (fun h9 hm => ?_)
  cases hm
  exact RetY.le (leD.refl _)
  obtain ⟨x10, hx11, hm⟩ := bd_some hm
  refine CallY.det (d_bylaw_isNight known _ hx11) ?_
  revert hm
  refine VIf.b (fun h12 hm => ?_) (fun h12 hm => ?_)
  cases hm
  exact RetY.le (leD.refl _)
  obtain ⟨⟨x13, x14⟩, hx15, hm⟩ := bd_some hm
  refine CallY.det (d_bylaw_inForce b_ class_ night known _ hx15) ?_
  cases hm
  exact RetY.le (leD.refl _)

def m_R01_Counts (from_ : Int) (until_ : Int) (known : Int) : Option Bool :=
  if (decide (from_ ≤ known)) = true then
    if (until_ == 0) = true then
      some true
    else
      some (decide (known < until_))
  else
    some false
theorem d_R01_Counts (from_ : Int) (until_ : Int) (known : Int) (r : Bool) (hm : m_R01_Counts from_ until_ known = some r) : Does Tryz.prog 52 [DI from_, DI until_, DI known] (fun x => x = DB r) := by
  refine does_zy (X := ⟨Tryz.prog, tt, Tryz.f52.ntmps, [], [], [], [], [70], []⟩) pok _ Tryz.func52 rfl rfl (Nat.le_of_ble_eq_true rfl) ?_
  revert hm
  refine VIf.b (fun h1 hm => ?_) (fun h1 hm => ?_)
  revert hm
  refine VIf.b (fun h2 hm => ?_) (fun h2 hm => ?_)
  cases hm
  exact RetY.le (leD.refl _)
  cases hm
  exact RetY.le (leD.refl _)
  cases hm
  exact RetY.le (leD.refl _)

def m_R01_inForce_L1 (b_ : TBylaw) (class_ : Int) (at_ : TAt) : (Bool × Int × Int × Int × Int × Int × Int × Int × Int × Int × Int × Int × Int) → Option (Sum (Bool × Int × Int × Int × Int × Int × Int × Int × Int × Int × Int × Int × Int) (Bool × Int × Int × Int × Int × Int × Int × Int × Int × Int × Int × Int × Int)) := fun (is9, v10, v11, v12, v13, v14, v15, v16, v17, v18, v19, v20, v21) =>
  if (decide (v10 < (b_.Versions.length : Int))) = true then
    Option.bind (idx b_.Versions v10) fun e33 =>
    if (e33.Class == class_) = true then
      Option.bind (m_R01_Counts e33.Known e33.Until at_.Known) fun x36 =>
      if x36 = true then
        if (decide (e33.From ≤ at_.Night)) = true then
          if (!is9) = true then
            some (.inl (true, (W (v10 + 1)), e33.Source, e33.Class, e33.From, e33.On.Lo, e33.On.Hi, e33.Off.Lo, e33.Off.Hi, e33.Moon, e33.Fog, e33.Known, e33.Until))
          else
            if (decide (e33.From ≥ v13)) = true then
              some (.inl (true, (W (v10 + 1)), e33.Source, e33.Class, e33.From, e33.On.Lo, e33.On.Hi, e33.Off.Lo, e33.Off.Hi, e33.Moon, e33.Fog, e33.Known, e33.Until))
            else
              some (.inl (is9, (W (v10 + 1)), v11, v12, v13, v14, v15, v16, v17, v18, v19, v20, v21))
        else
          some (.inl (is9, (W (v10 + 1)), v11, v12, v13, v14, v15, v16, v17, v18, v19, v20, v21))
      else
        some (.inl (is9, (W (v10 + 1)), v11, v12, v13, v14, v15, v16, v17, v18, v19, v20, v21))
    else
      some (.inl (is9, (W (v10 + 1)), v11, v12, v13, v14, v15, v16, v17, v18, v19, v20, v21))
  else
    some (.inr (is9, v10, v11, v12, v13, v14, v15, v16, v17, v18, v19, v20, v21))
def m_R01_inForce (b_ : TBylaw) (class_ : Int) (at_ : TAt) : Option (TVersion × Bool) :=
  Option.bind (loopF (m_R01_inForce_L1 b_ class_ at_) (false, 0, 0, 0, 0, 0, 0, 0, 0, 0, 0, 0, 0)) fun (is42, v43, v44, v45, v46, v47, v48, v49, v50, v51, v52, v53, v54) =>
  some ((⟨v44, v45, v46, (⟨v47, v48⟩ : TRange), (⟨v49, v50⟩ : TRange), v51, v52, v53, v54⟩ : TVersion), is42)
theorem d_R01_inForce (b_ : TBylaw) (class_ : Int) (at_ : TAt) (r : (TVersion × Bool)) (hm : m_R01_inForce b_ class_ at_ = some r) : Does Tryz.prog 26 [.agg (TBylaw.c b_), DI class_, .agg (TAt.c at_)] (fun x => x = .tup [.agg (TVersion.c r.1), DB r.2]) := by
  refine does_zy (X := ⟨Tryz.prog, tt, Tryz.f26.ntmps, [], [], [], [], [70], []⟩) pok _ Tryz.func26 rfl rfl (Nat.le_of_ble_eq_true rfl) ?_
  obtain ⟨ev55, he, hk56⟩ := bd_some hm
  refine LoopY.ofL (m_R01_inForce_L1 b_ class_ at_) (fun (is9, v10, v11, v12, v13, v14, v15, v16, v17, v18, v19, v20, v21) => ⟨[(0, .agg [lD 11 b_.Versions TVersion.c, lD 5 b_.Streets TStreet.c]), (1, DI class_), (2, .agg [DI at_.Night, DI at_.Known]), (3, .own 0 0), (5, .own 1 0), (6, .own 2 0), (7, DB false), (8, .own 3 0), (9, DB is9), (13, lD 11 b_.Versions TVersion.c), (14, DI (b_.Versions.length : Int)), (15, DI v10)], [(0, .blk [lD 11 b_.Versions TVersion.c, lD 5 b_.Streets TStreet.c] 25), (1, .blk [DI at_.Night, DI at_.Known] 40), (2, .blk [DI 0, DI 0, DI 0, DI 0, DI 0, DI 0, DI 0, DI 0, DI 0, DI 0, DI 0] 35), (3, .blk [DI v11, DI v12, DI v13, DI v14, DI v15, DI v16, DI v17, DI v18, DI v19, DI v20, DI v21] 35)], 4⟩) (false, 0, 0, 0, 0, 0, 0, 0, 0, 0, 0, 0, 0) (SubY.of 4 rfl ⟨tR rfl, tR rfl, tR rfl, tR rfl, tR rfl, tR rfl, tR rfl, tR rfl, tR rfl, tR rfl, tR rfl, tR rfl, trivial⟩ ⟨hR rfl, hR rfl, hR rfl, hR rfl, trivial⟩) he ?_
  rintro fu57 ⟨is9, v10, v11, v12, v13, v14, v15, v16, v17, v18, v19, v20, v21⟩ b hm hi58
  revert hm
  refine VIf.b (fun h59 hm => ?_) (fun h59 hm => ?_)
  obtain ⟨e60, hx61, hm⟩ := bd_some hm
  refine ⟨_, el_idx (fun _ => rfl) hx61, ?_⟩
  revert hm
  refine VIf.b (fun h62 hm => ?_) (fun h62 hm => ?_)
  obtain ⟨x63, hx64, hm⟩ := bd_some hm
  refine CallY.det (d_R01_Counts e60.Known e60.Until at_.Known _ hx64) ?_
  revert hm
  refine VIf.b (fun h65 hm => ?_) (fun h65 hm => ?_)
  revert hm
  refine VIf.b (fun h66 hm => ?_) (fun h66 hm => ?_)
  revert hm
  refine VIf.b (fun h67 hm => ?_) (fun h67 hm => ?_)
  cases hm
  exact ⟨(_, (true, (W (v10 + 1)), e60.Source, e60.Class, e60.From, e60.On.Lo, e60.On.Hi, e60.Off.Lo, e60.Off.Hi, e60.Moon, e60.Fog, e60.Known, e60.Until)), SubY.of 4 rfl ⟨tR rfl, tR rfl, tR rfl, tR rfl, tR rfl, tR rfl, tR rfl, tR rfl, tR rfl, tR rfl, tR rfl, tR rfl, trivial⟩ ⟨hR rfl, hR rfl, hR rfl, hR rfl, trivial⟩, hi58, Nat.lt_succ_self _⟩
  revert hm
  refine VIf.b (fun h68 hm => ?_) (fun h68 hm => ?_)
  cases hm
  exact ⟨(_, (true, (W (v10 + 1)), e60.Source, e60.Class, e60.From, e60.On.Lo, e60.On.Hi, e60.Off.Lo, e60.Off.Hi, e60.Moon, e60.Fog, e60.Known, e60.Until)), SubY.of 4 rfl ⟨tR rfl, tR rfl, tR rfl, tR rfl, tR rfl, tR rfl, tR rfl, tR rfl, tR rfl, tR rfl, tR rfl, tR rfl, trivial⟩ ⟨hR rfl, hR rfl, hR rfl, hR rfl, trivial⟩, hi58, Nat.lt_succ_self _⟩
  cases hm
  exact ⟨(_, (is9, (W (v10 + 1)), v11, v12, v13, v14, v15, v16, v17, v18, v19, v20, v21)), SubY.of 4 rfl ⟨tR rfl, tR rfl, tR rfl, tR rfl, tR rfl, tR rfl, tR rfl, tR rfl, tR rfl, tR rfl, tR rfl, tR rfl, trivial⟩ ⟨hR rfl, hR rfl, hR rfl, hR rfl, trivial⟩, hi58, Nat.lt_succ_self _⟩
  cases hm
  exact ⟨(_, (is9, (W (v10 + 1)), v11, v12, v13, v14, v15, v16, v17, v18, v19, v20, v21)), SubY.of 4 rfl ⟨tR rfl, tR rfl, tR rfl, tR rfl, tR rfl, tR rfl, tR rfl, tR rfl, tR rfl, tR rfl, tR rfl, tR rfl, trivial⟩ ⟨hR rfl, hR rfl, hR rfl, hR rfl, trivial⟩, hi58, Nat.lt_succ_self _⟩
  cases hm
  exact ⟨(_, (is9, (W (v10 + 1)), v11, v12, v13, v14, v15, v16, v17, v18, v19, v20, v21)), SubY.of 4 rfl ⟨tR rfl, tR rfl, tR rfl, tR rfl, tR rfl, tR rfl, tR rfl, tR rfl, tR rfl, tR rfl, tR rfl, tR rfl, trivial⟩ ⟨hR rfl, hR rfl, hR rfl, hR rfl, trivial⟩, hi58, Nat.lt_succ_self _⟩
  cases hm
  exact ⟨(_, (is9, (W (v10 + 1)), v11, v12, v13, v14, v15, v16, v17, v18, v19, v20, v21)), SubY.of 4 rfl ⟨tR rfl, tR rfl, tR rfl, tR rfl, tR rfl, tR rfl, tR rfl, tR rfl, tR rfl, tR rfl, tR rfl, tR rfl, trivial⟩ ⟨hR rfl, hR rfl, hR rfl, hR rfl, trivial⟩, hi58, Nat.lt_succ_self _⟩
  cases hm
  cases hi58
  have hm := hk56
  cases hm
  exact RetY.le (leD.refl _)

def m_R01_InForce (b_ : TBylaw) (class_ : Int) (at_ : TAt) : Option (TVersion × Int) :=
  Option.bind (m_R01_Check b_) fun x1 =>
  if (x1 != 0) = true then
    some ((⟨0, 0, 0, (⟨0, 0⟩ : TRange), (⟨0, 0⟩ : TRange), 0, 0, 0, 0⟩ : TVersion), x1)
  else
    Option.bind (m_R01_Within class_ 1 9) fun x4 =>
    if (!x4) = true then
      some ((⟨0, 0, 0, (⟨0, 0⟩ : TRange), (⟨0, 0⟩ : TRange), 0, 0, 0, 0⟩ : TVersion), 1)
    else
      Option.bind (m_R01_IsNight at_.Night) fun x7 =>
      if (!x7) = true then
        some ((⟨0, 0, 0, (⟨0, 0⟩ : TRange), (⟨0, 0⟩ : TRange), 0, 0, 0, 0⟩ : TVersion), 6)
      else
        Option.bind (m_R01_IsNight at_.Known) fun x10 =>
        if (!x10) = true then
          some ((⟨0, 0, 0, (⟨0, 0⟩ : TRange), (⟨0, 0⟩ : TRange), 0, 0, 0, 0⟩ : TVersion), 6)
        else
          Option.bind (m_R01_inForce b_ class_ at_) fun ⟨x13, x14⟩ =>
          if (!x14) = true then
            some ((⟨0, 0, 0, (⟨0, 0⟩ : TRange), (⟨0, 0⟩ : TRange), 0, 0, 0, 0⟩ : TVersion), 14)
          else
            some (x13, 0)
theorem d_R01_InForce (b_ : TBylaw) (class_ : Int) (at_ : TAt) (r : (TVersion × Int)) (hm : m_R01_InForce b_ class_ at_ = some r) : Does Tryz.prog 7 [.agg (TBylaw.c b_), DI class_, .agg (TAt.c at_)] (fun x => x = .tup [.agg (TVersion.c r.1), DI r.2]) := by
  refine does_zy (X := ⟨Tryz.prog, tt, Tryz.f7.ntmps, [], [], [], [], [70], []⟩) pok _ Tryz.func7 rfl rfl (Nat.le_of_ble_eq_true rfl) ?_
  obtain ⟨x1, hx2, hm⟩ := bd_some hm
  refine CallY.det (d_R01_Check b_ _ hx2) ?_
  revert hm
  refine VIf.b (fun h3 hm => ?_) (fun h3 hm => ?_)
  cases hm
  exact RetY.le (leD.refl _)
  obtain ⟨x4, hx5, hm⟩ := bd_some hm
  refine CallY.det (d_R01_Within class_ 1 9 _ hx5) ?_
  revert hm
  refine VIf.b (fun h6 hm => ?_) (fun h6 hm => ?_)
  cases hm
  exact RetY.le (leD.refl _)
  obtain ⟨x7, hx8, hm⟩ := bd_some hm
  refine CallY.det (d_R01_IsNight at_.Night _ hx8) ?_
  revert hm
  refine VIf.b (fun h9 hm => ?_) (fun h9 hm => ?_)
  cases hm
  exact RetY.le (leD.refl _)
  obtain ⟨x10, hx11, hm⟩ := bd_some hm
  refine CallY.det (d_R01_IsNight at_.Known _ hx11) ?_
  revert hm
  refine VIf.b (fun h12 hm => ?_) (fun h12 hm => ?_)
  cases hm
  exact RetY.le (leD.refl _)
  obtain ⟨⟨x13, x14⟩, hx15, hm⟩ := bd_some hm
  refine CallY.det (d_R01_inForce b_ class_ at_ _ hx15) ?_
  revert hm
  refine VIf.b (fun h16 hm => ?_) (fun h16 hm => ?_)
  cases hm
  exact RetY.le (leD.refl _)
  cases hm
  exact RetY.le (leD.refl _)

def m_bylaw_streetOf_1 (s : TStreet) (c_0 : Int) : Option Bool :=
  Option.bind (m_bylaw_has s c_0) fun x1 =>
  some x1
theorem d_bylaw_streetOf_1 (s : TStreet) (c_0 : Int) (r : Bool) (hm : m_bylaw_streetOf_1 s c_0 = some r) : Does Tryz.prog 54 [.agg (TStreet.c s), .ptr [DI c_0] 0] (fun x => x = DB r) := by
  refine does_zy (X := ⟨Tryz.prog, tt, Tryz.f54.ntmps, [], [], [], [], [70], []⟩) pok _ Tryz.func54 rfl rfl (Nat.le_of_ble_eq_true rfl) ?_
  obtain ⟨x1, hx2, hm⟩ := bd_some hm
  refine CallY.det (d_bylaw_has s c_0 _ hx2) ?_
  cases hm
  exact RetY.le (leD.refl _)

def m_slices_IndexFunc_api_Street_api_Street__bylaw_streetOf_1_L1 (s : (List TStreet)) (c1_0 : Int) : Int → Option (Sum Int (Sum Int Int)) := fun v7 =>
  if (decide (v7 < (s.length : Int))) = true then
    Option.bind (idx s v7) fun e15 =>
    Option.bind (m_bylaw_streetOf_1 e15 c1_0) fun x17 =>
    if x17 = true then
      some (.inr (.inr v7))
    else
      some (.inl (W (v7 + 1)))
  else
    some (.inr (.inl v7))
def m_slices_IndexFunc_api_Street_api_Street__bylaw_streetOf_1 (s : (List TStreet)) (c1_0 : Int) : Option Int :=
  Option.bind (loopF (m_slices_IndexFunc_api_Street_api_Street__bylaw_streetOf_1_L1 s c1_0) 0) fun e =>
  match e with
  | .inl v20 =>
    some (-1)
  | .inr rr21 =>
    some rr21
theorem d_slices_IndexFunc_api_Street_api_Street__bylaw_streetOf_1 (s : (List TStreet)) (c1_0 : Int) (r : Int) (hm : m_slices_IndexFunc_api_Street_api_Street__bylaw_streetOf_1 s c1_0 = some r) : Does Tryz.prog 53 [lD 5 s TStreet.c, .fn 54 [] [.ptr [DI c1_0] 0]] (fun x => x = DI r) := by
  refine does_zy (X := ⟨Tryz.prog, tt, Tryz.f53.ntmps, [], [], [], [], [70], []⟩) pok _ Tryz.func53 rfl rfl (Nat.le_of_ble_eq_true rfl) ?_
  obtain ⟨ev22, he, hk23⟩ := bd_some hm
  refine LoopY.ofL (m_slices_IndexFunc_api_Street_api_Street__bylaw_streetOf_1_L1 s c1_0) (fun v7 => ⟨[(0, lD 5 s TStreet.c), (1, .fn 54 [] [.ptr [DI c1_0] 0]), (4, DI 0), (7, DI (s.length : Int)), (8, DI v7)], [], 0⟩) 0 (SubY.of 0 rfl ⟨tR rfl, tR rfl, tR rfl, tR rfl, tR rfl, trivial⟩ trivial) he ?_
  rintro fu24 v7 b hm hi25
  revert hm
  refine VIf.b (fun h26 hm => ?_) (fun h26 hm => ?_)
  obtain ⟨e27, hx28, hm⟩ := bd_some hm
  refine ⟨_, el_idx (fun _ => rfl) hx28, ?_⟩
  obtain ⟨x29, hx30, hm⟩ := bd_some hm
  refine CallY.det (d_bylaw_streetOf_1 e27 c1_0 _ hx30) ?_
  revert hm
  refine VIf.b (fun h31 hm => ?_) (fun h31 hm => ?_)
  cases hm
  cases hi25
  have hm := hk23
  cases hm
  exact RetY.le (leD.refl _)
  cases hm
  exact ⟨(_, (W (v7 + 1))), SubY.of 0 rfl ⟨tR rfl, tR rfl, tR rfl, tR rfl, tR rfl, trivial⟩ trivial, hi25, Nat.lt_succ_self _⟩
  cases hm
  cases hi25
  have hm := hk23
  cases hm
  exact RetY.le (leD.refl _)

def m_bylaw_streetOf (b_ : TBylaw) (lamp : Int) : Option (TStreet × Int) :=
  Option.bind (m_slices_IndexFunc_api_Street_api_Street__bylaw_streetOf_1 b_.Streets lamp) fun x1 =>
  if (decide (x1 < 0)) = true then
    some ((⟨0, 0, 0, 0, 0⟩ : TStreet), 15)
  else
    Option.bind (idx b_.Streets x1) fun e4 =>
    some (e4, 0)
theorem d_bylaw_streetOf (b_ : TBylaw) (lamp : Int) (r : (TStreet × Int)) (hm : m_bylaw_streetOf b_ lamp = some r) : Does Tryz.prog 27 [.agg (TBylaw.c b_), DI lamp] (fun x => x = .tup [.agg (TStreet.c r.1), DI r.2]) := by
  refine does_zy (X := ⟨Tryz.prog, tt, Tryz.f27.ntmps, [], [], [], [], [70], []⟩) pok _ Tryz.func27 rfl rfl (Nat.le_of_ble_eq_true rfl) ?_
  obtain ⟨x1, hx2, hm⟩ := bd_some hm
  refine CallOwn.det (d_slices_IndexFunc_api_Street_api_Street__bylaw_streetOf_1 b_.Streets lamp _ hx2) ?_
  revert hm
  refine VIf.b (fun h3 hm => ?_) (fun h3 hm => ?_)
  cases hm
  exact RetY.le (leD.refl _)
  obtain ⟨e4, hx5, hm⟩ := bd_some hm
  refine ⟨_, el_idx (fun _ => rfl) hx5, ?_⟩
  cases hm
  exact RetY.le (leD.refl _)

def m_bylaw_Street (b_ : TBylaw) (lamp : Int) : Option (TStreet × Int) :=
  Option.bind (m_bylaw_Check b_) fun x1 =>
  if (x1 != 0) = true then
    some ((⟨0, 0, 0, 0, 0⟩ : TStreet), x1)
  else
    Option.bind (m_bylaw_streetOf b_ lamp) fun ⟨x4, x5⟩ =>
    some (x4, x5)
theorem d_bylaw_Street (b_ : TBylaw) (lamp : Int) (r : (TStreet × Int)) (hm : m_bylaw_Street b_ lamp = some r) : Does Tryz.prog 8 [.agg (TBylaw.c b_), DI lamp] (fun x => x = .tup [.agg (TStreet.c r.1), DI r.2]) := by
  refine does_zy (X := ⟨Tryz.prog, tt, Tryz.f8.ntmps, [], [], [], [], [70], []⟩) pok _ Tryz.func8 rfl rfl (Nat.le_of_ble_eq_true rfl) ?_
  obtain ⟨x1, hx2, hm⟩ := bd_some hm
  refine CallY.det (d_bylaw_Check b_ _ hx2) ?_
  revert hm
  refine VIf.b (fun h3 hm => ?_) (fun h3 hm => ?_)
  cases hm
  exact RetY.le (leD.refl _)
  obtain ⟨⟨x4, x5⟩, hx6, hm⟩ := bd_some hm
  refine CallY.det (d_bylaw_streetOf b_ lamp _ hx6) ?_
  cases hm
  exact RetY.le (leD.refl _)

def m_R01_street_L1 (b_ : TBylaw) (lamp : Int) : Int → Option (Sum Int (Sum Int (TStreet × Bool))) := fun v7 =>
  if (decide (v7 < (b_.Streets.length : Int))) = true then
    Option.bind (idx b_.Streets v7) fun e15 =>
    Option.bind (m_R01_Within lamp e15.First (W ((W (e15.First + e15.Many)) - 1))) fun x17 =>
    if x17 = true then
      some (.inr (.inr (e15, true)))
    else
      some (.inl (W (v7 + 1)))
  else
    some (.inr (.inl v7))
def m_R01_street (b_ : TBylaw) (lamp : Int) : Option (TStreet × Bool) :=
  Option.bind (loopF (m_R01_street_L1 b_ lamp) 0) fun e =>
  match e with
  | .inl v20 =>
    some ((⟨0, 0, 0, 0, 0⟩ : TStreet), false)
  | .inr rr21 =>
    some rr21
theorem d_R01_street (b_ : TBylaw) (lamp : Int) (r : (TStreet × Bool)) (hm : m_R01_street b_ lamp = some r) : Does Tryz.prog 28 [.agg (TBylaw.c b_), DI lamp] (fun x => x = .tup [.agg (TStreet.c r.1), DB r.2]) := by
  refine does_zy (X := ⟨Tryz.prog, tt, Tryz.f28.ntmps, [], [], [], [], [70], []⟩) pok _ Tryz.func28 rfl rfl (Nat.le_of_ble_eq_true rfl) ?_
  obtain ⟨ev22, he, hk23⟩ := bd_some hm
  refine LoopY.ofL (m_R01_street_L1 b_ lamp) (fun v7 => ⟨[(0, .agg [lD 11 b_.Versions TVersion.c, lD 5 b_.Streets TStreet.c]), (1, DI lamp), (2, .own 0 0), (4, .own 1 0), (5, DB false), (9, lD 5 b_.Streets TStreet.c), (10, DI (b_.Streets.length : Int)), (11, DI v7)], [(0, .blk [lD 11 b_.Versions TVersion.c, lD 5 b_.Streets TStreet.c] 25), (1, .blk [DI 0, DI 0, DI 0, DI 0, DI 0] 42)], 2⟩) 0 (SubY.of 2 rfl ⟨tR rfl, tR rfl, tR rfl, tR rfl, tR rfl, tR rfl, tR rfl, tR rfl, trivial⟩ ⟨hR rfl, hR rfl, trivial⟩) he ?_
  rintro fu24 v7 b hm hi25
  revert hm
  refine VIf.b (fun h26 hm => ?_) (fun h26 hm => ?_)
  obtain ⟨e27, hx28, hm⟩ := bd_some hm
  refine ⟨_, el_idx (fun _ => rfl) hx28, ?_⟩
  obtain ⟨x29, hx30, hm⟩ := bd_some hm
  refine CallY.det (d_R01_Within lamp e27.First (W ((W (e27.First + e27.Many)) - 1)) _ hx30) ?_
  revert hm
  refine VIf.b (fun h31 hm => ?_) (fun h31 hm => ?_)
  cases hm
  cases hi25
  have hm := hk23
  cases hm
  exact RetY.le (leD.refl _)
  cases hm
  exact ⟨(_, (W (v7 + 1))), SubY.of 2 rfl ⟨tR rfl, tR rfl, tR rfl, tR rfl, tR rfl, tR rfl, tR rfl, tR rfl, trivial⟩ ⟨hR rfl, hR rfl, trivial⟩, hi25, Nat.lt_succ_self _⟩
  cases hm
  cases hi25
  have hm := hk23
  cases hm
  exact RetY.le (leD.refl _)

def m_R01_Street (b_ : TBylaw) (lamp : Int) : Option (TStreet × Int) :=
  Option.bind (m_R01_Check b_) fun x1 =>
  if (x1 != 0) = true then
    some ((⟨0, 0, 0, 0, 0⟩ : TStreet), x1)
  else
    Option.bind (m_R01_street b_ lamp) fun ⟨x4, x5⟩ =>
    if (!x5) = true then
      some ((⟨0, 0, 0, 0, 0⟩ : TStreet), 15)
    else
      some (x4, 0)
theorem d_R01_Street (b_ : TBylaw) (lamp : Int) (r : (TStreet × Int)) (hm : m_R01_Street b_ lamp = some r) : Does Tryz.prog 9 [.agg (TBylaw.c b_), DI lamp] (fun x => x = .tup [.agg (TStreet.c r.1), DI r.2]) := by
  refine does_zy (X := ⟨Tryz.prog, tt, Tryz.f9.ntmps, [], [], [], [], [70], []⟩) pok _ Tryz.func9 rfl rfl (Nat.le_of_ble_eq_true rfl) ?_
  obtain ⟨x1, hx2, hm⟩ := bd_some hm
  refine CallY.det (d_R01_Check b_ _ hx2) ?_
  revert hm
  refine VIf.b (fun h3 hm => ?_) (fun h3 hm => ?_)
  cases hm
  exact RetY.le (leD.refl _)
  obtain ⟨⟨x4, x5⟩, hx6, hm⟩ := bd_some hm
  refine CallY.det (d_R01_street b_ lamp _ hx6) ?_
  revert hm
  refine VIf.b (fun h7 hm => ?_) (fun h7 hm => ?_)
  cases hm
  exact RetY.le (leD.refl _)
  cases hm
  exact RetY.le (leD.refl _)

def m_bylaw_lamps (b_ : TBylaw) (district : Int) : Option (TBylaw × Int) :=
  some (b_, district)
theorem d_bylaw_lamps (b_ : TBylaw) (district : Int) (r : (TBylaw × Int)) (hm : m_bylaw_lamps b_ district = some r) : Does Tryz.prog 30 [.agg (TBylaw.c b_), DI district] (fun x => x = .fn 56 [] [.ptr [lD 11 r.1.Versions TVersion.c, lD 5 r.1.Streets TStreet.c] 0, .ptr [DI r.2] 0]) := by
  refine does_zy (X := ⟨Tryz.prog, tt, Tryz.f30.ntmps, [], [], [], [], [70], []⟩) pok _ Tryz.func30 rfl rfl (Nat.le_of_ble_eq_true rfl) ?_
  cases hm
  exact RetY.le (leD.refl _)

def en_bylaw_lamps_1 (x : Int) : List D := [DI x]
def it_bylaw_lamps_1_L1 (c_0 : TBylaw) (c_1 : Int) : Int → Option (List Int × Sum Int Int) := fun lamp9 =>
  if (decide (lamp9 ≤ 999)) = true then
    Option.bind (m_bylaw_streetOf c_0 lamp9) fun ⟨x20, x21⟩ =>
    if (x21 == 0) = true then
      if (c_1 == 0) = true then
        emit lamp9 <|
        some ([], .inl (W (lamp9 + 1)))
      else
        if (x20.District == c_1) = true then
          emit lamp9 <|
          some ([], .inl (W (lamp9 + 1)))
        else
          some ([], .inl (W (lamp9 + 1)))
    else
      some ([], .inl (W (lamp9 + 1)))
  else
    some ([], .inr lamp9)
def it_bylaw_lamps_1 (c_0 : TBylaw) (c_1 : Int) : Option (List Int × Unit) :=
  bindI (loopIF (it_bylaw_lamps_1_L1 c_0 c_1) 1) fun lamp28 =>
  some ([], ())
theorem i_bylaw_lamps_1 (c_0 : TBylaw) (c_1 : Int) (xs : List Int) (hm : it_bylaw_lamps_1 c_0 c_1 = some (xs, ())) : DoesIt Tryz.prog 56 [.ptr [lD 11 c_0.Versions TVersion.c, lD 5 c_0.Streets TStreet.c] 0, .ptr [DI c_1] 0] (xs.map en_bylaw_lamps_1) := by
  refine does_zit (X := ⟨Tryz.prog, tt, Tryz.f56.ntmps, [], [], [], [], [], []⟩) pok _ _ [] Tryz.func56 rfl rfl (Nat.le_of_ble_eq_true rfl) rfl ?_
  intro l
  obtain ⟨r, hr⟩ : ∃ r : List Int × Unit, r = (xs, ()) := ⟨_, rfl⟩
  rw [← hr] at hm
  have hp : Hp3 en_bylaw_lamps_1 [] r.1 [] (xs.map en_bylaw_lamps_1) := ⟨by rw [hr]; simp⟩
  clear hr
  obtain ⟨ev29, rr33, he, hk30, hb1, hb2⟩ := bindI_some hm
  replace hp := hp.in1 hb1
  clear hb1 hb2
  refine LoopI.of (fun (lpx : Nat × Int) => match lpx with | (fu31, lamp9) => (⟨[(0, .v (.func (.yield l) #[] #[])), (1, .ptr [lD 11 c_0.Versions TVersion.c, lD 5 c_0.Streets TStreet.c] 0), (2, .ptr [DI c_1] 0), (4, DI lamp9)], [], 0⟩ : Sy)) (fun lpx q => ∃ e, loopIO (it_bylaw_lamps_1_L1 c_0 c_1) lpx.1 lpx.2 = some e ∧ Hp3 en_bylaw_lamps_1 q e.1 _ _ ∧ e.2 = ev29.2) (fun lpx => lpx.1) (FUEL, 1) ⟨_, he, hp, rfl⟩ (SubY.of 0 rfl ⟨tR rfl, tR rfl, tR rfl, tR rfl, trivial⟩ trivial) ?_
  clear hp he
  rintro ⟨fu31, lamp9⟩ q ⟨el35, hi32, hp, hx36⟩
  obtain ⟨fu31, b, tl, rfl, hm, hb1, hi32⟩ := loopI_step hi32
  replace hp := hp.in1 hb1
  clear hb1
  have hq : b.2 = b.2 := rfl
  revert hm
  refine VIf.b (fun h38 hm => ?_) (fun h38 hm => ?_)
  obtain ⟨⟨x39, x40⟩, hx41, hm⟩ := bd_some hm
  refine CallY.det (d_bylaw_streetOf c_0 lamp9 _ hx41) ?_
  revert hm
  refine VIf.b (fun h42 hm => ?_) (fun h42 hm => ?_)
  revert hm
  refine VIf.b (fun h43 hm => ?_) (fun h43 hm => ?_)
  obtain ⟨rb44, hm, hb1, hb2⟩ := emit_some hm
  refine YieldY.of (x' := en_bylaw_lamps_1 lamp9) rfl rfl (RetY.le (leD.refl _)) (hp.pre hb1) ?_ ?_
  replace hp := hp.emit hb1
  replace hq := hq.trans hb2
  cases hm
  rw [hq] at hi32
  obtain ⟨e2, hm, rfl, ht⟩ := hi32
  exact ⟨(fu31, (W (lamp9 + 1))), _, SubY.of 0 rfl ⟨tR rfl, tR rfl, tR rfl, tR rfl, trivial⟩ trivial, rfl, ⟨_, hm, hp.out rfl, ht.symm.trans hx36⟩, Nat.lt_succ_self _⟩
  exact .inl rfl
  revert hm
  refine VIf.b (fun h45 hm => ?_) (fun h45 hm => ?_)
  obtain ⟨rb46, hm, hb1, hb2⟩ := emit_some hm
  refine YieldY.of (x' := en_bylaw_lamps_1 lamp9) rfl rfl (RetY.le (leD.refl _)) (hp.pre hb1) ?_ ?_
  replace hp := hp.emit hb1
  replace hq := hq.trans hb2
  cases hm
  rw [hq] at hi32
  obtain ⟨e2, hm, rfl, ht⟩ := hi32
  exact ⟨(fu31, (W (lamp9 + 1))), _, SubY.of 0 rfl ⟨tR rfl, tR rfl, tR rfl, tR rfl, trivial⟩ trivial, rfl, ⟨_, hm, hp.out rfl, ht.symm.trans hx36⟩, Nat.lt_succ_self _⟩
  exact .inl rfl
  cases hm
  rw [hq] at hi32
  obtain ⟨e2, hm, rfl, ht⟩ := hi32
  exact ⟨(fu31, (W (lamp9 + 1))), _, SubY.of 0 rfl ⟨tR rfl, tR rfl, tR rfl, tR rfl, trivial⟩ trivial, rfl, ⟨_, hm, hp.out rfl, ht.symm.trans hx36⟩, Nat.lt_succ_self _⟩
  cases hm
  rw [hq] at hi32
  obtain ⟨e2, hm, rfl, ht⟩ := hi32
  exact ⟨(fu31, (W (lamp9 + 1))), _, SubY.of 0 rfl ⟨tR rfl, tR rfl, tR rfl, tR rfl, trivial⟩ trivial, rfl, ⟨_, hm, hp.out rfl, ht.symm.trans hx36⟩, Nat.lt_succ_self _⟩
  cases hm
  rw [hq] at hi32
  obtain ⟨rfl, ht⟩ := hi32
  replace hp := (hp.out (l' := []) rfl).out rfl
  have hm := hk30
  try rw [← hx36, ht] at hm
  clear hq
  cases hm
  exact .inr (congrArg some (hp.done rfl))

def m_slices_AppendSeq_int_int__nil__bylaw_lamps_1_L1 : (List Int) → Int → Option (Sum (List Int) Unit) := fun v2 y1 =>
  gd ((v2.length + ([y1] : List Int).length) * 8 ≤ 140737488355328 ∧ v2.length + ([y1] : List Int).length ≤ 9223372036854775807) <|
  some (.inl (v2 ++ ([y1] : List Int)))
def m_slices_AppendSeq_int_int__nil__bylaw_lamps_1 (c1_0 : TBylaw) (c1_1 : Int) : Option (List Int) :=
  Option.bind (it_bylaw_lamps_1 c1_0 c1_1) fun l3 =>
  Option.bind (rangeF m_slices_AppendSeq_int_int__nil__bylaw_lamps_1_L1 l3.1 []) fun e =>
  match e with
  | .inl v4 =>
    some v4
  | .inr _ => none
theorem d_slices_AppendSeq_int_int__nil__bylaw_lamps_1 (c1_0 : TBylaw) (c1_1 : Int) (r : (List Int)) (hm : m_slices_AppendSeq_int_int__nil__bylaw_lamps_1 c1_0 c1_1 = some r) : Does Tryz.prog 55 [.v (.slice none 0 0), .fn 56 [] [.ptr [lD 11 c1_0.Versions TVersion.c, lD 5 c1_0.Streets TStreet.c] 0, .ptr [DI c1_1] 0]] (fun x => x = lD 1 r cI) := by
  refine does_zr (X := ⟨Tryz.prog, tt, Tryz.f55.ntmps, [], [], [], [], [70], []⟩) pok _ Tryz.func55 rfl rfl (Nat.le_of_ble_eq_true rfl) ?_
  intro ds
  intro ds
  obtain ⟨l3, hl6, hm⟩ := bd_some hm
  obtain ⟨ev5, he, hm⟩ := bd_some hm
  refine RangeY.ofZ (E := Unit) en_bylaw_lamps_1 l3.1 m_slices_AppendSeq_int_int__nil__bylaw_lamps_1_L1 (fun (lpx : (List Int)) => match lpx with | v2 => (⟨[(0, .v (.slice none 0 0)), (1, .fn 56 [] [.ptr [lD 11 c1_0.Versions TVersion.c, lD 5 c1_0.Streets TStreet.c] 0, .ptr [DI c1_1] 0]), (2, .own 0 0), (4, .v (.slice none 0 0))], [(0, .blk [.row 1 1] 28), (1, rE 1 v2 cI 3)], 2⟩ : Sy)) (fun (_ : Unit) => (⟨[], [], 0⟩ : Sy)) (fun _ => .ret) [] ev5 [0, 1, 2, 4] (i_bylaw_lamps_1 c1_0 c1_1 l3.1 hl6) he (enters_f pok Tryz.func56 rfl) rfl rfl (fun _ => rfl) rfl rfl rfl (by rintro v2; rfl) (by intro _; rfl) (SubY.of 1 rfl ⟨tR rfl, tR rfl, tR rfl, tR rfl, trivial⟩ ⟨hR rfl, ⟨rfl, rfl⟩, trivial⟩) ?_ ?_ (fun _ => .inl rfl) ?_
  rintro v4 rfl
  intro ds
  intro ds
  cases hm
  exact RetY.le (leD.refl _)
  rintro _ rfl
  cases hm
  clear he hm
  rintro v2 y1 b hm
  refine ⟨([y1] : List Int).flatMap cI, ([y1] : List Int).length, ⟨rfl, rfl⟩, ?_⟩
  obtain ⟨hg, hm⟩ := gd_some hm
  refine ⟨hg, _, _, flat_app (c := cI) (l := (v2 : List Int)) (r := (([y1] : List Int) : List Int)), ?_⟩
  cases hm
  exact ⟨(v2 ++ ([y1] : List Int)), rfl, SubY.of 2 rfl ⟨tR rfl, tR rfl, tR rfl, tR rfl, trivial⟩ ⟨hR rfl, hW rfl, trivial⟩⟩

def m_slices_Collect_int__bylaw_lamps_1 (c0_0 : TBylaw) (c0_1 : Int) : Option (List Int) :=
  Option.bind (m_slices_AppendSeq_int_int__nil__bylaw_lamps_1 c0_0 c0_1) fun x1 =>
  some x1
theorem d_slices_Collect_int__bylaw_lamps_1 (c0_0 : TBylaw) (c0_1 : Int) (r : (List Int)) (hm : m_slices_Collect_int__bylaw_lamps_1 c0_0 c0_1 = some r) : Does Tryz.prog 29 [.fn 56 [] [.ptr [lD 11 c0_0.Versions TVersion.c, lD 5 c0_0.Streets TStreet.c] 0, .ptr [DI c0_1] 0]] (fun x => x = lD 1 r cI) := by
  refine does_zy (X := ⟨Tryz.prog, tt, Tryz.f29.ntmps, [], [], [], [], [70], []⟩) pok _ Tryz.func29 rfl rfl (Nat.le_of_ble_eq_true rfl) ?_
  obtain ⟨x1, hx2, hm⟩ := bd_some hm
  refine CallY.det (d_slices_AppendSeq_int_int__nil__bylaw_lamps_1 c0_0 c0_1 _ hx2) ?_
  cases hm
  exact RetY.le (leD.refl _)

def m_bylaw_Lamps (b_ : TBylaw) : Option ((List Int) × Int) :=
  Option.bind (m_bylaw_Check b_) fun x1 =>
  if (x1 != 0) = true then
    some ([], x1)
  else
    Option.bind (m_bylaw_lamps b_ 0) fun ⟨x4, x5⟩ =>
    Option.bind (m_slices_Collect_int__bylaw_lamps_1 x4 x5) fun x7 =>
    some (x7, 0)
theorem d_bylaw_Lamps (b_ : TBylaw) (r : ((List Int) × Int)) (hm : m_bylaw_Lamps b_ = some r) : Does Tryz.prog 10 [.agg (TBylaw.c b_)] (fun x => x = .tup [lD 1 r.1 cI, DI r.2]) := by
  refine does_zy (X := ⟨Tryz.prog, tt, Tryz.f10.ntmps, [], [], [], [], [70], []⟩) pok _ Tryz.func10 rfl rfl (Nat.le_of_ble_eq_true rfl) ?_
  obtain ⟨x1, hx2, hm⟩ := bd_some hm
  refine CallY.det (d_bylaw_Check b_ _ hx2) ?_
  revert hm
  refine VIf.b (fun h3 hm => ?_) (fun h3 hm => ?_)
  cases hm
  exact RetY.le (⟨_, rfl, ⟨leD.nil, leD.refl _, trivial⟩⟩)
  obtain ⟨⟨x4, x5⟩, hx6, hm⟩ := bd_some hm
  refine CallY.det (d_bylaw_lamps b_ 0 _ hx6) ?_
  obtain ⟨x7, hx8, hm⟩ := bd_some hm
  refine CallY.det (d_slices_Collect_int__bylaw_lamps_1 x4 x5 _ hx8) ?_
  cases hm
  exact RetY.le (leD.refl _)

def m_R01_lamps_L1 (b_ : TBylaw) (district : Int) : ((List Int) × Int × (List Int)) → Option (Sum ((List Int) × Int × (List Int)) ((List Int) × Int × (List Int))) := fun (out7, lamp8, out9) =>
  if (decide (lamp8 ≤ 999)) = true then
    Option.bind (m_R01_street b_ lamp8) fun ⟨x18, x19⟩ =>
    if x19 = true then
      if (district == 0) = true then
        gd ((out9.length + ([lamp8] : List Int).length) * 8 ≤ 140737488355328 ∧ out9.length + ([lamp8] : List Int).length ≤ 9223372036854775807) <|
        some (.inl (out7, (W (lamp8 + 1)), (out9 ++ ([lamp8] : List Int))))
      else
        if (x18.District == district) = true then
          gd ((out9.length + ([lamp8] : List Int).length) * 8 ≤ 140737488355328 ∧ out9.length + ([lamp8] : List Int).length ≤ 9223372036854775807) <|
          some (.inl (out7, (W (lamp8 + 1)), (out9 ++ ([lamp8] : List Int))))
        else
          some (.inl (out7, (W (lamp8 + 1)), out9))
    else
      some (.inl (out7, (W (lamp8 + 1)), out9))
  else
    some (.inr (out7, lamp8, out9))
def m_R01_lamps (b_ : TBylaw) (district : Int) : Option (List Int) :=
  Option.bind (loopF (m_R01_lamps_L1 b_ district) ([], 1, [])) fun (out24, lamp25, out26) =>
  some out26
theorem d_R01_lamps (b_ : TBylaw) (district : Int) (r : (List Int)) (hm : m_R01_lamps b_ district = some r) : Does Tryz.prog 31 [.agg (TBylaw.c b_), DI district] (fun x => x = lD 1 r cI) := by
  refine does_zy (X := ⟨Tryz.prog, tt, Tryz.f31.ntmps, [], [], [], [], [70], []⟩) pok _ Tryz.func31 rfl rfl (Nat.le_of_ble_eq_true rfl) ?_
  obtain ⟨ev27, he, hk28⟩ := bd_some hm
  refine LoopY.ofL (m_R01_lamps_L1 b_ district) (fun (out7, lamp8, out9) => ⟨[(0, .agg [lD 11 b_.Versions TVersion.c, lD 5 b_.Streets TStreet.c]), (1, DI district), (2, .own 0 0), (4, .v (.slice none 0 0)), (5, .row 2 1), (6, DI lamp8)], [(0, .blk [lD 11 b_.Versions TVersion.c, lD 5 b_.Streets TStreet.c] 25), (1, rE 1 out7 cI 3), (2, rE 1 out9 cI 3)], 3⟩) ([], 1, []) (SubY.of 1 rfl ⟨tR rfl, tR rfl, tR rfl, tR rfl, tR rfl, tR rfl, trivial⟩ ⟨hR rfl, ⟨rfl, rfl⟩, ⟨rfl, rfl⟩, trivial⟩) he ?_
  rintro fu29 ⟨out7, lamp8, out9⟩ b hm hi30
  revert hm
  refine VIf.b (fun h31 hm => ?_) (fun h31 hm => ?_)
  obtain ⟨⟨x32, x33⟩, hx34, hm⟩ := bd_some hm
  refine CallY.det (d_R01_street b_ lamp8 _ hx34) ?_
  revert hm
  refine VIf.b (fun h35 hm => ?_) (fun h35 hm => ?_)
  revert hm
  refine VIf.b (fun h36 hm => ?_) (fun h36 hm => ?_)
  refine ⟨([lamp8] : List Int).flatMap cI, ([lamp8] : List Int).length, ⟨rfl, rfl⟩, ?_⟩
  obtain ⟨hg, hm⟩ := gd_some hm
  refine ⟨hg, _, _, flat_app (c := cI) (l := (out9 : List Int)) (r := (([lamp8] : List Int) : List Int)), ?_⟩
  cases hm
  exact ⟨(_, (out7, (W (lamp8 + 1)), (out9 ++ ([lamp8] : List Int)))), SubY.of 3 rfl ⟨tR rfl, tR rfl, tR rfl, tR rfl, tR rfl, tR rfl, trivial⟩ ⟨hR rfl, hW rfl, hW rfl, trivial⟩, hi30, Nat.lt_succ_self _⟩
  revert hm
  refine VIf.b (fun h37 hm => ?_) (fun h37 hm => ?_)
  refine ⟨([lamp8] : List Int).flatMap cI, ([lamp8] : List Int).length, ⟨rfl, rfl⟩, ?_⟩
  obtain ⟨hg, hm⟩ := gd_some hm
  refine ⟨hg, _, _, flat_app (c := cI) (l := (out9 : List Int)) (r := (([lamp8] : List Int) : List Int)), ?_⟩
  cases hm
  exact ⟨(_, (out7, (W (lamp8 + 1)), (out9 ++ ([lamp8] : List Int)))), SubY.of 3 rfl ⟨tR rfl, tR rfl, tR rfl, tR rfl, tR rfl, tR rfl, trivial⟩ ⟨hR rfl, hW rfl, hW rfl, trivial⟩, hi30, Nat.lt_succ_self _⟩
  cases hm
  exact ⟨(_, (out7, (W (lamp8 + 1)), out9)), SubY.of 3 rfl ⟨tR rfl, tR rfl, tR rfl, tR rfl, tR rfl, tR rfl, trivial⟩ ⟨hR rfl, hW rfl, hW rfl, trivial⟩, hi30, Nat.lt_succ_self _⟩
  cases hm
  exact ⟨(_, (out7, (W (lamp8 + 1)), out9)), SubY.of 3 rfl ⟨tR rfl, tR rfl, tR rfl, tR rfl, tR rfl, tR rfl, trivial⟩ ⟨hR rfl, hW rfl, hW rfl, trivial⟩, hi30, Nat.lt_succ_self _⟩
  cases hm
  cases hi30
  have hm := hk28
  cases hm
  exact RetY.le (leD.refl _)

def m_R01_Lamps (b_ : TBylaw) : Option ((List Int) × Int) :=
  Option.bind (m_R01_Check b_) fun x1 =>
  if (x1 != 0) = true then
    some ([], x1)
  else
    Option.bind (m_R01_lamps b_ 0) fun x4 =>
    some (x4, 0)
theorem d_R01_Lamps (b_ : TBylaw) (r : ((List Int) × Int)) (hm : m_R01_Lamps b_ = some r) : Does Tryz.prog 11 [.agg (TBylaw.c b_)] (fun x => x = .tup [lD 1 r.1 cI, DI r.2]) := by
  refine does_zy (X := ⟨Tryz.prog, tt, Tryz.f11.ntmps, [], [], [], [], [70], []⟩) pok _ Tryz.func11 rfl rfl (Nat.le_of_ble_eq_true rfl) ?_
  obtain ⟨x1, hx2, hm⟩ := bd_some hm
  refine CallY.det (d_R01_Check b_ _ hx2) ?_
  revert hm
  refine VIf.b (fun h3 hm => ?_) (fun h3 hm => ?_)
  cases hm
  exact RetY.le (⟨_, rfl, ⟨leD.nil, leD.refl _, trivial⟩⟩)
  obtain ⟨x4, hx5, hm⟩ := bd_some hm
  refine CallY.det (d_R01_lamps b_ 0 _ hx5) ?_
  cases hm
  exact RetY.le (leD.refl _)

def m_bylaw_District (b_ : TBylaw) (district : Int) : Option ((List Int) × Int) :=
  Option.bind (m_bylaw_Check b_) fun x1 =>
  if (x1 != 0) = true then
    some ([], x1)
  else
    Option.bind (m_bylaw_in district 1 9) fun x4 =>
    if (!x4) = true then
      some ([], 1)
    else
      Option.bind (m_bylaw_lamps b_ district) fun ⟨x7, x8⟩ =>
      Option.bind (m_slices_Collect_int__bylaw_lamps_1 x7 x8) fun x10 =>
      some (x10, 0)
theorem d_bylaw_District (b_ : TBylaw) (district : Int) (r : ((List Int) × Int)) (hm : m_bylaw_District b_ district = some r) : Does Tryz.prog 12 [.agg (TBylaw.c b_), DI district] (fun x => x = .tup [lD 1 r.1 cI, DI r.2]) := by
  refine does_zy (X := ⟨Tryz.prog, tt, Tryz.f12.ntmps, [], [], [], [], [70], []⟩) pok _ Tryz.func12 rfl rfl (Nat.le_of_ble_eq_true rfl) ?_
  obtain ⟨x1, hx2, hm⟩ := bd_some hm
  refine CallY.det (d_bylaw_Check b_ _ hx2) ?_
  revert hm
  refine VIf.b (fun h3 hm => ?_) (fun h3 hm => ?_)
  cases hm
  exact RetY.le (⟨_, rfl, ⟨leD.nil, leD.refl _, trivial⟩⟩)
  obtain ⟨x4, hx5, hm⟩ := bd_some hm
  refine CallY.det (d_bylaw_in district 1 9 _ hx5) ?_
  revert hm
  refine VIf.b (fun h6 hm => ?_) (fun h6 hm => ?_)
  cases hm
  exact RetY.le (⟨_, rfl, ⟨leD.nil, leD.refl _, trivial⟩⟩)
  obtain ⟨⟨x7, x8⟩, hx9, hm⟩ := bd_some hm
  refine CallY.det (d_bylaw_lamps b_ district _ hx9) ?_
  obtain ⟨x10, hx11, hm⟩ := bd_some hm
  refine CallY.det (d_slices_Collect_int__bylaw_lamps_1 x7 x8 _ hx11) ?_
  cases hm
  exact RetY.le (leD.refl _)

def m_R01_District (b_ : TBylaw) (district : Int) : Option ((List Int) × Int) :=
  Option.bind (m_R01_Check b_) fun x1 =>
  if (x1 != 0) = true then
    some ([], x1)
  else
    Option.bind (m_R01_Within district 1 9) fun x4 =>
    if (!x4) = true then
      some ([], 1)
    else
      Option.bind (m_R01_lamps b_ district) fun x7 =>
      some (x7, 0)
theorem d_R01_District (b_ : TBylaw) (district : Int) (r : ((List Int) × Int)) (hm : m_R01_District b_ district = some r) : Does Tryz.prog 13 [.agg (TBylaw.c b_), DI district] (fun x => x = .tup [lD 1 r.1 cI, DI r.2]) := by
  refine does_zy (X := ⟨Tryz.prog, tt, Tryz.f13.ntmps, [], [], [], [], [70], []⟩) pok _ Tryz.func13 rfl rfl (Nat.le_of_ble_eq_true rfl) ?_
  obtain ⟨x1, hx2, hm⟩ := bd_some hm
  refine CallY.det (d_R01_Check b_ _ hx2) ?_
  revert hm
  refine VIf.b (fun h3 hm => ?_) (fun h3 hm => ?_)
  cases hm
  exact RetY.le (⟨_, rfl, ⟨leD.nil, leD.refl _, trivial⟩⟩)
  obtain ⟨x4, hx5, hm⟩ := bd_some hm
  refine CallY.det (d_R01_Within district 1 9 _ hx5) ?_
  revert hm
  refine VIf.b (fun h6 hm => ?_) (fun h6 hm => ?_)
  cases hm
  exact RetY.le (⟨_, rfl, ⟨leD.nil, leD.refl _, trivial⟩⟩)
  obtain ⟨x7, hx8, hm⟩ := bd_some hm
  refine CallY.det (d_R01_lamps b_ district _ hx8) ?_
  cases hm
  exact RetY.le (leD.refl _)

def m_R01_Same_L1 (a : (List Int)) (b_ : (List Int)) : Int → Option (Sum Int (Sum Int Bool)) := fun v8 =>
  if (decide (v8 < (a.length : Int))) = true then
    Option.bind (idx a v8) fun e16 =>
    Option.bind (idx b_ v8) fun e18 =>
    if (e16 != e18) = true then
      some (.inr (.inr false))
    else
      some (.inl (W (v8 + 1)))
  else
    some (.inr (.inl v8))
def m_R01_Same (a : (List Int)) (b_ : (List Int)) : Option Bool :=
  if ((a.length : Int) != (b_.length : Int)) = true then
    some false
  else
    Option.bind (loopF (m_R01_Same_L1 a b_) 0) fun e =>
    match e with
    | .inl v21 =>
      some true
    | .inr rr22 =>
      some rr22
theorem d_R01_Same (a : (List Int)) (b_ : (List Int)) (r : Bool) (hm : m_R01_Same a b_ = some r) : Does Tryz.prog 14 [lD 1 a cI, lD 1 b_ cI] (fun x => x = DB r) := by
  refine does_zy (X := ⟨Tryz.prog, tt, Tryz.f14.ntmps, pl14, [], [], [], [70], []⟩) pok _ Tryz.func14 rfl rfl (Nat.le_of_ble_eq_true rfl) ?_
  revert hm
  refine VIf.b (fun h1 hm => ?_) (fun h1 hm => ?_)
  cases hm
  exact RetY.le (leD.refl _)
  obtain ⟨ev23, he, hk24⟩ := bd_some hm
  refine LoopY.ofL (m_R01_Same_L1 a b_) (fun v8 => ⟨[(0, lD 1 a cI), (1, lD 1 b_ cI), (4, DB false), (10, DB ((a.length : Int) != (b_.length : Int))), (12, DI (a.length : Int)), (13, DI v8)], [], 0⟩) 0 (SubY.of 0 rfl ⟨tR rfl, tR rfl, tR rfl, tR rfl, tR rfl, tR rfl, trivial⟩ trivial) he ?_
  rintro fu25 v8 b hm hi26
  revert hm
  refine VIf.b (fun h27 hm => ?_) (fun h27 hm => ?_)
  refine ⟨rfl, ?_⟩
  obtain ⟨e28, hx29, hm⟩ := bd_some hm
  refine ⟨_, el_idx (fun _ => rfl) hx29, ?_⟩
  obtain ⟨e30, hx31, hm⟩ := bd_some hm
  refine ⟨_, el_idx (fun _ => rfl) hx31, ?_⟩
  revert hm
  refine VIf.b (fun h32 hm => ?_) (fun h32 hm => ?_)
  cases hm
  cases hi26
  have hm := hk24
  cases hm
  exact RetY.le (leD.refl _)
  cases hm
  exact ⟨(_, (W (v8 + 1))), SubY.of 0 rfl ⟨tR rfl, tR rfl, tR rfl, tR rfl, tR rfl, tR rfl, trivial⟩ trivial, hi26, Nat.lt_succ_self _⟩
  cases hm
  cases hi26
  have hm := hk24
  cases hm
  exact RetY.le (leD.refl _)

def m_L01_act : Option TBylaw :=
  some (⟨([(⟨1, 1, 0, (⟨0, 40⟩ : TRange), (⟨10, 50⟩ : TRange), 600, 30, 0, 0⟩ : TVersion), (⟨2, 1, 100, (⟨10, 30⟩ : TRange), (⟨10, 50⟩ : TRange), 1001, 30, 90, 0⟩ : TVersion), (⟨5, 2, 0, (⟨20, 25⟩ : TRange), (⟨0, 5⟩ : TRange), 0, 0, 0, 200⟩ : TVersion)] : List TVersion), ([(⟨1, 1, 1, 10, 3⟩ : TStreet), (⟨2, 2, 1, 20, 1⟩ : TStreet)] : List TStreet)⟩ : TBylaw)
theorem d_L01_act (r : TBylaw) (hm : m_L01_act  = some r) : Does Tryz.prog 32 [] (fun x => x = .agg (TBylaw.c r)) := by
  refine does_zy (X := ⟨Tryz.prog, tt, Tryz.f32.ntmps, [], [], [], [], [70], []⟩) pok _ Tryz.func32 rfl rfl (Nat.le_of_ble_eq_true rfl) ?_
  refine ⟨([(⟨1, 1, 0, (⟨0, 40⟩ : TRange), (⟨10, 50⟩ : TRange), 600, 30, 0, 0⟩ : TVersion), (⟨2, 1, 100, (⟨10, 30⟩ : TRange), (⟨10, 50⟩ : TRange), 1001, 30, 90, 0⟩ : TVersion), (⟨5, 2, 0, (⟨20, 25⟩ : TRange), (⟨0, 5⟩ : TRange), 0, 0, 0, 200⟩ : TVersion)] : List TVersion).flatMap TVersion.c, ([(⟨1, 1, 0, (⟨0, 40⟩ : TRange), (⟨10, 50⟩ : TRange), 600, 30, 0, 0⟩ : TVersion), (⟨2, 1, 100, (⟨10, 30⟩ : TRange), (⟨10, 50⟩ : TRange), 1001, 30, 90, 0⟩ : TVersion), (⟨5, 2, 0, (⟨20, 25⟩ : TRange), (⟨0, 5⟩ : TRange), 0, 0, 0, 200⟩ : TVersion)] : List TVersion).length, ⟨rfl, rfl⟩, ?_⟩
  refine ⟨([(⟨1, 1, 1, 10, 3⟩ : TStreet), (⟨2, 2, 1, 20, 1⟩ : TStreet)] : List TStreet).flatMap TStreet.c, ([(⟨1, 1, 1, 10, 3⟩ : TStreet), (⟨2, 2, 1, 20, 1⟩ : TStreet)] : List TStreet).length, ⟨rfl, rfl⟩, ?_⟩
  cases hm
  exact RetY.le (leD.refl _)

def m_L01_night : Option TNight :=
  some (⟨50, (⟨300, 310⟩ : TRange), (⟨1080, 1085⟩ : TRange), (⟨500, 700⟩ : TRange), 0⟩ : TNight)
theorem d_L01_night (r : TNight) (hm : m_L01_night  = some r) : Does Tryz.prog 33 [] (fun x => x = .agg (TNight.c r)) := by
  refine does_zy (X := ⟨Tryz.prog, tt, Tryz.f33.ntmps, [], [], [], [], [70], []⟩) pok _ Tryz.func33 rfl rfl (Nat.le_of_ble_eq_true rfl) ?_
  cases hm
  exact RetY.le (leD.refl _)

def m_bylaw_CheckNight (n : TNight) : Option Int :=
  Option.bind (m_bylaw_isNight n.No) fun x1 =>
  if (!x1) = true then
    some 12
  else
    Option.bind (m_bylaw_isRange n.Set 1439) fun x4 =>
    if (!x4) = true then
      some 12
    else
      Option.bind (m_bylaw_isRange n.Rise 1439) fun x7 =>
      if (!x7) = true then
        some 12
      else
        if (decide (n.Set.Hi > n.Rise.Lo)) = true then
          some 12
        else
          Option.bind (m_bylaw_isRange n.Light 1000) fun x11 =>
          if (!x11) = true then
            some 12
          else
            Option.bind (m_bylaw_in n.Fog 0 2) fun x14 =>
            if (!x14) = true then
              some 12
            else
              some 0
theorem d_bylaw_CheckNight (n : TNight) (r : Int) (hm : m_bylaw_CheckNight n = some r) : Does Tryz.prog 63 [.agg (TNight.c n)] (fun x => x = DI r) := by
  refine does_zy (X := ⟨Tryz.prog, tt, Tryz.f63.ntmps, [], [], [], [], [70], []⟩) pok _ Tryz.func63 rfl rfl (Nat.le_of_ble_eq_true rfl) ?_
  obtain ⟨x1, hx2, hm⟩ := bd_some hm
  refine CallY.det (d_bylaw_isNight n.No _ hx2) ?_
  revert hm
  refine VIf.b (fun h3 hm => ?_) (fun h3 hm => ?_)
  cases hm
  exact RetY.le (leD.refl _)
  obtain ⟨x4, hx5, hm⟩ := bd_some hm
  refine CallY.det (d_bylaw_isRange n.Set 1439 _ hx5) ?_
  revert hm
  refine VIf.b (fun h6 hm => ?_) (fun h6 hm => ?_)
  cases hm
  exact RetY.le (leD.refl _)
  obtain ⟨x7, hx8, hm⟩ := bd_some hm
  refine CallY.det (d_bylaw_isRange n.Rise 1439 _ hx8) ?_
  revert hm
  refine VIf.b (fun h9 hm => ?_) (fun h9 hm => ?_)
  cases hm
  exact RetY.le (leD.refl _)
  revert hm
  refine VIf.b (fun h10 hm => ?_) (fun h10 hm => ?_)
  cases hm
  exact RetY.le (leD.refl _)
  obtain ⟨x11, hx12, hm⟩ := bd_some hm
  refine CallY.det (d_bylaw_isRange n.Light 1000 _ hx12) ?_
  revert hm
  refine VIf.b (fun h13 hm => ?_) (fun h13 hm => ?_)
  cases hm
  exact RetY.le (leD.refl _)
  obtain ⟨x14, hx15, hm⟩ := bd_some hm
  refine CallY.det (d_bylaw_in n.Fog 0 2 _ hx15) ?_
  revert hm
  refine VIf.b (fun h16 hm => ?_) (fun h16 hm => ?_)
  cases hm
  exact RetY.le (leD.refl _)
  cases hm
  exact RetY.le (leD.refl _)

def m_bylaw_known (b_ : TBylaw) (lamp : Int) (n : TNight) (night : Int) : Option (Twindow × Int) :=
  Option.bind (m_bylaw_streetOf b_ lamp) fun ⟨x1, x2⟩ =>
  if (x2 != 0) = true then
    some ((⟨(⟨0, 0, 0, (⟨0, 0⟩ : TRange), (⟨0, 0⟩ : TRange), 0, 0, 0, 0⟩ : TVersion), (⟨0, (⟨0, 0⟩ : TRange), (⟨0, 0⟩ : TRange), (⟨0, 0⟩ : TRange), 0⟩ : TNight)⟩ : Twindow), x2)
  else
    Option.bind (m_bylaw_inForce b_ x1.Class n.No night) fun ⟨x5, x6⟩ =>
    some ((⟨x5, n⟩ : Twindow), x6)
theorem d_bylaw_known (b_ : TBylaw) (lamp : Int) (n : TNight) (night : Int) (r : (Twindow × Int)) (hm : m_bylaw_known b_ lamp n night = some r) : Does Tryz.prog 87 [.agg (TBylaw.c b_), DI lamp, .agg (TNight.c n), DI night] (fun x => x = .tup [.agg (Twindow.c r.1), DI r.2]) := by
  refine does_zy (X := ⟨Tryz.prog, tt, Tryz.f87.ntmps, [], [], [], [], [70], []⟩) pok _ Tryz.func87 rfl rfl (Nat.le_of_ble_eq_true rfl) ?_
  obtain ⟨⟨x1, x2⟩, hx3, hm⟩ := bd_some hm
  refine CallY.det (d_bylaw_streetOf b_ lamp _ hx3) ?_
  revert hm
  refine VIf.b (fun h4 hm => ?_) (fun h4 hm => ?_)
  cases hm
  exact RetY.le (leD.refl _)
  obtain ⟨⟨x5, x6⟩, hx7, hm⟩ := bd_some hm
  refine CallY.det (d_bylaw_inForce b_ x1.Class n.No night _ hx7) ?_
  cases hm
  exact RetY.le (leD.refl _)

def m_bylaw_look (b_ : TBylaw) (lamp : Int) (n : TNight) (night : Int) : Option (Twindow × Int) :=
  Option.bind (m_bylaw_Check b_) fun x1 =>
  if (x1 != 0) = true then
    some ((⟨(⟨0, 0, 0, (⟨0, 0⟩ : TRange), (⟨0, 0⟩ : TRange), 0, 0, 0, 0⟩ : TVersion), (⟨0, (⟨0, 0⟩ : TRange), (⟨0, 0⟩ : TRange), (⟨0, 0⟩ : TRange), 0⟩ : TNight)⟩ : Twindow), x1)
  else
    Option.bind (m_bylaw_CheckNight n) fun x4 =>
    if (x4 != 0) = true then
      some ((⟨(⟨0, 0, 0, (⟨0, 0⟩ : TRange), (⟨0, 0⟩ : TRange), 0, 0, 0, 0⟩ : TVersion), (⟨0, (⟨0, 0⟩ : TRange), (⟨0, 0⟩ : TRange), (⟨0, 0⟩ : TRange), 0⟩ : TNight)⟩ : Twindow), x4)
    else
      Option.bind (m_bylaw_isNight night) fun x7 =>
      if (!x7) = true then
        some ((⟨(⟨0, 0, 0, (⟨0, 0⟩ : TRange), (⟨0, 0⟩ : TRange), 0, 0, 0, 0⟩ : TVersion), (⟨0, (⟨0, 0⟩ : TRange), (⟨0, 0⟩ : TRange), (⟨0, 0⟩ : TRange), 0⟩ : TNight)⟩ : Twindow), 6)
      else
        Option.bind (m_bylaw_known b_ lamp n night) fun ⟨x10, x11⟩ =>
        some (x10, x11)
theorem d_bylaw_look (b_ : TBylaw) (lamp : Int) (n : TNight) (night : Int) (r : (Twindow × Int)) (hm : m_bylaw_look b_ lamp n night = some r) : Does Tryz.prog 57 [.agg (TBylaw.c b_), DI lamp, .agg (TNight.c n), DI night] (fun x => x = .tup [.agg (Twindow.c r.1), DI r.2]) := by
  refine does_zy (X := ⟨Tryz.prog, tt, Tryz.f57.ntmps, [], [], [], [], [70], []⟩) pok _ Tryz.func57 rfl rfl (Nat.le_of_ble_eq_true rfl) ?_
  obtain ⟨x1, hx2, hm⟩ := bd_some hm
  refine CallY.det (d_bylaw_Check b_ _ hx2) ?_
  revert hm
  refine VIf.b (fun h3 hm => ?_) (fun h3 hm => ?_)
  cases hm
  exact RetY.le (leD.refl _)
  obtain ⟨x4, hx5, hm⟩ := bd_some hm
  refine CallY.det (d_bylaw_CheckNight n _ hx5) ?_
  revert hm
  refine VIf.b (fun h6 hm => ?_) (fun h6 hm => ?_)
  cases hm
  exact RetY.le (leD.refl _)
  obtain ⟨x7, hx8, hm⟩ := bd_some hm
  refine CallY.det (d_bylaw_isNight night _ hx8) ?_
  revert hm
  refine VIf.b (fun h9 hm => ?_) (fun h9 hm => ?_)
  cases hm
  exact RetY.le (leD.refl _)
  obtain ⟨⟨x10, x11⟩, hx12, hm⟩ := bd_some hm
  refine CallY.det (d_bylaw_known b_ lamp n night _ hx12) ?_
  cases hm
  exact RetY.le (leD.refl _)

def m_bylaw_window_lit (w : Twindow) : Option Int :=
  if (w.n.Fog == 1) = true then
    some 1
  else
    if (decide (w.n.Light.Hi < w.v.Moon)) = true then
      some 1
    else
      if (w.n.Fog == 0) = true then
        if (decide (w.n.Light.Lo ≥ w.v.Moon)) = true then
          some 0
        else
          some 2
      else
        some 2
theorem d_bylaw_window_lit (w : Twindow) (r : Int) (hm : m_bylaw_window_lit w = some r) : Does Tryz.prog 58 [.agg (Twindow.c w)] (fun x => x = DI r) := by
  refine does_zy (X := ⟨Tryz.prog, tt, Tryz.f58.ntmps, [], [], [], [], [70], []⟩) pok _ Tryz.func58 rfl rfl (Nat.le_of_ble_eq_true rfl) ?_
  revert hm
  refine VIf.b (fun h1 hm => ?_) (fun h1 hm => ?_)
  cases hm
  exact RetY.le (leD.refl _)
  revert hm
  refine VIf.b (fun h2 hm => ?_) (fun h2 hm => ?_)
  cases hm
  exact RetY.le (leD.refl _)
  revert hm
  refine VIf.b (fun h3 hm => ?_) (fun h3 hm => ?_)
  revert hm
  refine VIf.b (fun h4 hm => ?_) (fun h4 hm => ?_)
  cases hm
  exact RetY.le (leD.refl _)
  cases hm
  exact RetY.le (leD.refl _)
  cases hm
  exact RetY.le (leD.refl _)

def m_bylaw_Lit (b_ : TBylaw) (lamp : Int) (n : TNight) (night : Int) : Option (Int × Int) :=
  Option.bind (m_bylaw_look b_ lamp n night) fun ⟨x1, x2⟩ =>
  if (x2 != 0) = true then
    some (0, x2)
  else
    Option.bind (m_bylaw_window_lit x1) fun x5 =>
    some (x5, 0)
theorem d_bylaw_Lit (b_ : TBylaw) (lamp : Int) (n : TNight) (night : Int) (r : (Int × Int)) (hm : m_bylaw_Lit b_ lamp n night = some r) : Does Tryz.prog 34 [.agg (TBylaw.c b_), DI lamp, .agg (TNight.c n), DI night] (fun x => x = .tup [DI r.1, DI r.2]) := by
  refine does_zy (X := ⟨Tryz.prog, tt, Tryz.f34.ntmps, [], [], [], [], [70], []⟩) pok _ Tryz.func34 rfl rfl (Nat.le_of_ble_eq_true rfl) ?_
  obtain ⟨⟨x1, x2⟩, hx3, hm⟩ := bd_some hm
  refine CallY.det (d_bylaw_look b_ lamp n night _ hx3) ?_
  revert hm
  refine VIf.b (fun h4 hm => ?_) (fun h4 hm => ?_)
  cases hm
  exact RetY.le (leD.refl _)
  obtain ⟨x5, hx6, hm⟩ := bd_some hm
  refine CallY.det (d_bylaw_window_lit x1 _ hx6) ?_
  cases hm
  exact RetY.le (leD.refl _)

def m_bylaw_clip (low : Int) (high : Int) : Option TRange :=
  some (⟨(if 0 > low then 0 else low), (if 1439 < high then 1439 else high)⟩ : TRange)
theorem d_bylaw_clip (low : Int) (high : Int) (r : TRange) (hm : m_bylaw_clip low high = some r) : Does Tryz.prog 88 [DI low, DI high] (fun x => x = .agg (TRange.c r)) := by
  refine does_zy (X := ⟨Tryz.prog, tt, Tryz.f88.ntmps, [], [], [], [], [70], []⟩) pok _ Tryz.func88 rfl rfl (Nat.le_of_ble_eq_true rfl) ?_
  cases hm
  exact RetY.le (leD.refl _)

def m_bylaw_window_fog_L1 (w : Twindow) (answers : (List Int)) : Int → Option (Sum Int (Sum Int Int)) := fun v5 =>
  if (decide (v5 < (answers.length : Int))) = true then
    Option.bind (idx answers v5) fun e11 =>
    if (w.n.Fog == e11) = true then
      some (.inr (.inr w.v.Fog))
    else
      some (.inl (W (v5 + 1)))
  else
    some (.inr (.inl v5))
def m_bylaw_window_fog (w : Twindow) (answers : (List Int)) : Option Int :=
  Option.bind (loopF (m_bylaw_window_fog_L1 w answers) 0) fun e =>
  match e with
  | .inl v14 =>
    some 0
  | .inr rr15 =>
    some rr15
theorem d_bylaw_window_fog (w : Twindow) (answers : (List Int)) (r : Int) (hm : m_bylaw_window_fog w answers = some r) : Does Tryz.prog 89 [.agg (Twindow.c w), lD 1 answers cI] (fun x => x = DI r) := by
  refine does_zy (X := ⟨Tryz.prog, tt, Tryz.f89.ntmps, [], [], [], [], [70], []⟩) pok _ Tryz.func89 rfl rfl (Nat.le_of_ble_eq_true rfl) ?_
  obtain ⟨ev16, he, hk17⟩ := bd_some hm
  refine LoopY.ofL (m_bylaw_window_fog_L1 w answers) (fun v5 => ⟨[(0, .agg [DI w.v.Source, DI w.v.Class, DI w.v.From, DI w.v.On.Lo, DI w.v.On.Hi, DI w.v.Off.Lo, DI w.v.Off.Hi, DI w.v.Moon, DI w.v.Fog, DI w.v.Known, DI w.v.Until, DI w.n.No, DI w.n.Set.Lo, DI w.n.Set.Hi, DI w.n.Rise.Lo, DI w.n.Rise.Hi, DI w.n.Light.Lo, DI w.n.Light.Hi, DI w.n.Fog]), (1, lD 1 answers cI), (2, .own 0 0), (4, DI 0), (7, lD 1 answers cI), (8, DI (answers.length : Int)), (9, DI v5)], [(0, .blk [DI w.v.Source, DI w.v.Class, DI w.v.From, DI w.v.On.Lo, DI w.v.On.Hi, DI w.v.Off.Lo, DI w.v.Off.Hi, DI w.v.Moon, DI w.v.Fog, DI w.v.Known, DI w.v.Until, DI w.n.No, DI w.n.Set.Lo, DI w.n.Set.Hi, DI w.n.Rise.Lo, DI w.n.Rise.Hi, DI w.n.Light.Lo, DI w.n.Light.Hi, DI w.n.Fog] 91)], 1⟩) 0 (SubY.of 1 rfl ⟨tR rfl, tR rfl, tR rfl, tR rfl, tR rfl, tR rfl, tR rfl, trivial⟩ ⟨hR rfl, trivial⟩) he ?_
  rintro fu18 v5 b hm hi19
  revert hm
  refine VIf.b (fun h20 hm => ?_) (fun h20 hm => ?_)
  obtain ⟨e21, hx22, hm⟩ := bd_some hm
  refine ⟨_, el_idx (fun _ => rfl) hx22, ?_⟩
  revert hm
  refine VIf.b (fun h23 hm => ?_) (fun h23 hm => ?_)
  cases hm
  cases hi19
  have hm := hk17
  cases hm
  exact RetY.le (leD.refl _)
  cases hm
  exact ⟨(_, (W (v5 + 1))), SubY.of 1 rfl ⟨tR rfl, tR rfl, tR rfl, tR rfl, tR rfl, tR rfl, tR rfl, trivial⟩ ⟨hR rfl, trivial⟩, hi19, Nat.lt_succ_self _⟩
  cases hm
  cases hi19
  have hm := hk17
  cases hm
  exact RetY.le (leD.refl _)

def m_bylaw_window_on (w : Twindow) : Option TRange :=
  Option.bind (m_bylaw_window_fog w ([1] : List Int)) fun x1 =>
  Option.bind (m_bylaw_window_fog w ([1, 2] : List Int)) fun x3 =>
  Option.bind (m_bylaw_clip (W ((W (w.n.Set.Hi + w.v.On.Lo)) - x1)) (W ((W (w.n.Set.Lo + w.v.On.Hi)) - x3))) fun x5 =>
  some x5
theorem d_bylaw_window_on (w : Twindow) (r : TRange) (hm : m_bylaw_window_on w = some r) : Does Tryz.prog 60 [.agg (Twindow.c w)] (fun x => x = .agg (TRange.c r)) := by
  refine does_zy (X := ⟨Tryz.prog, tt, Tryz.f60.ntmps, pl60, [], [], [], [70], []⟩) pok _ Tryz.func60 rfl rfl (Nat.le_of_ble_eq_true rfl) ?_
  refine ⟨rfl, ?_⟩
  refine ⟨?_, ?_⟩
  refine ⟨([1] : List Int).flatMap cI, ([1] : List Int).length, ⟨rfl, rfl⟩, ?_⟩
  refine ⟨?_, ?_⟩
  obtain ⟨x1, hx2, hm⟩ := bd_some hm
  refine CallOwn.det (d_bylaw_window_fog w (([1] : List Int)) _ hx2) ?_
  refine ⟨([1, 2] : List Int).flatMap cI, ([1, 2] : List Int).length, ⟨rfl, rfl⟩, ?_⟩
  obtain ⟨x3, hx4, hm⟩ := bd_some hm
  refine CallOwn.det (d_bylaw_window_fog w (([1, 2] : List Int)) _ hx4) ?_
  obtain ⟨x5, hx6, hm⟩ := bd_some hm
  refine CallY.det (d_bylaw_clip (W ((W (w.n.Set.Hi + w.v.On.Lo)) - x1)) (W ((W (w.n.Set.Lo + w.v.On.Hi)) - x3)) _ hx6) ?_
  cases hm
  exact RetY.le (leD.refl _)
  refine ⟨([1, 2] : List Int).flatMap cI, ([1, 2] : List Int).length, ⟨rfl, rfl⟩, ?_⟩
  obtain ⟨x7, hx8, hm⟩ := bd_some hm
  refine CallOwn.det (d_bylaw_window_fog w (([1] : List Int)) _ hx8) ?_
  obtain ⟨x9, hx10, hm⟩ := bd_some hm
  refine CallOwn.det (d_bylaw_window_fog w (([1, 2] : List Int)) _ hx10) ?_
  obtain ⟨x11, hx12, hm⟩ := bd_some hm
  refine CallY.det (d_bylaw_clip (W ((W (w.n.Set.Hi + w.v.On.Lo)) - x7)) (W ((W (w.n.Set.Lo + w.v.On.Hi)) - x9)) _ hx12) ?_
  cases hm
  exact RetY.le (leD.refl _)
  refine ⟨([1, 2] : List Int).flatMap cI, ([1, 2] : List Int).length, ⟨rfl, rfl⟩, ?_⟩
  refine ⟨([1] : List Int).flatMap cI, ([1] : List Int).length, ⟨rfl, rfl⟩, ?_⟩
  obtain ⟨x13, hx14, hm⟩ := bd_some hm
  refine CallOwn.det (d_bylaw_window_fog w (([1] : List Int)) _ hx14) ?_
  obtain ⟨x15, hx16, hm⟩ := bd_some hm
  refine CallOwn.det (d_bylaw_window_fog w (([1, 2] : List Int)) _ hx16) ?_
  obtain ⟨x17, hx18, hm⟩ := bd_some hm
  refine CallY.det (d_bylaw_clip (W ((W (w.n.Set.Hi + w.v.On.Lo)) - x13)) (W ((W (w.n.Set.Lo + w.v.On.Hi)) - x15)) _ hx18) ?_
  cases hm
  exact RetY.le (leD.refl _)

def m_bylaw_window_minutes__bylaw_window_on (w : Twindow) (c1_0 : Twindow) : Option (TRange × Int) :=
  Option.bind (m_bylaw_window_lit w) fun x1 =>
  if (x1 == 0) = true then
    some ((⟨0, 0⟩ : TRange), 18)
  else
    Option.bind (m_bylaw_window_on c1_0) fun x4 =>
    if (decide (x4.Lo > x4.Hi)) = true then
      some ((⟨0, 0⟩ : TRange), 16)
    else
      some (x4, 0)
theorem d_bylaw_window_minutes__bylaw_window_on (w : Twindow) (c1_0 : Twindow) (r : (TRange × Int)) (hm : m_bylaw_window_minutes__bylaw_window_on w c1_0 = some r) : Does Tryz.prog 59 [.agg (Twindow.c w), .fn 60 [.agg [DI c1_0.v.Source, DI c1_0.v.Class, DI c1_0.v.From, DI c1_0.v.On.Lo, DI c1_0.v.On.Hi, DI c1_0.v.Off.Lo, DI c1_0.v.Off.Hi, DI c1_0.v.Moon, DI c1_0.v.Fog, DI c1_0.v.Known, DI c1_0.v.Until, DI c1_0.n.No, DI c1_0.n.Set.Lo, DI c1_0.n.Set.Hi, DI c1_0.n.Rise.Lo, DI c1_0.n.Rise.Hi, DI c1_0.n.Light.Lo, DI c1_0.n.Light.Hi, DI c1_0.n.Fog]] []] (fun x => x = .tup [.agg (TRange.c r.1), DI r.2]) := by
  refine does_zy (X := ⟨Tryz.prog, tt, Tryz.f59.ntmps, [], [], [], [], [70], []⟩) pok _ Tryz.func59 rfl rfl (Nat.le_of_ble_eq_true rfl) ?_
  obtain ⟨x1, hx2, hm⟩ := bd_some hm
  refine CallY.det (d_bylaw_window_lit w _ hx2) ?_
  revert hm
  refine VIf.b (fun h3 hm => ?_) (fun h3 hm => ?_)
  cases hm
  exact RetY.le (leD.refl _)
  obtain ⟨x4, hx5, hm⟩ := bd_some hm
  refine CallY.det (d_bylaw_window_on c1_0 _ hx5) ?_
  revert hm
  refine VIf.b (fun h6 hm => ?_) (fun h6 hm => ?_)
  cases hm
  exact RetY.le (leD.refl _)
  cases hm
  exact RetY.le (leD.refl _)

def m_bylaw_On (b_ : TBylaw) (lamp : Int) (n : TNight) (night : Int) : Option (TRange × Int) :=
  Option.bind (m_bylaw_look b_ lamp n night) fun ⟨x1, x2⟩ =>
  if (x2 != 0) = true then
    some ((⟨0, 0⟩ : TRange), x2)
  else
    Option.bind (m_bylaw_window_minutes__bylaw_window_on x1 x1) fun ⟨x5, x6⟩ =>
    some (x5, x6)
theorem d_bylaw_On (b_ : TBylaw) (lamp : Int) (n : TNight) (night : Int) (r : (TRange × Int)) (hm : m_bylaw_On b_ lamp n night = some r) : Does Tryz.prog 35 [.agg (TBylaw.c b_), DI lamp, .agg (TNight.c n), DI night] (fun x => x = .tup [.agg (TRange.c r.1), DI r.2]) := by
  refine does_zy (X := ⟨Tryz.prog, tt, Tryz.f35.ntmps, [], [], [], [], [70], []⟩) pok _ Tryz.func35 rfl rfl (Nat.le_of_ble_eq_true rfl) ?_
  obtain ⟨⟨x1, x2⟩, hx3, hm⟩ := bd_some hm
  refine CallY.det (d_bylaw_look b_ lamp n night _ hx3) ?_
  revert hm
  refine VIf.b (fun h4 hm => ?_) (fun h4 hm => ?_)
  cases hm
  exact RetY.le (leD.refl _)
  obtain ⟨⟨x5, x6⟩, hx7, hm⟩ := bd_some hm
  refine CallY.det (d_bylaw_window_minutes__bylaw_window_on x1 x1 _ hx7) ?_
  cases hm
  exact RetY.le (leD.refl _)

def m_bylaw_window_off (w : Twindow) : Option TRange :=
  Option.bind (m_bylaw_clip (W (w.n.Rise.Hi - w.v.Off.Hi)) (W (w.n.Rise.Lo - w.v.Off.Lo))) fun x1 =>
  some x1
theorem d_bylaw_window_off (w : Twindow) (r : TRange) (hm : m_bylaw_window_off w = some r) : Does Tryz.prog 61 [.agg (Twindow.c w)] (fun x => x = .agg (TRange.c r)) := by
  refine does_zy (X := ⟨Tryz.prog, tt, Tryz.f61.ntmps, [], [], [], [], [70], []⟩) pok _ Tryz.func61 rfl rfl (Nat.le_of_ble_eq_true rfl) ?_
  obtain ⟨x1, hx2, hm⟩ := bd_some hm
  refine CallY.det (d_bylaw_clip (W (w.n.Rise.Hi - w.v.Off.Hi)) (W (w.n.Rise.Lo - w.v.Off.Lo)) _ hx2) ?_
  cases hm
  exact RetY.le (leD.refl _)

def m_bylaw_window_minutes__bylaw_window_off (w : Twindow) (c1_0 : Twindow) : Option (TRange × Int) :=
  Option.bind (m_bylaw_window_lit w) fun x1 =>
  if (x1 == 0) = true then
    some ((⟨0, 0⟩ : TRange), 18)
  else
    Option.bind (m_bylaw_window_off c1_0) fun x4 =>
    if (decide (x4.Lo > x4.Hi)) = true then
      some ((⟨0, 0⟩ : TRange), 16)
    else
      some (x4, 0)
theorem d_bylaw_window_minutes__bylaw_window_off (w : Twindow) (c1_0 : Twindow) (r : (TRange × Int)) (hm : m_bylaw_window_minutes__bylaw_window_off w c1_0 = some r) : Does Tryz.prog 59 [.agg (Twindow.c w), .fn 61 [.agg [DI c1_0.v.Source, DI c1_0.v.Class, DI c1_0.v.From, DI c1_0.v.On.Lo, DI c1_0.v.On.Hi, DI c1_0.v.Off.Lo, DI c1_0.v.Off.Hi, DI c1_0.v.Moon, DI c1_0.v.Fog, DI c1_0.v.Known, DI c1_0.v.Until, DI c1_0.n.No, DI c1_0.n.Set.Lo, DI c1_0.n.Set.Hi, DI c1_0.n.Rise.Lo, DI c1_0.n.Rise.Hi, DI c1_0.n.Light.Lo, DI c1_0.n.Light.Hi, DI c1_0.n.Fog]] []] (fun x => x = .tup [.agg (TRange.c r.1), DI r.2]) := by
  refine does_zy (X := ⟨Tryz.prog, tt, Tryz.f59.ntmps, [], [], [], [], [70], []⟩) pok _ Tryz.func59 rfl rfl (Nat.le_of_ble_eq_true rfl) ?_
  obtain ⟨x1, hx2, hm⟩ := bd_some hm
  refine CallY.det (d_bylaw_window_lit w _ hx2) ?_
  revert hm
  refine VIf.b (fun h3 hm => ?_) (fun h3 hm => ?_)
  cases hm
  exact RetY.le (leD.refl _)
  obtain ⟨x4, hx5, hm⟩ := bd_some hm
  refine CallY.det (d_bylaw_window_off c1_0 _ hx5) ?_
  revert hm
  refine VIf.b (fun h6 hm => ?_) (fun h6 hm => ?_)
  cases hm
  exact RetY.le (leD.refl _)
  cases hm
  exact RetY.le (leD.refl _)

def m_bylaw_Off (b_ : TBylaw) (lamp : Int) (n : TNight) (night : Int) : Option (TRange × Int) :=
  Option.bind (m_bylaw_look b_ lamp n night) fun ⟨x1, x2⟩ =>
  if (x2 != 0) = true then
    some ((⟨0, 0⟩ : TRange), x2)
  else
    Option.bind (m_bylaw_window_minutes__bylaw_window_off x1 x1) fun ⟨x5, x6⟩ =>
    some (x5, x6)
theorem d_bylaw_Off (b_ : TBylaw) (lamp : Int) (n : TNight) (night : Int) (r : (TRange × Int)) (hm : m_bylaw_Off b_ lamp n night = some r) : Does Tryz.prog 36 [.agg (TBylaw.c b_), DI lamp, .agg (TNight.c n), DI night] (fun x => x = .tup [.agg (TRange.c r.1), DI r.2]) := by
  refine does_zy (X := ⟨Tryz.prog, tt, Tryz.f36.ntmps, [], [], [], [], [70], []⟩) pok _ Tryz.func36 rfl rfl (Nat.le_of_ble_eq_true rfl) ?_
  obtain ⟨⟨x1, x2⟩, hx3, hm⟩ := bd_some hm
  refine CallY.det (d_bylaw_look b_ lamp n night _ hx3) ?_
  revert hm
  refine VIf.b (fun h4 hm => ?_) (fun h4 hm => ?_)
  cases hm
  exact RetY.le (leD.refl _)
  obtain ⟨⟨x5, x6⟩, hx7, hm⟩ := bd_some hm
  refine CallY.det (d_bylaw_window_minutes__bylaw_window_off x1 x1 _ hx7) ?_
  cases hm
  exact RetY.le (leD.refl _)

def m_bylaw_window_duty (w : Twindow) : Option (TDuty × Int) :=
  Option.bind (m_bylaw_window_lit w) fun x1 =>
  if (x1 == 0) = true then
    some ((⟨0, (⟨0, 0⟩ : TRange), (⟨0, 0⟩ : TRange)⟩ : TDuty), 0)
  else
    Option.bind (m_bylaw_window_minutes__bylaw_window_on w w) fun ⟨x4, x5⟩ =>
    if (x5 != 0) = true then
      some ((⟨0, (⟨0, 0⟩ : TRange), (⟨0, 0⟩ : TRange)⟩ : TDuty), x5)
    else
      Option.bind (m_bylaw_window_minutes__bylaw_window_off w w) fun ⟨x8, x9⟩ =>
      if (x9 != 0) = true then
        some ((⟨0, (⟨0, 0⟩ : TRange), (⟨0, 0⟩ : TRange)⟩ : TDuty), x9)
      else
        some ((⟨x1, x4, x8⟩ : TDuty), 0)
theorem d_bylaw_window_duty (w : Twindow) (r : (TDuty × Int)) (hm : m_bylaw_window_duty w = some r) : Does Tryz.prog 90 [.agg (Twindow.c w)] (fun x => x = .tup [.agg (TDuty.c r.1), DI r.2]) := by
  refine does_zy (X := ⟨Tryz.prog, tt, Tryz.f90.ntmps, [], [], [], [], [70], []⟩) pok _ Tryz.func90 rfl rfl (Nat.le_of_ble_eq_true rfl) ?_
  obtain ⟨x1, hx2, hm⟩ := bd_some hm
  refine CallY.det (d_bylaw_window_lit w _ hx2) ?_
  revert hm
  refine VIf.b (fun h3 hm => ?_) (fun h3 hm => ?_)
  cases hm
  exact RetY.le (leD.refl _)
  obtain ⟨⟨x4, x5⟩, hx6, hm⟩ := bd_some hm
  refine CallY.det (d_bylaw_window_minutes__bylaw_window_on w w _ hx6) ?_
  revert hm
  refine VIf.b (fun h7 hm => ?_) (fun h7 hm => ?_)
  cases hm
  exact RetY.le (leD.refl _)
  obtain ⟨⟨x8, x9⟩, hx10, hm⟩ := bd_some hm
  refine CallY.det (d_bylaw_window_minutes__bylaw_window_off w w _ hx10) ?_
  revert hm
  refine VIf.b (fun h11 hm => ?_) (fun h11 hm => ?_)
  cases hm
  exact RetY.le (leD.refl _)
  cases hm
  exact RetY.le (leD.refl _)

def m_bylaw_Duty (b_ : TBylaw) (lamp : Int) (n : TNight) (night : Int) : Option (TDuty × Int) :=
  Option.bind (m_bylaw_look b_ lamp n night) fun ⟨x1, x2⟩ =>
  if (x2 != 0) = true then
    some ((⟨0, (⟨0, 0⟩ : TRange), (⟨0, 0⟩ : TRange)⟩ : TDuty), x2)
  else
    Option.bind (m_bylaw_window_duty x1) fun ⟨x5, x6⟩ =>
    some (x5, x6)
theorem d_bylaw_Duty (b_ : TBylaw) (lamp : Int) (n : TNight) (night : Int) (r : (TDuty × Int)) (hm : m_bylaw_Duty b_ lamp n night = some r) : Does Tryz.prog 62 [.agg (TBylaw.c b_), DI lamp, .agg (TNight.c n), DI night] (fun x => x = .tup [.agg (TDuty.c r.1), DI r.2]) := by
  refine does_zy (X := ⟨Tryz.prog, tt, Tryz.f62.ntmps, [], [], [], [], [70], []⟩) pok _ Tryz.func62 rfl rfl (Nat.le_of_ble_eq_true rfl) ?_
  obtain ⟨⟨x1, x2⟩, hx3, hm⟩ := bd_some hm
  refine CallY.det (d_bylaw_look b_ lamp n night _ hx3) ?_
  revert hm
  refine VIf.b (fun h4 hm => ?_) (fun h4 hm => ?_)
  cases hm
  exact RetY.le (leD.refl _)
  obtain ⟨⟨x5, x6⟩, hx7, hm⟩ := bd_some hm
  refine CallY.det (d_bylaw_window_duty x1 _ hx7) ?_
  cases hm
  exact RetY.le (leD.refl _)

def m_bylaw_Burns (b_ : TBylaw) (lamp : Int) (n : TNight) (night : Int) : Option (TRange × Int) :=
  Option.bind (m_bylaw_Duty b_ lamp n night) fun ⟨x1, x2⟩ =>
  if (x2 != 0) = true then
    some ((⟨0, 0⟩ : TRange), x2)
  else
    if (x1.Lit == 0) = true then
      some ((⟨0, 0⟩ : TRange), x2)
    else
      if (x1.Lit == 2) = true then
        some ((⟨0, (if 0 > (W (x1.Off.Hi - x1.On.Lo)) then 0 else (W (x1.Off.Hi - x1.On.Lo)))⟩ : TRange), 0)
      else
        some ((⟨(if 0 > (W (x1.Off.Lo - x1.On.Hi)) then 0 else (W (x1.Off.Lo - x1.On.Hi))), (if 0 > (W (x1.Off.Hi - x1.On.Lo)) then 0 else (W (x1.Off.Hi - x1.On.Lo)))⟩ : TRange), 0)
theorem d_bylaw_Burns (b_ : TBylaw) (lamp : Int) (n : TNight) (night : Int) (r : (TRange × Int)) (hm : m_bylaw_Burns b_ lamp n night = some r) : Does Tryz.prog 37 [.agg (TBylaw.c b_), DI lamp, .agg (TNight.c n), DI night] (fun x => x = .tup [.agg (TRange.c r.1), DI r.2]) := by
  refine does_zy (X := ⟨Tryz.prog, tt, Tryz.f37.ntmps, [], [], [], [], [70], []⟩) pok _ Tryz.func37 rfl rfl (Nat.le_of_ble_eq_true rfl) ?_
  obtain ⟨⟨x1, x2⟩, hx3, hm⟩ := bd_some hm
  refine CallY.det (d_bylaw_Duty b_ lamp n night _ hx3) ?_
  revert hm
  refine VIf.b (fun h4 hm => ?_) (fun h4 hm => ?_)
  cases hm
  exact RetY.le (leD.refl _)
  revert hm
  refine VIf.b (fun h5 hm => ?_) (fun h5 hm => ?_)
  cases hm
  exact RetY.le (leD.refl _)
  revert hm
  refine VIf.b (fun h6 hm => ?_) (fun h6 hm => ?_)
  cases hm
  exact RetY.le (leD.refl _)
  cases hm
  exact RetY.le (leD.refl _)

def m_bylaw_areTimes (t : TTimes) : Option Bool :=
  if ((t.On == (-1)) && (t.Off == (-1))) = true then
    some true
  else
    if (decide (0 ≤ t.On)) = true then
      if (decide (t.On ≤ t.Off)) = true then
        some (decide (t.Off ≤ 1439))
      else
        some false
    else
      some false
theorem d_bylaw_areTimes (t : TTimes) (r : Bool) (hm : m_bylaw_areTimes t = some r) : Does Tryz.prog 64 [.agg (TTimes.c t)] (fun x => x = DB r) := by
  refine does_zy (X := ⟨Tryz.prog, tt, Tryz.f64.ntmps, [], [], [], [], [70], []⟩) pok _ Tryz.func64 rfl rfl (Nat.le_of_ble_eq_true rfl) ?_
  revert hm
  refine VIf.b (fun h1 hm => ?_) (fun h1 hm => ?_)
  cases hm
  exact RetY.le (leD.refl _)
  revert hm
  refine VIf.b (fun h2 hm => ?_) (fun h2 hm => ?_)
  revert hm
  refine VIf.b (fun h3 hm => ?_) (fun h3 hm => ?_)
  cases hm
  exact RetY.le (leD.refl _)
  cases hm
  exact RetY.le (leD.refl _)
  cases hm
  exact RetY.le (leD.refl _)

def m_bylaw_window_ends (w : Twindow) : Option Twindow :=
  some w
theorem d_bylaw_window_ends (w : Twindow) (r : Twindow) (hm : m_bylaw_window_ends w = some r) : Does Tryz.prog 66 [.agg (Twindow.c w)] (fun x => x = .fn 91 [] [.ptr [DI r.v.Source, DI r.v.Class, DI r.v.From, DI r.v.On.Lo, DI r.v.On.Hi, DI r.v.Off.Lo, DI r.v.Off.Hi, DI r.v.Moon, DI r.v.Fog, DI r.v.Known, DI r.v.Until, DI r.n.No, DI r.n.Set.Lo, DI r.n.Set.Hi, DI r.n.Rise.Lo, DI r.n.Rise.Hi, DI r.n.Light.Lo, DI r.n.Light.Hi, DI r.n.Fog] 0]) := by
  refine does_zy (X := ⟨Tryz.prog, tt, Tryz.f66.ntmps, [], [], [], [], [70], []⟩) pok _ Tryz.func66 rfl rfl (Nat.le_of_ble_eq_true rfl) ?_
  cases hm
  exact RetY.le (leD.refl _)

def en_bylaw_window_ends_1 (x : TTruth) : List D := [.agg (TTruth.c x)]
def it_bylaw_window_ends_1_L118 (c_0 : Twindow) (e1381 : Bool) (e1501 : Int) (e1539 : Int) : Int → Option (List TTruth × Sum Int Int) := fun v1545 =>
  if (decide (v1545 < (([c_0.n.Light.Lo, c_0.n.Light.Hi] : List Int).length : Int))) = true then
    Option.bind (idx ([c_0.n.Light.Lo, c_0.n.Light.Hi] : List Int) v1545) fun e1551 =>
    emit (⟨e1501, e1539, e1551, e1381⟩ : TTruth) <|
    some ([], .inl (W (v1545 + 1)))
  else
    some ([], .inr v1545)
def it_bylaw_window_ends_1_L117 (c_0 : Twindow) (e1381 : Bool) (e1501 : Int) : Int → Option (List TTruth × Sum Int Int) := fun v1520 =>
  if (decide (v1520 < (([c_0.n.Rise.Lo, c_0.n.Rise.Hi] : List Int).length : Int))) = true then
    Option.bind (idx ([c_0.n.Rise.Lo, c_0.n.Rise.Hi] : List Int) v1520) fun e1539 =>
    bindI (loopIF (it_bylaw_window_ends_1_L118 c_0 e1381 e1501 e1539) 0) fun v1554 =>
    some ([], .inl (W (v1520 + 1)))
  else
    some ([], .inr v1520)
def it_bylaw_window_ends_1_L114 (c_0 : Twindow) (e1381 : Bool) : Int → Option (List TTruth × Sum Int Int) := fun v1443 =>
  if (decide (v1443 < (([c_0.n.Set.Lo, c_0.n.Set.Hi] : List Int).length : Int))) = true then
    Option.bind (idx ([c_0.n.Set.Lo, c_0.n.Set.Hi] : List Int) v1443) fun e1501 =>
    bindI (loopIF (it_bylaw_window_ends_1_L117 c_0 e1381 e1501) 0) fun v1568 =>
    some ([], .inl (W (v1443 + 1)))
  else
    some ([], .inr v1443)
def it_bylaw_window_ends_1_L105 (c_0 : Twindow) : Int → Option (List TTruth × Sum Int Int) := fun v690 =>
  if (decide (v690 < (([false, true] : List Bool).length : Int))) = true then
    Option.bind (idx ([false, true] : List Bool) v690) fun e1381 =>
    if e1381 = true then
      if (c_0.n.Fog == 0) = true then
        some ([], .inl (W (v690 + 1)))
      else
        if (!e1381) = true then
          if (c_0.n.Fog == 1) = true then
            some ([], .inl (W (v690 + 1)))
          else
            bindI (loopIF (it_bylaw_window_ends_1_L114 c_0 e1381) 0) fun v1608 =>
            some ([], .inl (W (v690 + 1)))
        else
          bindI (loopIF (it_bylaw_window_ends_1_L114 c_0 e1381) 0) fun v1947 =>
          some ([], .inl (W (v690 + 1)))
    else
      if (!e1381) = true then
        if (c_0.n.Fog == 1) = true then
          some ([], .inl (W (v690 + 1)))
        else
          bindI (loopIF (it_bylaw_window_ends_1_L114 c_0 e1381) 0) fun v2288 =>
          some ([], .inl (W (v690 + 1)))
      else
        bindI (loopIF (it_bylaw_window_ends_1_L114 c_0 e1381) 0) fun v2627 =>
        some ([], .inl (W (v690 + 1)))
  else
    some ([], .inr v690)
def it_bylaw_window_ends_1 (c_0 : Twindow) : Option (List TTruth × Unit) :=
  bindI (loopIF (it_bylaw_window_ends_1_L105 c_0) 0) fun v2745 =>
  some ([], ())
theorem i_bylaw_window_ends_1 (c_0 : Twindow) (xs : List TTruth) (hm : it_bylaw_window_ends_1 c_0 = some (xs, ())) : DoesIt Tryz.prog 91 [.ptr [DI c_0.v.Source, DI c_0.v.Class, DI c_0.v.From, DI c_0.v.On.Lo, DI c_0.v.On.Hi, DI c_0.v.Off.Lo, DI c_0.v.Off.Hi, DI c_0.v.Moon, DI c_0.v.Fog, DI c_0.v.Known, DI c_0.v.Until, DI c_0.n.No, DI c_0.n.Set.Lo, DI c_0.n.Set.Hi, DI c_0.n.Rise.Lo, DI c_0.n.Rise.Hi, DI c_0.n.Light.Lo, DI c_0.n.Light.Hi, DI c_0.n.Fog] 0] (xs.map en_bylaw_window_ends_1) := by
  refine does_zit (X := ⟨Tryz.prog, tt, Tryz.f91.ntmps, [], [], [], [], [], []⟩) pok _ _ [] Tryz.func91 rfl rfl (Nat.le_of_ble_eq_true rfl) rfl ?_
  intro l
  obtain ⟨r, hr⟩ : ∃ r : List TTruth × Unit, r = (xs, ()) := ⟨_, rfl⟩
  rw [← hr] at hm
  have hp : Hp3 en_bylaw_window_ends_1 [] r.1 [] (xs.map en_bylaw_window_ends_1) := ⟨by rw [hr]; simp⟩
  clear hr
  refine ⟨([false, true] : List Bool).flatMap cB, ([false, true] : List Bool).length, ⟨rfl, rfl⟩, ?_⟩
  obtain ⟨ev2746, rr2750, he, hk2747, hb1, hb2⟩ := bindI_some hm
  replace hp := hp.in1 hb1
  clear hb1 hb2
  refine LoopI.of (fun (lpx : Nat × Int) => match lpx with | (fu2748, v690) => (⟨[(0, .v (.func (.yield l) #[] #[])), (1, .ptr [DI c_0.v.Source, DI c_0.v.Class, DI c_0.v.From, DI c_0.v.On.Lo, DI c_0.v.On.Hi, DI c_0.v.Off.Lo, DI c_0.v.Off.Hi, DI c_0.v.Moon, DI c_0.v.Fog, DI c_0.v.Known, DI c_0.v.Until, DI c_0.n.No, DI c_0.n.Set.Lo, DI c_0.n.Set.Hi, DI c_0.n.Rise.Lo, DI c_0.n.Rise.Hi, DI c_0.n.Light.Lo, DI c_0.n.Light.Hi, DI c_0.n.Fog] 0), (11, lD 1 ([false, true] : List Bool) cB), (12, DI (([false, true] : List Bool).length : Int)), (13, DI v690)], [], 1⟩ : Sy)) (fun lpx q => ∃ e, loopIO (it_bylaw_window_ends_1_L105 c_0) lpx.1 lpx.2 = some e ∧ Hp3 en_bylaw_window_ends_1 q e.1 _ _ ∧ e.2 = ev2746.2) (fun lpx => lpx.1) (FUEL, 0) ⟨_, he, hp, rfl⟩ (SubY.fz [0] rfl 1 rfl ⟨tR rfl, tR rfl, tR rfl, tR rfl, tR rfl, trivial⟩ trivial) ?_
  clear hp he
  rintro ⟨fu2748, v690⟩ q ⟨el2752, hi2749, hp, hx2753⟩
  obtain ⟨fu2748, b, tl, rfl, hm, hb1, hi2749⟩ := loopI_step hi2749
  replace hp := hp.in1 hb1
  clear hb1
  have hq : b.2 = b.2 := rfl
  revert hm
  refine VIf.b (fun h2755 hm => ?_) (fun h2755 hm => ?_)
  obtain ⟨e2756, hx2757, hm⟩ := bd_some hm
  refine ⟨_, el_idx (fun _ => rfl) hx2757, ?_⟩
  revert hm
  refine VIf.b (fun h2758 hm => ?_) (fun h2758 hm => ?_)
  revert hm
  refine VIf.b (fun h2759 hm => ?_) (fun h2759 hm => ?_)
  cases hm
  rw [hq] at hi2749
  obtain ⟨e2, hm, rfl, ht⟩ := hi2749
  exact ⟨(fu2748, (W (v690 + 1))), _, SubY.of 1 rfl ⟨tR rfl, tR rfl, tR rfl, tR rfl, tR rfl, trivial⟩ trivial, rfl, ⟨_, hm, hp.out rfl, ht.symm.trans hx2753⟩, Nat.lt_succ_self _⟩
  revert hm
  refine VIf.b (fun h2760 hm => ?_) (fun h2760 hm => ?_)
  revert hm
  refine VIf.b (fun h2761 hm => ?_) (fun h2761 hm => ?_)
  cases hm
  rw [hq] at hi2749
  obtain ⟨e2, hm, rfl, ht⟩ := hi2749
  exact ⟨(fu2748, (W (v690 + 1))), _, SubY.of 1 rfl ⟨tR rfl, tR rfl, tR rfl, tR rfl, tR rfl, trivial⟩ trivial, rfl, ⟨_, hm, hp.out rfl, ht.symm.trans hx2753⟩, Nat.lt_succ_self _⟩
  refine ⟨([c_0.n.Set.Lo, c_0.n.Set.Hi] : List Int).flatMap cI, ([c_0.n.Set.Lo, c_0.n.Set.Hi] : List Int).length, ⟨rfl, rfl⟩, ?_⟩
  obtain ⟨ev2984, rr2988, he, hk2985, hb1, hb2⟩ := bindI_some hm
  replace hp := hp.in1 hb1
  have hq2992 := hq.trans hb2
  clear hq
  clear hb1 hb2
  refine LoopI.of (fun (lpx : Nat × Int) => match lpx with | (fu2986, v2818) => (⟨[(0, .v (.func (.yield l) #[] #[])), (1, .ptr [DI c_0.v.Source, DI c_0.v.Class, DI c_0.v.From, DI c_0.v.On.Lo, DI c_0.v.On.Hi, DI c_0.v.Off.Lo, DI c_0.v.Off.Hi, DI c_0.v.Moon, DI c_0.v.Fog, DI c_0.v.Known, DI c_0.v.Until, DI c_0.n.No, DI c_0.n.Set.Lo, DI c_0.n.Set.Hi, DI c_0.n.Rise.Lo, DI c_0.n.Rise.Hi, DI c_0.n.Light.Lo, DI c_0.n.Light.Hi, DI c_0.n.Fog] 0), (4, DB e2756), (11, lD 1 ([false, true] : List Bool) cB), (12, DI (([false, true] : List Bool).length : Int)), (13, DI v690), (14, DB (decide (v690 < (([false, true] : List Bool).length : Int)))), (33, DB (c_0.n.Fog == 1)), (42, lD 1 ([c_0.n.Set.Lo, c_0.n.Set.Hi] : List Int) cI), (43, DI (([c_0.n.Set.Lo, c_0.n.Set.Hi] : List Int).length : Int)), (44, DI v2818)], [], 2⟩ : Sy)) (fun lpx q => ∃ e, loopIO (it_bylaw_window_ends_1_L114 c_0 e2756) lpx.1 lpx.2 = some e ∧ Hp3 en_bylaw_window_ends_1 q e.1 _ _ ∧ e.2 = ev2984.2) (fun lpx => lpx.1) (FUEL, 0) ⟨_, he, hp, rfl⟩ (SubY.fz [1] rfl 2 rfl ⟨tR rfl, tR rfl, tR rfl, tR rfl, tR rfl, tR rfl, tR rfl, tR rfl, tR rfl, tR rfl, tR rfl, trivial⟩ trivial) ?_
  clear hp he
  rintro ⟨fu2986, v2818⟩ q ⟨el2990, hi2987, hp, hx2991⟩
  obtain ⟨fu2986, b, tl, rfl, hm, hb1, hi2987⟩ := loopI_step hi2987
  replace hp := hp.in1 hb1
  clear hb1
  have hq : b.2 = b.2 := rfl
  revert hm
  refine VIf.b (fun h2993 hm => ?_) (fun h2993 hm => ?_)
  obtain ⟨e2994, hx2995, hm⟩ := bd_some hm
  refine ⟨_, el_idx (fun _ => rfl) hx2995, ?_⟩
  refine ⟨([c_0.n.Rise.Lo, c_0.n.Rise.Hi] : List Int).flatMap cI, ([c_0.n.Rise.Lo, c_0.n.Rise.Hi] : List Int).length, ⟨rfl, rfl⟩, ?_⟩
  obtain ⟨ev3062, rr3066, he, hk3063, hb1, hb2⟩ := bindI_some hm
  replace hp := hp.in1 hb1
  have hq3070 := hq.trans hb2
  clear hq
  clear hb1 hb2
  refine LoopI.of (fun (lpx : Nat × Int) => match lpx with | (fu3064, v3013) => (⟨[(0, .v (.func (.yield l) #[] #[])), (1, .ptr [DI c_0.v.Source, DI c_0.v.Class, DI c_0.v.From, DI c_0.v.On.Lo, DI c_0.v.On.Hi, DI c_0.v.Off.Lo, DI c_0.v.Off.Hi, DI c_0.v.Moon, DI c_0.v.Fog, DI c_0.v.Known, DI c_0.v.Until, DI c_0.n.No, DI c_0.n.Set.Lo, DI c_0.n.Set.Hi, DI c_0.n.Rise.Lo, DI c_0.n.Rise.Hi, DI c_0.n.Light.Lo, DI c_0.n.Light.Hi, DI c_0.n.Fog] 0), (4, DB e2756), (6, DI e2994), (11, lD 1 ([false, true] : List Bool) cB), (12, DI (([false, true] : List Bool).length : Int)), (13, DI v690), (14, DB (decide (v690 < (([false, true] : List Bool).length : Int)))), (33, DB (c_0.n.Fog == 1)), (42, lD 1 ([c_0.n.Set.Lo, c_0.n.Set.Hi] : List Int) cI), (43, DI (([c_0.n.Set.Lo, c_0.n.Set.Hi] : List Int).length : Int)), (44, DI v2818), (45, DB (decide (v2818 < (([c_0.n.Set.Lo, c_0.n.Set.Hi] : List Int).length : Int)))), (56, lD 1 ([c_0.n.Rise.Lo, c_0.n.Rise.Hi] : List Int) cI), (57, DI (([c_0.n.Rise.Lo, c_0.n.Rise.Hi] : List Int).length : Int)), (58, DI v3013)], [], 3⟩ : Sy)) (fun lpx q => ∃ e, loopIO (it_bylaw_window_ends_1_L117 c_0 e2756 e2994) lpx.1 lpx.2 = some e ∧ Hp3 en_bylaw_window_ends_1 q e.1 _ _ ∧ e.2 = ev3062.2) (fun lpx => lpx.1) (FUEL, 0) ⟨_, he, hp, rfl⟩ (SubY.fz [2] rfl 3 rfl ⟨tR rfl, tR rfl, tR rfl, tR rfl, tR rfl, tR rfl, tR rfl, tR rfl, tR rfl, tR rfl, tR rfl, tR rfl, tR rfl, tR rfl, tR rfl, tR rfl, trivial⟩ trivial) ?_
  clear hp he
  rintro ⟨fu3064, v3013⟩ q ⟨el3068, hi3065, hp, hx3069⟩
  obtain ⟨fu3064, b, tl, rfl, hm, hb1, hi3065⟩ := loopI_step hi3065
  replace hp := hp.in1 hb1
  clear hb1
  have hq : b.2 = b.2 := rfl
  revert hm
  refine VIf.b (fun h3071 hm => ?_) (fun h3071 hm => ?_)
  obtain ⟨e3072, hx3073, hm⟩ := bd_some hm
  refine ⟨_, el_idx (fun _ => rfl) hx3073, ?_⟩
  refine ⟨([c_0.n.Light.Lo, c_0.n.Light.Hi] : List Int).flatMap cI, ([c_0.n.Light.Lo, c_0.n.Light.Hi] : List Int).length, ⟨rfl, rfl⟩, ?_⟩
  obtain ⟨ev3088, rr3092, he, hk3089, hb1, hb2⟩ := bindI_some hm
  replace hp := hp.in1 hb1
  have hq3096 := hq.trans hb2
  clear hq
  clear hb1 hb2
  refine LoopI.of (fun (lpx : Nat × Int) => match lpx with | (fu3090, v3078) => (⟨[(0, .v (.func (.yield l) #[] #[])), (1, .ptr [DI c_0.v.Source, DI c_0.v.Class, DI c_0.v.From, DI c_0.v.On.Lo, DI c_0.v.On.Hi, DI c_0.v.Off.Lo, DI c_0.v.Off.Hi, DI c_0.v.Moon, DI c_0.v.Fog, DI c_0.v.Known, DI c_0.v.Until, DI c_0.n.No, DI c_0.n.Set.Lo, DI c_0.n.Set.Hi, DI c_0.n.Rise.Lo, DI c_0.n.Rise.Hi, DI c_0.n.Light.Lo, DI c_0.n.Light.Hi, DI c_0.n.Fog] 0), (4, DB e2756), (6, DI e2994), (8, DI e3072), (11, lD 1 ([false, true] : List Bool) cB), (12, DI (([false, true] : List Bool).length : Int)), (13, DI v690), (14, DB (decide (v690 < (([false, true] : List Bool).length : Int)))), (33, DB (c_0.n.Fog == 1)), (42, lD 1 ([c_0.n.Set.Lo, c_0.n.Set.Hi] : List Int) cI), (43, DI (([c_0.n.Set.Lo, c_0.n.Set.Hi] : List Int).length : Int)), (44, DI v2818), (45, DB (decide (v2818 < (([c_0.n.Set.Lo, c_0.n.Set.Hi] : List Int).length : Int)))), (56, lD 1 ([c_0.n.Rise.Lo, c_0.n.Rise.Hi] : List Int) cI), (57, DI (([c_0.n.Rise.Lo, c_0.n.Rise.Hi] : List Int).length : Int)), (58, DI v3013), (59, DB (decide (v3013 < (([c_0.n.Rise.Lo, c_0.n.Rise.Hi] : List Int).length : Int)))), (70, lD 1 ([c_0.n.Light.Lo, c_0.n.Light.Hi] : List Int) cI), (71, DI (([c_0.n.Light.Lo, c_0.n.Light.Hi] : List Int).length : Int)), (72, DI v3078)], [], 4⟩ : Sy)) (fun lpx q => ∃ e, loopIO (it_bylaw_window_ends_1_L118 c_0 e2756 e2994 e3072) lpx.1 lpx.2 = some e ∧ Hp3 en_bylaw_window_ends_1 q e.1 _ _ ∧ e.2 = ev3088.2) (fun lpx => lpx.1) (FUEL, 0) ⟨_, he, hp, rfl⟩ (SubY.fz [3] rfl 4 rfl ⟨tR rfl, tR rfl, tR rfl, tR rfl, tR rfl, tR rfl, tR rfl, tR rfl, tR rfl, tR rfl, tR rfl, tR rfl, tR rfl, tR rfl, tR rfl, tR rfl, tR rfl, tR rfl, tR rfl, tR rfl, tR rfl, trivial⟩ trivial) ?_
  clear hp he
  rintro ⟨fu3090, v3078⟩ q ⟨el3094, hi3091, hp, hx3095⟩
  obtain ⟨fu3090, b, tl, rfl, hm, hb1, hi3091⟩ := loopI_step hi3091
  replace hp := hp.in1 hb1
  clear hb1
  have hq : b.2 = b.2 := rfl
  revert hm
  refine VIf.b (fun h3097 hm => ?_) (fun h3097 hm => ?_)
  obtain ⟨e3098, hx3099, hm⟩ := bd_some hm
  refine ⟨_, el_idx (fun _ => rfl) hx3099, ?_⟩
  obtain ⟨rb3100, hm, hb1, hb2⟩ := emit_some hm
  refine YieldY.of (x' := en_bylaw_window_ends_1 (⟨e2994, e3072, e3098, e2756⟩ : TTruth)) rfl rfl (RetY.le (leD.refl _)) (hp.pre hb1) ?_ ?_
  replace hp := hp.emit hb1
  replace hq := hq.trans hb2
  cases hm
  rw [hq] at hi3091
  obtain ⟨e2, hm, rfl, ht⟩ := hi3091
  exact ⟨(fu3090, (W (v3078 + 1))), _, SubY.of 4 rfl ⟨tR rfl, tR rfl, tR rfl, tR rfl, tR rfl, tR rfl, tR rfl, tR rfl, tR rfl, tR rfl, tR rfl, tR rfl, tR rfl, tR rfl, tR rfl, tR rfl, tR rfl, tR rfl, tR rfl, tR rfl, tR rfl, trivial⟩ trivial, rfl, ⟨_, hm, hp.out rfl, ht.symm.trans hx3095⟩, Nat.lt_succ_self _⟩
  exact .inl rfl
  cases hm
  rw [hq] at hi3091
  obtain ⟨rfl, ht⟩ := hi3091
  replace hp := (hp.out (l' := []) rfl).out rfl
  have hm := hk3089
  try rw [← hx3095, ht] at hm
  have hq := hq3096
  cases hm
  rw [hq] at hi3065
  obtain ⟨e2, hm, rfl, ht⟩ := hi3065
  exact ⟨(fu3064, (W (v3013 + 1))), _, SubY.of 3 rfl ⟨tR rfl, tR rfl, tR rfl, tR rfl, tR rfl, tR rfl, tR rfl, tR rfl, tR rfl, tR rfl, tR rfl, tR rfl, tR rfl, tR rfl, tR rfl, tR rfl, trivial⟩ trivial, rfl, ⟨_, hm, hp.out rfl, ht.symm.trans hx3069⟩, Nat.lt_succ_self _⟩
  cases hm
  rw [hq] at hi3065
  obtain ⟨rfl, ht⟩ := hi3065
  replace hp := (hp.out (l' := []) rfl).out rfl
  have hm := hk3063
  try rw [← hx3069, ht] at hm
  have hq := hq3070
  cases hm
  rw [hq] at hi2987
  obtain ⟨e2, hm, rfl, ht⟩ := hi2987
  exact ⟨(fu2986, (W (v2818 + 1))), _, SubY.of 2 rfl ⟨tR rfl, tR rfl, tR rfl, tR rfl, tR rfl, tR rfl, tR rfl, tR rfl, tR rfl, tR rfl, tR rfl, trivial⟩ trivial, rfl, ⟨_, hm, hp.out rfl, ht.symm.trans hx2991⟩, Nat.lt_succ_self _⟩
  cases hm
  rw [hq] at hi2987
  obtain ⟨rfl, ht⟩ := hi2987
  replace hp := (hp.out (l' := []) rfl).out rfl
  have hm := hk2985
  try rw [← hx2991, ht] at hm
  have hq := hq2992
  cases hm
  rw [hq] at hi2749
  obtain ⟨e2, hm, rfl, ht⟩ := hi2749
  exact ⟨(fu2748, (W (v690 + 1))), _, SubY.of 1 rfl ⟨tR rfl, tR rfl, tR rfl, tR rfl, tR rfl, trivial⟩ trivial, rfl, ⟨_, hm, hp.out rfl, ht.symm.trans hx2753⟩, Nat.lt_succ_self _⟩
  refine ⟨([c_0.n.Set.Lo, c_0.n.Set.Hi] : List Int).flatMap cI, ([c_0.n.Set.Lo, c_0.n.Set.Hi] : List Int).length, ⟨rfl, rfl⟩, ?_⟩
  obtain ⟨ev3323, rr3327, he, hk3324, hb1, hb2⟩ := bindI_some hm
  replace hp := hp.in1 hb1
  have hq3331 := hq.trans hb2
  clear hq
  clear hb1 hb2
  refine LoopI.of (fun (lpx : Nat × Int) => match lpx with | (fu3325, v3157) => (⟨[(0, .v (.func (.yield l) #[] #[])), (1, .ptr [DI c_0.v.Source, DI c_0.v.Class, DI c_0.v.From, DI c_0.v.On.Lo, DI c_0.v.On.Hi, DI c_0.v.Off.Lo, DI c_0.v.Off.Hi, DI c_0.v.Moon, DI c_0.v.Fog, DI c_0.v.Known, DI c_0.v.Until, DI c_0.n.No, DI c_0.n.Set.Lo, DI c_0.n.Set.Hi, DI c_0.n.Rise.Lo, DI c_0.n.Rise.Hi, DI c_0.n.Light.Lo, DI c_0.n.Light.Hi, DI c_0.n.Fog] 0), (4, DB e2756), (11, lD 1 ([false, true] : List Bool) cB), (12, DI (([false, true] : List Bool).length : Int)), (13, DI v690), (14, DB (decide (v690 < (([false, true] : List Bool).length : Int)))), (33, DB false), (42, lD 1 ([c_0.n.Set.Lo, c_0.n.Set.Hi] : List Int) cI), (43, DI (([c_0.n.Set.Lo, c_0.n.Set.Hi] : List Int).length : Int)), (44, DI v3157)], [], 2⟩ : Sy)) (fun lpx q => ∃ e, loopIO (it_bylaw_window_ends_1_L114 c_0 e2756) lpx.1 lpx.2 = some e ∧ Hp3 en_bylaw_window_ends_1 q e.1 _ _ ∧ e.2 = ev3323.2) (fun lpx => lpx.1) (FUEL, 0) ⟨_, he, hp, rfl⟩ (SubY.fz [1] rfl 2 rfl ⟨tR rfl, tR rfl, tR rfl, tR rfl, tR rfl, tR rfl, tR rfl, tR rfl, tR rfl, tR rfl, tR rfl, trivial⟩ trivial) ?_
  clear hp he
  rintro ⟨fu3325, v3157⟩ q ⟨el3329, hi3326, hp, hx3330⟩
  obtain ⟨fu3325, b, tl, rfl, hm, hb1, hi3326⟩ := loopI_step hi3326
  replace hp := hp.in1 hb1
  clear hb1
  have hq : b.2 = b.2 := rfl
  revert hm
  refine VIf.b (fun h3332 hm => ?_) (fun h3332 hm => ?_)
  obtain ⟨e3333, hx3334, hm⟩ := bd_some hm
  refine ⟨_, el_idx (fun _ => rfl) hx3334, ?_⟩
  refine ⟨([c_0.n.Rise.Lo, c_0.n.Rise.Hi] : List Int).flatMap cI, ([c_0.n.Rise.Lo, c_0.n.Rise.Hi] : List Int).length, ⟨rfl, rfl⟩, ?_⟩
  obtain ⟨ev3401, rr3405, he, hk3402, hb1, hb2⟩ := bindI_some hm
  replace hp := hp.in1 hb1
  have hq3409 := hq.trans hb2
  clear hq
  clear hb1 hb2
  refine LoopI.of (fun (lpx : Nat × Int) => match lpx with | (fu3403, v3352) => (⟨[(0, .v (.func (.yield l) #[] #[])), (1, .ptr [DI c_0.v.Source, DI c_0.v.Class, DI c_0.v.From, DI c_0.v.On.Lo, DI c_0.v.On.Hi, DI c_0.v.Off.Lo, DI c_0.v.Off.Hi, DI c_0.v.Moon, DI c_0.v.Fog, DI c_0.v.Known, DI c_0.v.Until, DI c_0.n.No, DI c_0.n.Set.Lo, DI c_0.n.Set.Hi, DI c_0.n.Rise.Lo, DI c_0.n.Rise.Hi, DI c_0.n.Light.Lo, DI c_0.n.Light.Hi, DI c_0.n.Fog] 0), (4, DB e2756), (6, DI e3333), (11, lD 1 ([false, true] : List Bool) cB), (12, DI (([false, true] : List Bool).length : Int)), (13, DI v690), (14, DB (decide (v690 < (([false, true] : List Bool).length : Int)))), (33, DB false), (42, lD 1 ([c_0.n.Set.Lo, c_0.n.Set.Hi] : List Int) cI), (43, DI (([c_0.n.Set.Lo, c_0.n.Set.Hi] : List Int).length : Int)), (44, DI v3157), (45, DB (decide (v3157 < (([c_0.n.Set.Lo, c_0.n.Set.Hi] : List Int).length : Int)))), (56, lD 1 ([c_0.n.Rise.Lo, c_0.n.Rise.Hi] : List Int) cI), (57, DI (([c_0.n.Rise.Lo, c_0.n.Rise.Hi] : List Int).length : Int)), (58, DI v3352)], [], 3⟩ : Sy)) (fun lpx q => ∃ e, loopIO (it_bylaw_window_ends_1_L117 c_0 e2756 e3333) lpx.1 lpx.2 = some e ∧ Hp3 en_bylaw_window_ends_1 q e.1 _ _ ∧ e.2 = ev3401.2) (fun lpx => lpx.1) (FUEL, 0) ⟨_, he, hp, rfl⟩ (SubY.fz [2] rfl 3 rfl ⟨tR rfl, tR rfl, tR rfl, tR rfl, tR rfl, tR rfl, tR rfl, tR rfl, tR rfl, tR rfl, tR rfl, tR rfl, tR rfl, tR rfl, tR rfl, tR rfl, trivial⟩ trivial) ?_
  clear hp he
  rintro ⟨fu3403, v3352⟩ q ⟨el3407, hi3404, hp, hx3408⟩
  obtain ⟨fu3403, b, tl, rfl, hm, hb1, hi3404⟩ := loopI_step hi3404
  replace hp := hp.in1 hb1
  clear hb1
  have hq : b.2 = b.2 := rfl
  revert hm
  refine VIf.b (fun h3410 hm => ?_) (fun h3410 hm => ?_)
  obtain ⟨e3411, hx3412, hm⟩ := bd_some hm
  refine ⟨_, el_idx (fun _ => rfl) hx3412, ?_⟩
  refine ⟨([c_0.n.Light.Lo, c_0.n.Light.Hi] : List Int).flatMap cI, ([c_0.n.Light.Lo, c_0.n.Light.Hi] : List Int).length, ⟨rfl, rfl⟩, ?_⟩
  obtain ⟨ev3427, rr3431, he, hk3428, hb1, hb2⟩ := bindI_some hm
  replace hp := hp.in1 hb1
  have hq3435 := hq.trans hb2
  clear hq
  clear hb1 hb2
  refine LoopI.of (fun (lpx : Nat × Int) => match lpx with | (fu3429, v3417) => (⟨[(0, .v (.func (.yield l) #[] #[])), (1, .ptr [DI c_0.v.Source, DI c_0.v.Class, DI c_0.v.From, DI c_0.v.On.Lo, DI c_0.v.On.Hi, DI c_0.v.Off.Lo, DI c_0.v.Off.Hi, DI c_0.v.Moon, DI c_0.v.Fog, DI c_0.v.Known, DI c_0.v.Until, DI c_0.n.No, DI c_0.n.Set.Lo, DI c_0.n.Set.Hi, DI c_0.n.Rise.Lo, DI c_0.n.Rise.Hi, DI c_0.n.Light.Lo, DI c_0.n.Light.Hi, DI c_0.n.Fog] 0), (4, DB e2756), (6, DI e3333), (8, DI e3411), (11, lD 1 ([false, true] : List Bool) cB), (12, DI (([false, true] : List Bool).length : Int)), (13, DI v690), (14, DB (decide (v690 < (([false, true] : List Bool).length : Int)))), (33, DB false), (42, lD 1 ([c_0.n.Set.Lo, c_0.n.Set.Hi] : List Int) cI), (43, DI (([c_0.n.Set.Lo, c_0.n.Set.Hi] : List Int).length : Int)), (44, DI v3157), (45, DB (decide (v3157 < (([c_0.n.Set.Lo, c_0.n.Set.Hi] : List Int).length : Int)))), (56, lD 1 ([c_0.n.Rise.Lo, c_0.n.Rise.Hi] : List Int) cI), (57, DI (([c_0.n.Rise.Lo, c_0.n.Rise.Hi] : List Int).length : Int)), (58, DI v3352), (59, DB (decide (v3352 < (([c_0.n.Rise.Lo, c_0.n.Rise.Hi] : List Int).length : Int)))), (70, lD 1 ([c_0.n.Light.Lo, c_0.n.Light.Hi] : List Int) cI), (71, DI (([c_0.n.Light.Lo, c_0.n.Light.Hi] : List Int).length : Int)), (72, DI v3417)], [], 4⟩ : Sy)) (fun lpx q => ∃ e, loopIO (it_bylaw_window_ends_1_L118 c_0 e2756 e3333 e3411) lpx.1 lpx.2 = some e ∧ Hp3 en_bylaw_window_ends_1 q e.1 _ _ ∧ e.2 = ev3427.2) (fun lpx => lpx.1) (FUEL, 0) ⟨_, he, hp, rfl⟩ (SubY.fz [3] rfl 4 rfl ⟨tR rfl, tR rfl, tR rfl, tR rfl, tR rfl, tR rfl, tR rfl, tR rfl, tR rfl, tR rfl, tR rfl, tR rfl, tR rfl, tR rfl, tR rfl, tR rfl, tR rfl, tR rfl, tR rfl, tR rfl, tR rfl, trivial⟩ trivial) ?_
  clear hp he
  rintro ⟨fu3429, v3417⟩ q ⟨el3433, hi3430, hp, hx3434⟩
  obtain ⟨fu3429, b, tl, rfl, hm, hb1, hi3430⟩ := loopI_step hi3430
  replace hp := hp.in1 hb1
  clear hb1
  have hq : b.2 = b.2 := rfl
  revert hm
  refine VIf.b (fun h3436 hm => ?_) (fun h3436 hm => ?_)
  obtain ⟨e3437, hx3438, hm⟩ := bd_some hm
  refine ⟨_, el_idx (fun _ => rfl) hx3438, ?_⟩
  obtain ⟨rb3439, hm, hb1, hb2⟩ := emit_some hm
  refine YieldY.of (x' := en_bylaw_window_ends_1 (⟨e3333, e3411, e3437, e2756⟩ : TTruth)) rfl rfl (RetY.le (leD.refl _)) (hp.pre hb1) ?_ ?_
  replace hp := hp.emit hb1
  replace hq := hq.trans hb2
  cases hm
  rw [hq] at hi3430
  obtain ⟨e2, hm, rfl, ht⟩ := hi3430
  exact ⟨(fu3429, (W (v3417 + 1))), _, SubY.of 4 rfl ⟨tR rfl, tR rfl, tR rfl, tR rfl, tR rfl, tR rfl, tR rfl, tR rfl, tR rfl, tR rfl, tR rfl, tR rfl, tR rfl, tR rfl, tR rfl, tR rfl, tR rfl, tR rfl, tR rfl, tR rfl, tR rfl, trivial⟩ trivial, rfl, ⟨_, hm, hp.out rfl, ht.symm.trans hx3434⟩, Nat.lt_succ_self _⟩
  exact .inl rfl
  cases hm
  rw [hq] at hi3430
  obtain ⟨rfl, ht⟩ := hi3430
  replace hp := (hp.out (l' := []) rfl).out rfl
  have hm := hk3428
  try rw [← hx3434, ht] at hm
  have hq := hq3435
  cases hm
  rw [hq] at hi3404
  obtain ⟨e2, hm, rfl, ht⟩ := hi3404
  exact ⟨(fu3403, (W (v3352 + 1))), _, SubY.of 3 rfl ⟨tR rfl, tR rfl, tR rfl, tR rfl, tR rfl, tR rfl, tR rfl, tR rfl, tR rfl, tR rfl, tR rfl, tR rfl, tR rfl, tR rfl, tR rfl, tR rfl, trivial⟩ trivial, rfl, ⟨_, hm, hp.out rfl, ht.symm.trans hx3408⟩, Nat.lt_succ_self _⟩
  cases hm
  rw [hq] at hi3404
  obtain ⟨rfl, ht⟩ := hi3404
  replace hp := (hp.out (l' := []) rfl).out rfl
  have hm := hk3402
  try rw [← hx3408, ht] at hm
  have hq := hq3409
  cases hm
  rw [hq] at hi3326
  obtain ⟨e2, hm, rfl, ht⟩ := hi3326
  exact ⟨(fu3325, (W (v3157 + 1))), _, SubY.of 2 rfl ⟨tR rfl, tR rfl, tR rfl, tR rfl, tR rfl, tR rfl, tR rfl, tR rfl, tR rfl, tR rfl, tR rfl, trivial⟩ trivial, rfl, ⟨_, hm, hp.out rfl, ht.symm.trans hx3330⟩, Nat.lt_succ_self _⟩
  cases hm
  rw [hq] at hi3326
  obtain ⟨rfl, ht⟩ := hi3326
  replace hp := (hp.out (l' := []) rfl).out rfl
  have hm := hk3324
  try rw [← hx3330, ht] at hm
  have hq := hq3331
  cases hm
  rw [hq] at hi2749
  obtain ⟨e2, hm, rfl, ht⟩ := hi2749
  exact ⟨(fu2748, (W (v690 + 1))), _, SubY.of 1 rfl ⟨tR rfl, tR rfl, tR rfl, tR rfl, tR rfl, trivial⟩ trivial, rfl, ⟨_, hm, hp.out rfl, ht.symm.trans hx2753⟩, Nat.lt_succ_self _⟩
  revert hm
  refine VIf.b (fun h3440 hm => ?_) (fun h3440 hm => ?_)
  revert hm
  refine VIf.b (fun h3441 hm => ?_) (fun h3441 hm => ?_)
  cases hm
  rw [hq] at hi2749
  obtain ⟨e2, hm, rfl, ht⟩ := hi2749
  exact ⟨(fu2748, (W (v690 + 1))), _, SubY.of 1 rfl ⟨tR rfl, tR rfl, tR rfl, tR rfl, tR rfl, trivial⟩ trivial, rfl, ⟨_, hm, hp.out rfl, ht.symm.trans hx2753⟩, Nat.lt_succ_self _⟩
  refine ⟨([c_0.n.Set.Lo, c_0.n.Set.Hi] : List Int).flatMap cI, ([c_0.n.Set.Lo, c_0.n.Set.Hi] : List Int).length, ⟨rfl, rfl⟩, ?_⟩
  obtain ⟨ev3664, rr3668, he, hk3665, hb1, hb2⟩ := bindI_some hm
  replace hp := hp.in1 hb1
  have hq3672 := hq.trans hb2
  clear hq
  clear hb1 hb2
  refine LoopI.of (fun (lpx : Nat × Int) => match lpx with | (fu3666, v3498) => (⟨[(0, .v (.func (.yield l) #[] #[])), (1, .ptr [DI c_0.v.Source, DI c_0.v.Class, DI c_0.v.From, DI c_0.v.On.Lo, DI c_0.v.On.Hi, DI c_0.v.Off.Lo, DI c_0.v.Off.Hi, DI c_0.v.Moon, DI c_0.v.Fog, DI c_0.v.Known, DI c_0.v.Until, DI c_0.n.No, DI c_0.n.Set.Lo, DI c_0.n.Set.Hi, DI c_0.n.Rise.Lo, DI c_0.n.Rise.Hi, DI c_0.n.Light.Lo, DI c_0.n.Light.Hi, DI c_0.n.Fog] 0), (4, DB e2756), (11, lD 1 ([false, true] : List Bool) cB), (12, DI (([false, true] : List Bool).length : Int)), (13, DI v690), (14, DB (decide (v690 < (([false, true] : List Bool).length : Int)))), (33, DB (c_0.n.Fog == 1)), (42, lD 1 ([c_0.n.Set.Lo, c_0.n.Set.Hi] : List Int) cI), (43, DI (([c_0.n.Set.Lo, c_0.n.Set.Hi] : List Int).length : Int)), (44, DI v3498)], [], 2⟩ : Sy)) (fun lpx q => ∃ e, loopIO (it_bylaw_window_ends_1_L114 c_0 e2756) lpx.1 lpx.2 = some e ∧ Hp3 en_bylaw_window_ends_1 q e.1 _ _ ∧ e.2 = ev3664.2) (fun lpx => lpx.1) (FUEL, 0) ⟨_, he, hp, rfl⟩ (SubY.fz [1] rfl 2 rfl ⟨tR rfl, tR rfl, tR rfl, tR rfl, tR rfl, tR rfl, tR rfl, tR rfl, tR rfl, tR rfl, tR rfl, trivial⟩ trivial) ?_
  clear hp he
  rintro ⟨fu3666, v3498⟩ q ⟨el3670, hi3667, hp, hx3671⟩
  obtain ⟨fu3666, b, tl, rfl, hm, hb1, hi3667⟩ := loopI_step hi3667
  replace hp := hp.in1 hb1
  clear hb1
  have hq : b.2 = b.2 := rfl
  revert hm
  refine VIf.b (fun h3673 hm => ?_) (fun h3673 hm => ?_)
  obtain ⟨e3674, hx3675, hm⟩ := bd_some hm
  refine ⟨_, el_idx (fun _ => rfl) hx3675, ?_⟩
  refine ⟨([c_0.n.Rise.Lo, c_0.n.Rise.Hi] : List Int).flatMap cI, ([c_0.n.Rise.Lo, c_0.n.Rise.Hi] : List Int).length, ⟨rfl, rfl⟩, ?_⟩
  obtain ⟨ev3742, rr3746, he, hk3743, hb1, hb2⟩ := bindI_some hm
  replace hp := hp.in1 hb1
  have hq3750 := hq.trans hb2
  clear hq
  clear hb1 hb2
  refine LoopI.of (fun (lpx : Nat × Int) => match lpx with | (fu3744, v3693) => (⟨[(0, .v (.func (.yield l) #[] #[])), (1, .ptr [DI c_0.v.Source, DI c_0.v.Class, DI c_0.v.From, DI c_0.v.On.Lo, DI c_0.v.On.Hi, DI c_0.v.Off.Lo, DI c_0.v.Off.Hi, DI c_0.v.Moon, DI c_0.v.Fog, DI c_0.v.Known, DI c_0.v.Until, DI c_0.n.No, DI c_0.n.Set.Lo, DI c_0.n.Set.Hi, DI c_0.n.Rise.Lo, DI c_0.n.Rise.Hi, DI c_0.n.Light.Lo, DI c_0.n.Light.Hi, DI c_0.n.Fog] 0), (4, DB e2756), (6, DI e3674), (11, lD 1 ([false, true] : List Bool) cB), (12, DI (([false, true] : List Bool).length : Int)), (13, DI v690), (14, DB (decide (v690 < (([false, true] : List Bool).length : Int)))), (33, DB (c_0.n.Fog == 1)), (42, lD 1 ([c_0.n.Set.Lo, c_0.n.Set.Hi] : List Int) cI), (43, DI (([c_0.n.Set.Lo, c_0.n.Set.Hi] : List Int).length : Int)), (44, DI v3498), (45, DB (decide (v3498 < (([c_0.n.Set.Lo, c_0.n.Set.Hi] : List Int).length : Int)))), (56, lD 1 ([c_0.n.Rise.Lo, c_0.n.Rise.Hi] : List Int) cI), (57, DI (([c_0.n.Rise.Lo, c_0.n.Rise.Hi] : List Int).length : Int)), (58, DI v3693)], [], 3⟩ : Sy)) (fun lpx q => ∃ e, loopIO (it_bylaw_window_ends_1_L117 c_0 e2756 e3674) lpx.1 lpx.2 = some e ∧ Hp3 en_bylaw_window_ends_1 q e.1 _ _ ∧ e.2 = ev3742.2) (fun lpx => lpx.1) (FUEL, 0) ⟨_, he, hp, rfl⟩ (SubY.fz [2] rfl 3 rfl ⟨tR rfl, tR rfl, tR rfl, tR rfl, tR rfl, tR rfl, tR rfl, tR rfl, tR rfl, tR rfl, tR rfl, tR rfl, tR rfl, tR rfl, tR rfl, tR rfl, trivial⟩ trivial) ?_
  clear hp he
  rintro ⟨fu3744, v3693⟩ q ⟨el3748, hi3745, hp, hx3749⟩
  obtain ⟨fu3744, b, tl, rfl, hm, hb1, hi3745⟩ := loopI_step hi3745
  replace hp := hp.in1 hb1
  clear hb1
  have hq : b.2 = b.2 := rfl
  revert hm
  refine VIf.b (fun h3751 hm => ?_) (fun h3751 hm => ?_)
  obtain ⟨e3752, hx3753, hm⟩ := bd_some hm
  refine ⟨_, el_idx (fun _ => rfl) hx3753, ?_⟩
  refine ⟨([c_0.n.Light.Lo, c_0.n.Light.Hi] : List Int).flatMap cI, ([c_0.n.Light.Lo, c_0.n.Light.Hi] : List Int).length, ⟨rfl, rfl⟩, ?_⟩
  obtain ⟨ev3768, rr3772, he, hk3769, hb1, hb2⟩ := bindI_some hm
  replace hp := hp.in1 hb1
  have hq3776 := hq.trans hb2
  clear hq
  clear hb1 hb2
  refine LoopI.of (fun (lpx : Nat × Int) => match lpx with | (fu3770, v3758) => (⟨[(0, .v (.func (.yield l) #[] #[])), (1, .ptr [DI c_0.v.Source, DI c_0.v.Class, DI c_0.v.From, DI c_0.v.On.Lo, DI c_0.v.On.Hi, DI c_0.v.Off.Lo, DI c_0.v.Off.Hi, DI c_0.v.Moon, DI c_0.v.Fog, DI c_0.v.Known, DI c_0.v.Until, DI c_0.n.No, DI c_0.n.Set.Lo, DI c_0.n.Set.Hi, DI c_0.n.Rise.Lo, DI c_0.n.Rise.Hi, DI c_0.n.Light.Lo, DI c_0.n.Light.Hi, DI c_0.n.Fog] 0), (4, DB e2756), (6, DI e3674), (8, DI e3752), (11, lD 1 ([false, true] : List Bool) cB), (12, DI (([false, true] : List Bool).length : Int)), (13, DI v690), (14, DB (decide (v690 < (([false, true] : List Bool).length : Int)))), (33, DB (c_0.n.Fog == 1)), (42, lD 1 ([c_0.n.Set.Lo, c_0.n.Set.Hi] : List Int) cI), (43, DI (([c_0.n.Set.Lo, c_0.n.Set.Hi] : List Int).length : Int)), (44, DI v3498), (45, DB (decide (v3498 < (([c_0.n.Set.Lo, c_0.n.Set.Hi] : List Int).length : Int)))), (56, lD 1 ([c_0.n.Rise.Lo, c_0.n.Rise.Hi] : List Int) cI), (57, DI (([c_0.n.Rise.Lo, c_0.n.Rise.Hi] : List Int).length : Int)), (58, DI v3693), (59, DB (decide (v3693 < (([c_0.n.Rise.Lo, c_0.n.Rise.Hi] : List Int).length : Int)))), (70, lD 1 ([c_0.n.Light.Lo, c_0.n.Light.Hi] : List Int) cI), (71, DI (([c_0.n.Light.Lo, c_0.n.Light.Hi] : List Int).length : Int)), (72, DI v3758)], [], 4⟩ : Sy)) (fun lpx q => ∃ e, loopIO (it_bylaw_window_ends_1_L118 c_0 e2756 e3674 e3752) lpx.1 lpx.2 = some e ∧ Hp3 en_bylaw_window_ends_1 q e.1 _ _ ∧ e.2 = ev3768.2) (fun lpx => lpx.1) (FUEL, 0) ⟨_, he, hp, rfl⟩ (SubY.fz [3] rfl 4 rfl ⟨tR rfl, tR rfl, tR rfl, tR rfl, tR rfl, tR rfl, tR rfl, tR rfl, tR rfl, tR rfl, tR rfl, tR rfl, tR rfl, tR rfl, tR rfl, tR rfl, tR rfl, tR rfl, tR rfl, tR rfl, tR rfl, trivial⟩ trivial) ?_
  clear hp he
  rintro ⟨fu3770, v3758⟩ q ⟨el3774, hi3771, hp, hx3775⟩
  obtain ⟨fu3770, b, tl, rfl, hm, hb1, hi3771⟩ := loopI_step hi3771
  replace hp := hp.in1 hb1
  clear hb1
  have hq : b.2 = b.2 := rfl
  revert hm
  refine VIf.b (fun h3777 hm => ?_) (fun h3777 hm => ?_)
  obtain ⟨e3778, hx3779, hm⟩ := bd_some hm
  refine ⟨_, el_idx (fun _ => rfl) hx3779, ?_⟩
  obtain ⟨rb3780, hm, hb1, hb2⟩ := emit_some hm
  refine YieldY.of (x' := en_bylaw_window_ends_1 (⟨e3674, e3752, e3778, e2756⟩ : TTruth)) rfl rfl (RetY.le (leD.refl _)) (hp.pre hb1) ?_ ?_
  replace hp := hp.emit hb1
  replace hq := hq.trans hb2
  cases hm
  rw [hq] at hi3771
  obtain ⟨e2, hm, rfl, ht⟩ := hi3771
  exact ⟨(fu3770, (W (v3758 + 1))), _, SubY.of 4 rfl ⟨tR rfl, tR rfl, tR rfl, tR rfl, tR rfl, tR rfl, tR rfl, tR rfl, tR rfl, tR rfl, tR rfl, tR rfl, tR rfl, tR rfl, tR rfl, tR rfl, tR rfl, tR rfl, tR rfl, tR rfl, tR rfl, trivial⟩ trivial, rfl, ⟨_, hm, hp.out rfl, ht.symm.trans hx3775⟩, Nat.lt_succ_self _⟩
  exact .inl rfl
  cases hm
  rw [hq] at hi3771
  obtain ⟨rfl, ht⟩ := hi3771
  replace hp := (hp.out (l' := []) rfl).out rfl
  have hm := hk3769
  try rw [← hx3775, ht] at hm
  have hq := hq3776
  cases hm
  rw [hq] at hi3745
  obtain ⟨e2, hm, rfl, ht⟩ := hi3745
  exact ⟨(fu3744, (W (v3693 + 1))), _, SubY.of 3 rfl ⟨tR rfl, tR rfl, tR rfl, tR rfl, tR rfl, tR rfl, tR rfl, tR rfl, tR rfl, tR rfl, tR rfl, tR rfl, tR rfl, tR rfl, tR rfl, tR rfl, trivial⟩ trivial, rfl, ⟨_, hm, hp.out rfl, ht.symm.trans hx3749⟩, Nat.lt_succ_self _⟩
  cases hm
  rw [hq] at hi3745
  obtain ⟨rfl, ht⟩ := hi3745
  replace hp := (hp.out (l' := []) rfl).out rfl
  have hm := hk3743
  try rw [← hx3749, ht] at hm
  have hq := hq3750
  cases hm
  rw [hq] at hi3667
  obtain ⟨e2, hm, rfl, ht⟩ := hi3667
  exact ⟨(fu3666, (W (v3498 + 1))), _, SubY.of 2 rfl ⟨tR rfl, tR rfl, tR rfl, tR rfl, tR rfl, tR rfl, tR rfl, tR rfl, tR rfl, tR rfl, tR rfl, trivial⟩ trivial, rfl, ⟨_, hm, hp.out rfl, ht.symm.trans hx3671⟩, Nat.lt_succ_self _⟩
  cases hm
  rw [hq] at hi3667
  obtain ⟨rfl, ht⟩ := hi3667
  replace hp := (hp.out (l' := []) rfl).out rfl
  have hm := hk3665
  try rw [← hx3671, ht] at hm
  have hq := hq3672
  cases hm
  rw [hq] at hi2749
  obtain ⟨e2, hm, rfl, ht⟩ := hi2749
  exact ⟨(fu2748, (W (v690 + 1))), _, SubY.of 1 rfl ⟨tR rfl, tR rfl, tR rfl, tR rfl, tR rfl, trivial⟩ trivial, rfl, ⟨_, hm, hp.out rfl, ht.symm.trans hx2753⟩, Nat.lt_succ_self _⟩
  refine ⟨([c_0.n.Set.Lo, c_0.n.Set.Hi] : List Int).flatMap cI, ([c_0.n.Set.Lo, c_0.n.Set.Hi] : List Int).length, ⟨rfl, rfl⟩, ?_⟩
  obtain ⟨ev4003, rr4007, he, hk4004, hb1, hb2⟩ := bindI_some hm
  replace hp := hp.in1 hb1
  have hq4011 := hq.trans hb2
  clear hq
  clear hb1 hb2
  refine LoopI.of (fun (lpx : Nat × Int) => match lpx with | (fu4005, v3837) => (⟨[(0, .v (.func (.yield l) #[] #[])), (1, .ptr [DI c_0.v.Source, DI c_0.v.Class, DI c_0.v.From, DI c_0.v.On.Lo, DI c_0.v.On.Hi, DI c_0.v.Off.Lo, DI c_0.v.Off.Hi, DI c_0.v.Moon, DI c_0.v.Fog, DI c_0.v.Known, DI c_0.v.Until, DI c_0.n.No, DI c_0.n.Set.Lo, DI c_0.n.Set.Hi, DI c_0.n.Rise.Lo, DI c_0.n.Rise.Hi, DI c_0.n.Light.Lo, DI c_0.n.Light.Hi, DI c_0.n.Fog] 0), (4, DB e2756), (11, lD 1 ([false, true] : List Bool) cB), (12, DI (([false, true] : List Bool).length : Int)), (13, DI v690), (14, DB (decide (v690 < (([false, true] : List Bool).length : Int)))), (33, DB false), (42, lD 1 ([c_0.n.Set.Lo, c_0.n.Set.Hi] : List Int) cI), (43, DI (([c_0.n.Set.Lo, c_0.n.Set.Hi] : List Int).length : Int)), (44, DI v3837)], [], 2⟩ : Sy)) (fun lpx q => ∃ e, loopIO (it_bylaw_window_ends_1_L114 c_0 e2756) lpx.1 lpx.2 = some e ∧ Hp3 en_bylaw_window_ends_1 q e.1 _ _ ∧ e.2 = ev4003.2) (fun lpx => lpx.1) (FUEL, 0) ⟨_, he, hp, rfl⟩ (SubY.fz [1] rfl 2 rfl ⟨tR rfl, tR rfl, tR rfl, tR rfl, tR rfl, tR rfl, tR rfl, tR rfl, tR rfl, tR rfl, tR rfl, trivial⟩ trivial) ?_
  clear hp he
  rintro ⟨fu4005, v3837⟩ q ⟨el4009, hi4006, hp, hx4010⟩
  obtain ⟨fu4005, b, tl, rfl, hm, hb1, hi4006⟩ := loopI_step hi4006
  replace hp := hp.in1 hb1
  clear hb1
  have hq : b.2 = b.2 := rfl
  revert hm
  refine VIf.b (fun h4012 hm => ?_) (fun h4012 hm => ?_)
  obtain ⟨e4013, hx4014, hm⟩ := bd_some hm
  refine ⟨_, el_idx (fun _ => rfl) hx4014, ?_⟩
  refine ⟨([c_0.n.Rise.Lo, c_0.n.Rise.Hi] : List Int).flatMap cI, ([c_0.n.Rise.Lo, c_0.n.Rise.Hi] : List Int).length, ⟨rfl, rfl⟩, ?_⟩
  obtain ⟨ev4081, rr4085, he, hk4082, hb1, hb2⟩ := bindI_some hm
  replace hp := hp.in1 hb1
  have hq4089 := hq.trans hb2
  clear hq
  clear hb1 hb2
  refine LoopI.of (fun (lpx : Nat × Int) => match lpx with | (fu4083, v4032) => (⟨[(0, .v (.func (.yield l) #[] #[])), (1, .ptr [DI c_0.v.Source, DI c_0.v.Class, DI c_0.v.From, DI c_0.v.On.Lo, DI c_0.v.On.Hi, DI c_0.v.Off.Lo, DI c_0.v.Off.Hi, DI c_0.v.Moon, DI c_0.v.Fog, DI c_0.v.Known, DI c_0.v.Until, DI c_0.n.No, DI c_0.n.Set.Lo, DI c_0.n.Set.Hi, DI c_0.n.Rise.Lo, DI c_0.n.Rise.Hi, DI c_0.n.Light.Lo, DI c_0.n.Light.Hi, DI c_0.n.Fog] 0), (4, DB e2756), (6, DI e4013), (11, lD 1 ([false, true] : List Bool) cB), (12, DI (([false, true] : List Bool).length : Int)), (13, DI v690), (14, DB (decide (v690 < (([false, true] : List Bool).length : Int)))), (33, DB false), (42, lD 1 ([c_0.n.Set.Lo, c_0.n.Set.Hi] : List Int) cI), (43, DI (([c_0.n.Set.Lo, c_0.n.Set.Hi] : List Int).length : Int)), (44, DI v3837), (45, DB (decide (v3837 < (([c_0.n.Set.Lo, c_0.n.Set.Hi] : List Int).length : Int)))), (56, lD 1 ([c_0.n.Rise.Lo, c_0.n.Rise.Hi] : List Int) cI), (57, DI (([c_0.n.Rise.Lo, c_0.n.Rise.Hi] : List Int).length : Int)), (58, DI v4032)], [], 3⟩ : Sy)) (fun lpx q => ∃ e, loopIO (it_bylaw_window_ends_1_L117 c_0 e2756 e4013) lpx.1 lpx.2 = some e ∧ Hp3 en_bylaw_window_ends_1 q e.1 _ _ ∧ e.2 = ev4081.2) (fun lpx => lpx.1) (FUEL, 0) ⟨_, he, hp, rfl⟩ (SubY.fz [2] rfl 3 rfl ⟨tR rfl, tR rfl, tR rfl, tR rfl, tR rfl, tR rfl, tR rfl, tR rfl, tR rfl, tR rfl, tR rfl, tR rfl, tR rfl, tR rfl, tR rfl, tR rfl, trivial⟩ trivial) ?_
  clear hp he
  rintro ⟨fu4083, v4032⟩ q ⟨el4087, hi4084, hp, hx4088⟩
  obtain ⟨fu4083, b, tl, rfl, hm, hb1, hi4084⟩ := loopI_step hi4084
  replace hp := hp.in1 hb1
  clear hb1
  have hq : b.2 = b.2 := rfl
  revert hm
  refine VIf.b (fun h4090 hm => ?_) (fun h4090 hm => ?_)
  obtain ⟨e4091, hx4092, hm⟩ := bd_some hm
  refine ⟨_, el_idx (fun _ => rfl) hx4092, ?_⟩
  refine ⟨([c_0.n.Light.Lo, c_0.n.Light.Hi] : List Int).flatMap cI, ([c_0.n.Light.Lo, c_0.n.Light.Hi] : List Int).length, ⟨rfl, rfl⟩, ?_⟩
  obtain ⟨ev4107, rr4111, he, hk4108, hb1, hb2⟩ := bindI_some hm
  replace hp := hp.in1 hb1
  have hq4115 := hq.trans hb2
  clear hq
  clear hb1 hb2
  refine LoopI.of (fun (lpx : Nat × Int) => match lpx with | (fu4109, v4097) => (⟨[(0, .v (.func (.yield l) #[] #[])), (1, .ptr [DI c_0.v.Source, DI c_0.v.Class, DI c_0.v.From, DI c_0.v.On.Lo, DI c_0.v.On.Hi, DI c_0.v.Off.Lo, DI c_0.v.Off.Hi, DI c_0.v.Moon, DI c_0.v.Fog, DI c_0.v.Known, DI c_0.v.Until, DI c_0.n.No, DI c_0.n.Set.Lo, DI c_0.n.Set.Hi, DI c_0.n.Rise.Lo, DI c_0.n.Rise.Hi, DI c_0.n.Light.Lo, DI c_0.n.Light.Hi, DI c_0.n.Fog] 0), (4, DB e2756), (6, DI e4013), (8, DI e4091), (11, lD 1 ([false, true] : List Bool) cB), (12, DI (([false, true] : List Bool).length : Int)), (13, DI v690), (14, DB (decide (v690 < (([false, true] : List Bool).length : Int)))), (33, DB false), (42, lD 1 ([c_0.n.Set.Lo, c_0.n.Set.Hi] : List Int) cI), (43, DI (([c_0.n.Set.Lo, c_0.n.Set.Hi] : List Int).length : Int)), (44, DI v3837), (45, DB (decide (v3837 < (([c_0.n.Set.Lo, c_0.n.Set.Hi] : List Int).length : Int)))), (56, lD 1 ([c_0.n.Rise.Lo, c_0.n.Rise.Hi] : List Int) cI), (57, DI (([c_0.n.Rise.Lo, c_0.n.Rise.Hi] : List Int).length : Int)), (58, DI v4032), (59, DB (decide (v4032 < (([c_0.n.Rise.Lo, c_0.n.Rise.Hi] : List Int).length : Int)))), (70, lD 1 ([c_0.n.Light.Lo, c_0.n.Light.Hi] : List Int) cI), (71, DI (([c_0.n.Light.Lo, c_0.n.Light.Hi] : List Int).length : Int)), (72, DI v4097)], [], 4⟩ : Sy)) (fun lpx q => ∃ e, loopIO (it_bylaw_window_ends_1_L118 c_0 e2756 e4013 e4091) lpx.1 lpx.2 = some e ∧ Hp3 en_bylaw_window_ends_1 q e.1 _ _ ∧ e.2 = ev4107.2) (fun lpx => lpx.1) (FUEL, 0) ⟨_, he, hp, rfl⟩ (SubY.fz [3] rfl 4 rfl ⟨tR rfl, tR rfl, tR rfl, tR rfl, tR rfl, tR rfl, tR rfl, tR rfl, tR rfl, tR rfl, tR rfl, tR rfl, tR rfl, tR rfl, tR rfl, tR rfl, tR rfl, tR rfl, tR rfl, tR rfl, tR rfl, trivial⟩ trivial) ?_
  clear hp he
  rintro ⟨fu4109, v4097⟩ q ⟨el4113, hi4110, hp, hx4114⟩
  obtain ⟨fu4109, b, tl, rfl, hm, hb1, hi4110⟩ := loopI_step hi4110
  replace hp := hp.in1 hb1
  clear hb1
  have hq : b.2 = b.2 := rfl
  revert hm
  refine VIf.b (fun h4116 hm => ?_) (fun h4116 hm => ?_)
  obtain ⟨e4117, hx4118, hm⟩ := bd_some hm
  refine ⟨_, el_idx (fun _ => rfl) hx4118, ?_⟩
  obtain ⟨rb4119, hm, hb1, hb2⟩ := emit_some hm
  refine YieldY.of (x' := en_bylaw_window_ends_1 (⟨e4013, e4091, e4117, e2756⟩ : TTruth)) rfl rfl (RetY.le (leD.refl _)) (hp.pre hb1) ?_ ?_
  replace hp := hp.emit hb1
  replace hq := hq.trans hb2
  cases hm
  rw [hq] at hi4110
  obtain ⟨e2, hm, rfl, ht⟩ := hi4110
  exact ⟨(fu4109, (W (v4097 + 1))), _, SubY.of 4 rfl ⟨tR rfl, tR rfl, tR rfl, tR rfl, tR rfl, tR rfl, tR rfl, tR rfl, tR rfl, tR rfl, tR rfl, tR rfl, tR rfl, tR rfl, tR rfl, tR rfl, tR rfl, tR rfl, tR rfl, tR rfl, tR rfl, trivial⟩ trivial, rfl, ⟨_, hm, hp.out rfl, ht.symm.trans hx4114⟩, Nat.lt_succ_self _⟩
  exact .inl rfl
  cases hm
  rw [hq] at hi4110
  obtain ⟨rfl, ht⟩ := hi4110
  replace hp := (hp.out (l' := []) rfl).out rfl
  have hm := hk4108
  try rw [← hx4114, ht] at hm
  have hq := hq4115
  cases hm
  rw [hq] at hi4084
  obtain ⟨e2, hm, rfl, ht⟩ := hi4084
  exact ⟨(fu4083, (W (v4032 + 1))), _, SubY.of 3 rfl ⟨tR rfl, tR rfl, tR rfl, tR rfl, tR rfl, tR rfl, tR rfl, tR rfl, tR rfl, tR rfl, tR rfl, tR rfl, tR rfl, tR rfl, tR rfl, tR rfl, trivial⟩ trivial, rfl, ⟨_, hm, hp.out rfl, ht.symm.trans hx4088⟩, Nat.lt_succ_self _⟩
  cases hm
  rw [hq] at hi4084
  obtain ⟨rfl, ht⟩ := hi4084
  replace hp := (hp.out (l' := []) rfl).out rfl
  have hm := hk4082
  try rw [← hx4088, ht] at hm
  have hq := hq4089
  cases hm
  rw [hq] at hi4006
  obtain ⟨e2, hm, rfl, ht⟩ := hi4006
  exact ⟨(fu4005, (W (v3837 + 1))), _, SubY.of 2 rfl ⟨tR rfl, tR rfl, tR rfl, tR rfl, tR rfl, tR rfl, tR rfl, tR rfl, tR rfl, tR rfl, tR rfl, trivial⟩ trivial, rfl, ⟨_, hm, hp.out rfl, ht.symm.trans hx4010⟩, Nat.lt_succ_self _⟩
  cases hm
  rw [hq] at hi4006
  obtain ⟨rfl, ht⟩ := hi4006
  replace hp := (hp.out (l' := []) rfl).out rfl
  have hm := hk4004
  try rw [← hx4010, ht] at hm
  have hq := hq4011
  cases hm
  rw [hq] at hi2749
  obtain ⟨e2, hm, rfl, ht⟩ := hi2749
  exact ⟨(fu2748, (W (v690 + 1))), _, SubY.of 1 rfl ⟨tR rfl, tR rfl, tR rfl, tR rfl, tR rfl, trivial⟩ trivial, rfl, ⟨_, hm, hp.out rfl, ht.symm.trans hx2753⟩, Nat.lt_succ_self _⟩
  cases hm
  rw [hq] at hi2749
  obtain ⟨rfl, ht⟩ := hi2749
  replace hp := (hp.out (l' := []) rfl).out rfl
  have hm := hk2747
  try rw [← hx2753, ht] at hm
  clear hq
  cases hm
  exact .inr (congrArg some (hp.done rfl))

def m_bylaw_window_may_L1 (w : Twindow) (t : TTimes) (x3 : Bool) : Bool → TTruth → Option (Sum Bool Bool) := fun v20 y7 =>
  if y7.Fog = true then
    if (decide (t.On ≥ 0)) = true then
      if x3 = true then
        Option.bind (m_bylaw_in t.On (W ((W (w.n.Set.Lo + w.v.On.Lo)) - w.v.Fog)) (W ((W (w.n.Set.Hi + w.v.On.Hi)) - w.v.Fog))) fun x36 =>
        if x36 = true then
          some (.inr true)
        else
          some (.inl v20)
      else
        some (.inl v20)
    else
      some (.inl v20)
  else
    if (decide (t.On ≥ 0)) = true then
      if x3 = true then
        if (decide (y7.Light < w.v.Moon)) = true then
          Option.bind (m_bylaw_in t.On (W ((W (w.n.Set.Lo + w.v.On.Lo)) - 0)) (W ((W (w.n.Set.Hi + w.v.On.Hi)) - 0))) fun x42 =>
          if x42 = true then
            some (.inr true)
          else
            some (.inl v20)
        else
          some (.inl v20)
      else
        some (.inl v20)
    else
      some (.inl v20)
def m_bylaw_window_may (w : Twindow) (t : TTimes) : Option Bool :=
  if (w.n.Fog != 1) = true then
    if (decide (w.n.Light.Hi ≥ w.v.Moon)) = true then
      some true
    else
      Option.bind (m_bylaw_in t.Off (W (w.n.Rise.Lo - w.v.Off.Hi)) (W (w.n.Rise.Hi - w.v.Off.Lo))) fun x3 =>
      Option.bind (m_bylaw_window_ends w) fun x5 =>
      Option.bind (it_bylaw_window_ends_1 x5) fun l45 =>
      Option.bind (rangeF (m_bylaw_window_may_L1 w t x3) l45.1 false) fun e =>
      match e with
      | .inl v46 =>
        some false
      | .inr v47 =>
        some v47
  else
    Option.bind (m_bylaw_in t.Off (W (w.n.Rise.Lo - w.v.Off.Hi)) (W (w.n.Rise.Hi - w.v.Off.Lo))) fun x62 =>
    Option.bind (m_bylaw_window_ends w) fun x64 =>
    Option.bind (it_bylaw_window_ends_1 x64) fun l104 =>
    Option.bind (rangeF (m_bylaw_window_may_L1 w t x62) l104.1 false) fun e =>
    match e with
    | .inl v105 =>
      some false
    | .inr v106 =>
      some v106
theorem d_bylaw_window_may (w : Twindow) (t : TTimes) (r : Bool) (hm : m_bylaw_window_may w t = some r) : Does Tryz.prog 65 [.agg (Twindow.c w), .agg (TTimes.c t)] (fun x => x = DB r) := by
  refine does_zr (X := ⟨Tryz.prog, tt, Tryz.f65.ntmps, [], [], [], [], [70], []⟩) pok _ Tryz.func65 rfl rfl (Nat.le_of_ble_eq_true rfl) ?_
  intro ds
  intro ds
  revert hm
  refine VIf.b (fun h1 hm => ?_) (fun h1 hm => ?_)
  revert hm
  refine VIf.b (fun h2 hm => ?_) (fun h2 hm => ?_)
  intro ds
  intro ds
  cases hm
  exact RetY.le (leD.refl _)
  intro ds
  intro ds
  obtain ⟨x3, hx4, hm⟩ := bd_some hm
  refine CallY.det (d_bylaw_in t.Off (W (w.n.Rise.Lo - w.v.Off.Hi)) (W (w.n.Rise.Hi - w.v.Off.Lo)) _ hx4) ?_
  intro ds
  obtain ⟨x5, hx6, hm⟩ := bd_some hm
  refine CallY.det (d_bylaw_window_ends w _ hx6) ?_
  obtain ⟨l45, hl49, hm⟩ := bd_some hm
  obtain ⟨ev48, he, hm⟩ := bd_some hm
  refine RangeY.ofZ (E := Bool) en_bylaw_window_ends_1 l45.1 (m_bylaw_window_may_L1 w t x3) (fun (lpx : Bool) => match lpx with | v20 => (⟨[(0, .agg [DI w.v.Source, DI w.v.Class, DI w.v.From, DI w.v.On.Lo, DI w.v.On.Hi, DI w.v.Off.Lo, DI w.v.Off.Hi, DI w.v.Moon, DI w.v.Fog, DI w.v.Known, DI w.v.Until, DI w.n.No, DI w.n.Set.Lo, DI w.n.Set.Hi, DI w.n.Rise.Lo, DI w.n.Rise.Hi, DI w.n.Light.Lo, DI w.n.Light.Hi, DI w.n.Fog]), (1, .agg [DI t.On, DI t.Off]), (2, .own 0 0), (3, .own 1 0), (4, .own 2 0), (5, .own 3 0), (21, DB (decide (w.n.Light.Hi ≥ w.v.Moon)))], [(0, .blk [DI w.v.Source, DI w.v.Class, DI w.v.From, DI w.v.On.Lo, DI w.v.On.Hi, DI w.v.Off.Lo, DI w.v.Off.Hi, DI w.v.Moon, DI w.v.Fog, DI w.v.Known, DI w.v.Until, DI w.n.No, DI w.n.Set.Lo, DI w.n.Set.Hi, DI w.n.Rise.Lo, DI w.n.Rise.Hi, DI w.n.Light.Lo, DI w.n.Light.Hi, DI w.n.Fog] 91), (1, .blk [DI t.On, DI t.Off] 73), (2, .blk [DB v20] 4), (3, .blk [DB x3] 4)], 4⟩ : Sy)) (fun (lpx : Bool) => match lpx with | v20 => (⟨[(0, .agg [DI w.v.Source, DI w.v.Class, DI w.v.From, DI w.v.On.Lo, DI w.v.On.Hi, DI w.v.Off.Lo, DI w.v.Off.Hi, DI w.v.Moon, DI w.v.Fog, DI w.v.Known, DI w.v.Until, DI w.n.No, DI w.n.Set.Lo, DI w.n.Set.Hi, DI w.n.Rise.Lo, DI w.n.Rise.Hi, DI w.n.Light.Lo, DI w.n.Light.Hi, DI w.n.Fog]), (1, .agg [DI t.On, DI t.Off]), (2, .own 0 0), (3, .own 1 0), (4, .own 2 0), (5, .own 3 0), (21, DB (decide (w.n.Light.Hi ≥ w.v.Moon)))], [(0, .blk [DI w.v.Source, DI w.v.Class, DI w.v.From, DI w.v.On.Lo, DI w.v.On.Hi, DI w.v.Off.Lo, DI w.v.Off.Hi, DI w.v.Moon, DI w.v.Fog, DI w.v.Known, DI w.v.Until, DI w.n.No, DI w.n.Set.Lo, DI w.n.Set.Hi, DI w.n.Rise.Lo, DI w.n.Rise.Hi, DI w.n.Light.Lo, DI w.n.Light.Hi, DI w.n.Fog] 91), (1, .blk [DI t.On, DI t.Off] 73), (2, .blk [DB v20] 4), (3, .blk [DB x3] 4)], 4⟩ : Sy)) (fun _ => .ret) false ev48 [0, 1, 2, 3, 4, 5, 21] (i_bylaw_window_ends_1 x5 l45.1 hl49) he (enters_f pok Tryz.func91 rfl) rfl rfl (fun _ => rfl) rfl rfl rfl (by rintro v20; rfl) (by rintro v20; rfl) (SubY.of 4 rfl ⟨tR rfl, tR rfl, tR rfl, tR rfl, tR rfl, tR rfl, tR rfl, trivial⟩ ⟨hR rfl, hR rfl, hR rfl, hR rfl, trivial⟩) ?_ ?_ (fun _ => .inl rfl) ?_
  rintro v46 rfl
  intro ds
  intro ds
  cases hm
  exact RetY.le (leD.refl _)
  rintro v47 rfl
  cases hm
  exact RetY.le (leD.refl _)
  clear he hm
  rintro v20 y7 b hm
  revert hm
  refine VIf.b (fun h50 hm => ?_) (fun h50 hm => ?_)
  revert hm
  refine VIf.b (fun h51 hm => ?_) (fun h51 hm => ?_)
  revert hm
  refine VIf.b (fun h52 hm => ?_) (fun h52 hm => ?_)
  refine VIf.t h50 ?_
  obtain ⟨x53, hx54, hm⟩ := bd_some hm
  refine CallY.det (d_bylaw_in t.On (W ((W (w.n.Set.Lo + w.v.On.Lo)) - w.v.Fog)) (W ((W (w.n.Set.Hi + w.v.On.Hi)) - w.v.Fog)) _ hx54) ?_
  revert hm
  refine VIf.b (fun h55 hm => ?_) (fun h55 hm => ?_)
  cases hm
  exact ⟨true, rfl, rfl, SubY.of 4 rfl ⟨tR rfl, tR rfl, tR rfl, tR rfl, tR rfl, tR rfl, tR rfl, trivial⟩ ⟨hR rfl, hR rfl, hR rfl, hR rfl, trivial⟩⟩
  cases hm
  exact ⟨v20, rfl, SubY.of 4 rfl ⟨tR rfl, tR rfl, tR rfl, tR rfl, tR rfl, tR rfl, tR rfl, trivial⟩ ⟨hR rfl, hR rfl, hR rfl, hR rfl, trivial⟩⟩
  cases hm
  exact ⟨v20, rfl, SubY.of 4 rfl ⟨tR rfl, tR rfl, tR rfl, tR rfl, tR rfl, tR rfl, tR rfl, trivial⟩ ⟨hR rfl, hR rfl, hR rfl, hR rfl, trivial⟩⟩
  cases hm
  exact ⟨v20, rfl, SubY.of 4 rfl ⟨tR rfl, tR rfl, tR rfl, tR rfl, tR rfl, tR rfl, tR rfl, trivial⟩ ⟨hR rfl, hR rfl, hR rfl, hR rfl, trivial⟩⟩
  revert hm
  refine VIf.b (fun h56 hm => ?_) (fun h56 hm => ?_)
  revert hm
  refine VIf.b (fun h57 hm => ?_) (fun h57 hm => ?_)
  refine VIf.f h50 ?_
  revert hm
  refine VIf.b (fun h58 hm => ?_) (fun h58 hm => ?_)
  obtain ⟨x59, hx60, hm⟩ := bd_some hm
  refine CallY.det (d_bylaw_in t.On (W ((W (w.n.Set.Lo + w.v.On.Lo)) - 0)) (W ((W (w.n.Set.Hi + w.v.On.Hi)) - 0)) _ hx60) ?_
  revert hm
  refine VIf.b (fun h61 hm => ?_) (fun h61 hm => ?_)
  cases hm
  exact ⟨true, rfl, rfl, SubY.of 4 rfl ⟨tR rfl, tR rfl, tR rfl, tR rfl, tR rfl, tR rfl, tR rfl, trivial⟩ ⟨hR rfl, hR rfl, hR rfl, hR rfl, trivial⟩⟩
  cases hm
  exact ⟨v20, rfl, SubY.of 4 rfl ⟨tR rfl, tR rfl, tR rfl, tR rfl, tR rfl, tR rfl, tR rfl, trivial⟩ ⟨hR rfl, hR rfl, hR rfl, hR rfl, trivial⟩⟩
  cases hm
  exact ⟨v20, rfl, SubY.of 4 rfl ⟨tR rfl, tR rfl, tR rfl, tR rfl, tR rfl, tR rfl, tR rfl, trivial⟩ ⟨hR rfl, hR rfl, hR rfl, hR rfl, trivial⟩⟩
  cases hm
  exact ⟨v20, rfl, SubY.of 4 rfl ⟨tR rfl, tR rfl, tR rfl, tR rfl, tR rfl, tR rfl, tR rfl, trivial⟩ ⟨hR rfl, hR rfl, hR rfl, hR rfl, trivial⟩⟩
  cases hm
  exact ⟨v20, rfl, SubY.of 4 rfl ⟨tR rfl, tR rfl, tR rfl, tR rfl, tR rfl, tR rfl, tR rfl, trivial⟩ ⟨hR rfl, hR rfl, hR rfl, hR rfl, trivial⟩⟩
  intro ds
  intro ds
  obtain ⟨x62, hx63, hm⟩ := bd_some hm
  refine CallY.det (d_bylaw_in t.Off (W (w.n.Rise.Lo - w.v.Off.Hi)) (W (w.n.Rise.Hi - w.v.Off.Lo)) _ hx63) ?_
  intro ds
  obtain ⟨x64, hx65, hm⟩ := bd_some hm
  refine CallY.det (d_bylaw_window_ends w _ hx65) ?_
  obtain ⟨l104, hl108, hm⟩ := bd_some hm
  obtain ⟨ev107, he, hm⟩ := bd_some hm
  refine RangeY.ofZ (E := Bool) en_bylaw_window_ends_1 l104.1 (m_bylaw_window_may_L1 w t x62) (fun (lpx : Bool) => match lpx with | v79 => (⟨[(0, .agg [DI w.v.Source, DI w.v.Class, DI w.v.From, DI w.v.On.Lo, DI w.v.On.Hi, DI w.v.Off.Lo, DI w.v.Off.Hi, DI w.v.Moon, DI w.v.Fog, DI w.v.Known, DI w.v.Until, DI w.n.No, DI w.n.Set.Lo, DI w.n.Set.Hi, DI w.n.Rise.Lo, DI w.n.Rise.Hi, DI w.n.Light.Lo, DI w.n.Light.Hi, DI w.n.Fog]), (1, .agg [DI t.On, DI t.Off]), (2, .own 0 0), (3, .own 1 0), (4, .own 2 0), (5, .own 3 0), (21, DB false)], [(0, .blk [DI w.v.Source, DI w.v.Class, DI w.v.From, DI w.v.On.Lo, DI w.v.On.Hi, DI w.v.Off.Lo, DI w.v.Off.Hi, DI w.v.Moon, DI w.v.Fog, DI w.v.Known, DI w.v.Until, DI w.n.No, DI w.n.Set.Lo, DI w.n.Set.Hi, DI w.n.Rise.Lo, DI w.n.Rise.Hi, DI w.n.Light.Lo, DI w.n.Light.Hi, DI w.n.Fog] 91), (1, .blk [DI t.On, DI t.Off] 73), (2, .blk [DB v79] 4), (3, .blk [DB x62] 4)], 4⟩ : Sy)) (fun (lpx : Bool) => match lpx with | v79 => (⟨[(0, .agg [DI w.v.Source, DI w.v.Class, DI w.v.From, DI w.v.On.Lo, DI w.v.On.Hi, DI w.v.Off.Lo, DI w.v.Off.Hi, DI w.v.Moon, DI w.v.Fog, DI w.v.Known, DI w.v.Until, DI w.n.No, DI w.n.Set.Lo, DI w.n.Set.Hi, DI w.n.Rise.Lo, DI w.n.Rise.Hi, DI w.n.Light.Lo, DI w.n.Light.Hi, DI w.n.Fog]), (1, .agg [DI t.On, DI t.Off]), (2, .own 0 0), (3, .own 1 0), (4, .own 2 0), (5, .own 3 0), (21, DB false)], [(0, .blk [DI w.v.Source, DI w.v.Class, DI w.v.From, DI w.v.On.Lo, DI w.v.On.Hi, DI w.v.Off.Lo, DI w.v.Off.Hi, DI w.v.Moon, DI w.v.Fog, DI w.v.Known, DI w.v.Until, DI w.n.No, DI w.n.Set.Lo, DI w.n.Set.Hi, DI w.n.Rise.Lo, DI w.n.Rise.Hi, DI w.n.Light.Lo, DI w.n.Light.Hi, DI w.n.Fog] 91), (1, .blk [DI t.On, DI t.Off] 73), (2, .blk [DB v79] 4), (3, .blk [DB x62] 4)], 4⟩ : Sy)) (fun _ => .ret) false ev107 [0, 1, 2, 3, 4, 5, 21] (i_bylaw_window_ends_1 x64 l104.1 hl108) he (enters_f pok Tryz.func91 rfl) rfl rfl (fun _ => rfl) rfl rfl rfl (by rintro v79; rfl) (by rintro v79; rfl) (SubY.of 4 rfl ⟨tR rfl, tR rfl, tR rfl, tR rfl, tR rfl, tR rfl, tR rfl, trivial⟩ ⟨hR rfl, hR rfl, hR rfl, hR rfl, trivial⟩) ?_ ?_ (fun _ => .inl rfl) ?_
  rintro v105 rfl
  intro ds
  intro ds
  cases hm
  exact RetY.le (leD.refl _)
  rintro v106 rfl
  cases hm
  exact RetY.le (leD.refl _)
  clear he hm
  rintro v79 y66 b hm
  revert hm
  refine VIf.b (fun h109 hm => ?_) (fun h109 hm => ?_)
  revert hm
  refine VIf.b (fun h110 hm => ?_) (fun h110 hm => ?_)
  revert hm
  refine VIf.b (fun h111 hm => ?_) (fun h111 hm => ?_)
  refine VIf.t h109 ?_
  obtain ⟨x112, hx113, hm⟩ := bd_some hm
  refine CallY.det (d_bylaw_in t.On (W ((W (w.n.Set.Lo + w.v.On.Lo)) - w.v.Fog)) (W ((W (w.n.Set.Hi + w.v.On.Hi)) - w.v.Fog)) _ hx113) ?_
  revert hm
  refine VIf.b (fun h114 hm => ?_) (fun h114 hm => ?_)
  cases hm
  exact ⟨true, rfl, rfl, SubY.of 4 rfl ⟨tR rfl, tR rfl, tR rfl, tR rfl, tR rfl, tR rfl, tR rfl, trivial⟩ ⟨hR rfl, hR rfl, hR rfl, hR rfl, trivial⟩⟩
  cases hm
  exact ⟨v79, rfl, SubY.of 4 rfl ⟨tR rfl, tR rfl, tR rfl, tR rfl, tR rfl, tR rfl, tR rfl, trivial⟩ ⟨hR rfl, hR rfl, hR rfl, hR rfl, trivial⟩⟩
  cases hm
  exact ⟨v79, rfl, SubY.of 4 rfl ⟨tR rfl, tR rfl, tR rfl, tR rfl, tR rfl, tR rfl, tR rfl, trivial⟩ ⟨hR rfl, hR rfl, hR rfl, hR rfl, trivial⟩⟩
  cases hm
  exact ⟨v79, rfl, SubY.of 4 rfl ⟨tR rfl, tR rfl, tR rfl, tR rfl, tR rfl, tR rfl, tR rfl, trivial⟩ ⟨hR rfl, hR rfl, hR rfl, hR rfl, trivial⟩⟩
  revert hm
  refine VIf.b (fun h115 hm => ?_) (fun h115 hm => ?_)
  revert hm
  refine VIf.b (fun h116 hm => ?_) (fun h116 hm => ?_)
  refine VIf.f h109 ?_
  revert hm
  refine VIf.b (fun h117 hm => ?_) (fun h117 hm => ?_)
  obtain ⟨x118, hx119, hm⟩ := bd_some hm
  refine CallY.det (d_bylaw_in t.On (W ((W (w.n.Set.Lo + w.v.On.Lo)) - 0)) (W ((W (w.n.Set.Hi + w.v.On.Hi)) - 0)) _ hx119) ?_
  revert hm
  refine VIf.b (fun h120 hm => ?_) (fun h120 hm => ?_)
  cases hm
  exact ⟨true, rfl, rfl, SubY.of 4 rfl ⟨tR rfl, tR rfl, tR rfl, tR rfl, tR rfl, tR rfl, tR rfl, trivial⟩ ⟨hR rfl, hR rfl, hR rfl, hR rfl, trivial⟩⟩
  cases hm
  exact ⟨v79, rfl, SubY.of 4 rfl ⟨tR rfl, tR rfl, tR rfl, tR rfl, tR rfl, tR rfl, tR rfl, trivial⟩ ⟨hR rfl, hR rfl, hR rfl, hR rfl, trivial⟩⟩
  cases hm
  exact ⟨v79, rfl, SubY.of 4 rfl ⟨tR rfl, tR rfl, tR rfl, tR rfl, tR rfl, tR rfl, tR rfl, trivial⟩ ⟨hR rfl, hR rfl, hR rfl, hR rfl, trivial⟩⟩
  cases hm
  exact ⟨v79, rfl, SubY.of 4 rfl ⟨tR rfl, tR rfl, tR rfl, tR rfl, tR rfl, tR rfl, tR rfl, trivial⟩ ⟨hR rfl, hR rfl, hR rfl, hR rfl, trivial⟩⟩
  cases hm
  exact ⟨v79, rfl, SubY.of 4 rfl ⟨tR rfl, tR rfl, tR rfl, tR rfl, tR rfl, tR rfl, tR rfl, trivial⟩ ⟨hR rfl, hR rfl, hR rfl, hR rfl, trivial⟩⟩

def m_bylaw_lawful (v : TVersion) (x : TTruth) (t : TTimes) : Option Bool :=
  if (!x.Fog) = true then
    if (decide (x.Light ≥ v.Moon)) = true then
      some true
    else
      if x.Fog = true then
        if (decide (t.On ≥ 0)) = true then
          Option.bind (m_bylaw_in t.On (W ((W (x.Set + v.On.Lo)) - v.Fog)) (W ((W (x.Set + v.On.Hi)) - v.Fog))) fun x5 =>
          if x5 = true then
            Option.bind (m_bylaw_in t.Off (W (x.Rise - v.Off.Hi)) (W (x.Rise - v.Off.Lo))) fun x8 =>
            some x8
          else
            some false
        else
          some false
      else
        if (decide (t.On ≥ 0)) = true then
          Option.bind (m_bylaw_in t.On (W ((W (x.Set + v.On.Lo)) - 0)) (W ((W (x.Set + v.On.Hi)) - 0))) fun x11 =>
          if x11 = true then
            Option.bind (m_bylaw_in t.Off (W (x.Rise - v.Off.Hi)) (W (x.Rise - v.Off.Lo))) fun x14 =>
            some x14
          else
            some false
        else
          some false
  else
    if x.Fog = true then
      if (decide (t.On ≥ 0)) = true then
        Option.bind (m_bylaw_in t.On (W ((W (x.Set + v.On.Lo)) - v.Fog)) (W ((W (x.Set + v.On.Hi)) - v.Fog))) fun x18 =>
        if x18 = true then
          Option.bind (m_bylaw_in t.Off (W (x.Rise - v.Off.Hi)) (W (x.Rise - v.Off.Lo))) fun x21 =>
          some x21
        else
          some false
      else
        some false
    else
      if (decide (t.On ≥ 0)) = true then
        Option.bind (m_bylaw_in t.On (W ((W (x.Set + v.On.Lo)) - 0)) (W ((W (x.Set + v.On.Hi)) - 0))) fun x24 =>
        if x24 = true then
          Option.bind (m_bylaw_in t.Off (W (x.Rise - v.Off.Hi)) (W (x.Rise - v.Off.Lo))) fun x27 =>
          some x27
        else
          some false
      else
        some false
theorem d_bylaw_lawful (v : TVersion) (x : TTruth) (t : TTimes) (r : Bool) (hm : m_bylaw_lawful v x t = some r) : Does Tryz.prog 67 [.agg (TVersion.c v), .agg (TTruth.c x), .agg (TTimes.c t)] (fun x => x = DB r) := by
  refine does_zy (X := ⟨Tryz.prog, tt, Tryz.f67.ntmps, [], [], [], [], [70], []⟩) pok _ Tryz.func67 rfl rfl (Nat.le_of_ble_eq_true rfl) ?_
  revert hm
  refine VIf.b (fun h1 hm => ?_) (fun h1 hm => ?_)
  revert hm
  refine VIf.b (fun h2 hm => ?_) (fun h2 hm => ?_)
  cases hm
  exact RetY.le (leD.refl _)
  revert hm
  refine VIf.b (fun h3 hm => ?_) (fun h3 hm => ?_)
  revert hm
  refine VIf.b (fun h4 hm => ?_) (fun h4 hm => ?_)
  obtain ⟨x5, hx6, hm⟩ := bd_some hm
  refine CallY.det (d_bylaw_in t.On (W ((W (x.Set + v.On.Lo)) - v.Fog)) (W ((W (x.Set + v.On.Hi)) - v.Fog)) _ hx6) ?_
  revert hm
  refine VIf.b (fun h7 hm => ?_) (fun h7 hm => ?_)
  obtain ⟨x8, hx9, hm⟩ := bd_some hm
  refine CallY.det (d_bylaw_in t.Off (W (x.Rise - v.Off.Hi)) (W (x.Rise - v.Off.Lo)) _ hx9) ?_
  cases hm
  exact RetY.le (leD.refl _)
  cases hm
  exact RetY.le (leD.refl _)
  cases hm
  exact RetY.le (leD.refl _)
  revert hm
  refine VIf.b (fun h10 hm => ?_) (fun h10 hm => ?_)
  obtain ⟨x11, hx12, hm⟩ := bd_some hm
  refine CallY.det (d_bylaw_in t.On (W ((W (x.Set + v.On.Lo)) - 0)) (W ((W (x.Set + v.On.Hi)) - 0)) _ hx12) ?_
  revert hm
  refine VIf.b (fun h13 hm => ?_) (fun h13 hm => ?_)
  obtain ⟨x14, hx15, hm⟩ := bd_some hm
  refine CallY.det (d_bylaw_in t.Off (W (x.Rise - v.Off.Hi)) (W (x.Rise - v.Off.Lo)) _ hx15) ?_
  cases hm
  exact RetY.le (leD.refl _)
  cases hm
  exact RetY.le (leD.refl _)
  cases hm
  exact RetY.le (leD.refl _)
  revert hm
  refine VIf.b (fun h16 hm => ?_) (fun h16 hm => ?_)
  revert hm
  refine VIf.b (fun h17 hm => ?_) (fun h17 hm => ?_)
  obtain ⟨x18, hx19, hm⟩ := bd_some hm
  refine CallY.det (d_bylaw_in t.On (W ((W (x.Set + v.On.Lo)) - v.Fog)) (W ((W (x.Set + v.On.Hi)) - v.Fog)) _ hx19) ?_
  revert hm
  refine VIf.b (fun h20 hm => ?_) (fun h20 hm => ?_)
  obtain ⟨x21, hx22, hm⟩ := bd_some hm
  refine CallY.det (d_bylaw_in t.Off (W (x.Rise - v.Off.Hi)) (W (x.Rise - v.Off.Lo)) _ hx22) ?_
  cases hm
  exact RetY.le (leD.refl _)
  cases hm
  exact RetY.le (leD.refl _)
  cases hm
  exact RetY.le (leD.refl _)
  revert hm
  refine VIf.b (fun h23 hm => ?_) (fun h23 hm => ?_)
  obtain ⟨x24, hx25, hm⟩ := bd_some hm
  refine CallY.det (d_bylaw_in t.On (W ((W (x.Set + v.On.Lo)) - 0)) (W ((W (x.Set + v.On.Hi)) - 0)) _ hx25) ?_
  revert hm
  refine VIf.b (fun h26 hm => ?_) (fun h26 hm => ?_)
  obtain ⟨x27, hx28, hm⟩ := bd_some hm
  refine CallY.det (d_bylaw_in t.Off (W (x.Rise - v.Off.Hi)) (W (x.Rise - v.Off.Lo)) _ hx28) ?_
  cases hm
  exact RetY.le (leD.refl _)
  cases hm
  exact RetY.le (leD.refl _)
  cases hm
  exact RetY.le (leD.refl _)

def m_bylaw_Kept_L1 (t : TTimes) (x10 : Twindow) : Int → TTruth → Option (Sum Int Int) := fun v23 y19 =>
  Option.bind (m_bylaw_lawful x10.v y19 t) fun x27 =>
  if (!x27) = true then
    some (.inr 2)
  else
    some (.inl v23)
def m_bylaw_Kept (b_ : TBylaw) (lamp : Int) (n : TNight) (t : TTimes) (night : Int) : Option (Int × Int) :=
  Option.bind (m_bylaw_Check b_) fun x1 =>
  if (x1 != 0) = true then
    some (0, x1)
  else
    Option.bind (m_bylaw_CheckNight n) fun x4 =>
    if (x4 != 0) = true then
      some (0, 12)
    else
      Option.bind (m_bylaw_areTimes t) fun x7 =>
      if (!x7) = true then
        some (0, 1)
      else
        Option.bind (m_bylaw_look b_ lamp n night) fun ⟨x10, x11⟩ =>
        if (x11 != 0) = true then
          some (0, x11)
        else
          Option.bind (m_bylaw_window_may x10 t) fun x14 =>
          if (!x14) = true then
            some (0, 0)
          else
            Option.bind (m_bylaw_window_ends x10) fun x17 =>
            Option.bind (it_bylaw_window_ends_1 x17) fun l30 =>
            Option.bind (rangeF (m_bylaw_Kept_L1 t x10) l30.1 0) fun e =>
            match e with
            | .inl v31 =>
              some (1, 0)
            | .inr v32 =>
              some (v32, 0)
theorem d_bylaw_Kept (b_ : TBylaw) (lamp : Int) (n : TNight) (t : TTimes) (night : Int) (r : (Int × Int)) (hm : m_bylaw_Kept b_ lamp n t night = some r) : Does Tryz.prog 38 [.agg (TBylaw.c b_), DI lamp, .agg (TNight.c n), .agg (TTimes.c t), DI night] (fun x => x = .tup [DI r.1, DI r.2]) := by
  refine does_zr (X := ⟨Tryz.prog, tt, Tryz.f38.ntmps, [], [], [], [], [70], []⟩) pok _ Tryz.func38 rfl rfl (Nat.le_of_ble_eq_true rfl) ?_
  intro ds
  intro ds
  obtain ⟨x1, hx2, hm⟩ := bd_some hm
  refine CallY.det (d_bylaw_Check b_ _ hx2) ?_
  intro ds
  revert hm
  refine VIf.b (fun h3 hm => ?_) (fun h3 hm => ?_)
  intro ds
  intro ds
  cases hm
  exact RetY.le (leD.refl _)
  intro ds
  obtain ⟨x4, hx5, hm⟩ := bd_some hm
  refine CallY.det (d_bylaw_CheckNight n _ hx5) ?_
  revert hm
  refine VIf.b (fun h6 hm => ?_) (fun h6 hm => ?_)
  intro ds
  intro ds
  cases hm
  exact RetY.le (leD.refl _)
  intro ds
  obtain ⟨x7, hx8, hm⟩ := bd_some hm
  refine CallY.det (d_bylaw_areTimes t _ hx8) ?_
  revert hm
  refine VIf.b (fun h9 hm => ?_) (fun h9 hm => ?_)
  intro ds
  intro ds
  cases hm
  exact RetY.le (leD.refl _)
  intro ds
  intro ds
  obtain ⟨⟨x10, x11⟩, hx12, hm⟩ := bd_some hm
  refine CallY.det (d_bylaw_look b_ lamp n night _ hx12) ?_
  intro ds
  revert hm
  refine VIf.b (fun h13 hm => ?_) (fun h13 hm => ?_)
  intro ds
  intro ds
  cases hm
  exact RetY.le (leD.refl _)
  intro ds
  intro ds
  obtain ⟨x14, hx15, hm⟩ := bd_some hm
  refine CallY.det (d_bylaw_window_may x10 t _ hx15) ?_
  revert hm
  refine VIf.b (fun h16 hm => ?_) (fun h16 hm => ?_)
  intro ds
  intro ds
  cases hm
  exact RetY.le (leD.refl _)
  intro ds
  intro ds
  obtain ⟨x17, hx18, hm⟩ := bd_some hm
  refine CallY.det (d_bylaw_window_ends x10 _ hx18) ?_
  obtain ⟨l30, hl34, hm⟩ := bd_some hm
  obtain ⟨ev33, he, hm⟩ := bd_some hm
  refine RangeY.ofZ (E := Int) en_bylaw_window_ends_1 l30.1 (m_bylaw_Kept_L1 t x10) (fun (lpx : Int) => match lpx with | v23 => (⟨[(0, .agg [lD 11 b_.Versions TVersion.c, lD 5 b_.Streets TStreet.c]), (1, DI lamp), (2, .agg [DI n.No, DI n.Set.Lo, DI n.Set.Hi, DI n.Rise.Lo, DI n.Rise.Hi, DI n.Light.Lo, DI n.Light.Hi, DI n.Fog]), (3, .agg [DI t.On, DI t.Off]), (4, DI night), (5, .own 0 0), (7, .own 1 0), (8, .own 2 0), (10, .own 3 0), (11, .own 4 0), (12, DI x11), (13, .own 5 0), (17, DB (x1 != 0)), (21, DB (x4 != 0)), (25, DB (!x7)), (38, DB (x11 != 0)), (43, DB (!x14))], [(0, .blk [lD 11 b_.Versions TVersion.c, lD 5 b_.Streets TStreet.c] 25), (1, .blk [DI n.No, DI n.Set.Lo, DI n.Set.Hi, DI n.Rise.Lo, DI n.Rise.Hi, DI n.Light.Lo, DI n.Light.Hi, DI n.Fog] 65), (2, .blk [DI t.On, DI t.Off] 73), (3, .blk [DI v23] 3), (4, .blk [DI 0] 29), (5, .blk [DI x10.v.Source, DI x10.v.Class, DI x10.v.From, DI x10.v.On.Lo, DI x10.v.On.Hi, DI x10.v.Off.Lo, DI x10.v.Off.Hi, DI x10.v.Moon, DI x10.v.Fog, DI x10.v.Known, DI x10.v.Until, DI x10.n.No, DI x10.n.Set.Lo, DI x10.n.Set.Hi, DI x10.n.Rise.Lo, DI x10.n.Rise.Hi, DI x10.n.Light.Lo, DI x10.n.Light.Hi, DI x10.n.Fog] 91)], 6⟩ : Sy)) (fun (lpx : Int) => match lpx with | v23 => (⟨[(0, .agg [lD 11 b_.Versions TVersion.c, lD 5 b_.Streets TStreet.c]), (1, DI lamp), (2, .agg [DI n.No, DI n.Set.Lo, DI n.Set.Hi, DI n.Rise.Lo, DI n.Rise.Hi, DI n.Light.Lo, DI n.Light.Hi, DI n.Fog]), (3, .agg [DI t.On, DI t.Off]), (4, DI night), (5, .own 0 0), (7, .own 1 0), (8, .own 2 0), (10, .own 3 0), (11, .own 4 0), (12, DI x11), (13, .own 5 0), (17, DB (x1 != 0)), (21, DB (x4 != 0)), (25, DB (!x7)), (38, DB (x11 != 0)), (43, DB (!x14))], [(0, .blk [lD 11 b_.Versions TVersion.c, lD 5 b_.Streets TStreet.c] 25), (1, .blk [DI n.No, DI n.Set.Lo, DI n.Set.Hi, DI n.Rise.Lo, DI n.Rise.Hi, DI n.Light.Lo, DI n.Light.Hi, DI n.Fog] 65), (2, .blk [DI t.On, DI t.Off] 73), (3, .blk [DI v23] 3), (4, .blk [DI 0] 29), (5, .blk [DI x10.v.Source, DI x10.v.Class, DI x10.v.From, DI x10.v.On.Lo, DI x10.v.On.Hi, DI x10.v.Off.Lo, DI x10.v.Off.Hi, DI x10.v.Moon, DI x10.v.Fog, DI x10.v.Known, DI x10.v.Until, DI x10.n.No, DI x10.n.Set.Lo, DI x10.n.Set.Hi, DI x10.n.Rise.Lo, DI x10.n.Rise.Hi, DI x10.n.Light.Lo, DI x10.n.Light.Hi, DI x10.n.Fog] 91)], 6⟩ : Sy)) (fun _ => .ret) 0 ev33 [0, 1, 2, 3, 4, 5, 7, 8, 10, 11, 12, 13, 17, 21, 25, 38, 43] (i_bylaw_window_ends_1 x17 l30.1 hl34) he (enters_f pok Tryz.func91 rfl) rfl rfl (fun _ => rfl) rfl rfl rfl (by rintro v23; rfl) (by rintro v23; rfl) (SubY.of 6 rfl ⟨tR rfl, tR rfl, tR rfl, tR rfl, tR rfl, tR rfl, tR rfl, tR rfl, tR rfl, tR rfl, tR rfl, tR rfl, tR rfl, tR rfl, tR rfl, tR rfl, tR rfl, trivial⟩ ⟨hR rfl, hR rfl, hR rfl, hR rfl, hR rfl, hR rfl, trivial⟩) ?_ ?_ (fun _ => .inl rfl) ?_
  rintro v31 rfl
  intro ds
  intro ds
  cases hm
  exact RetY.le (leD.refl _)
  rintro v32 rfl
  cases hm
  exact RetY.le (leD.refl _)
  clear he hm
  rintro v23 y19 b hm
  obtain ⟨x35, hx36, hm⟩ := bd_some hm
  refine CallY.det (d_bylaw_lawful x10.v y19 t _ hx36) ?_
  revert hm
  refine VIf.b (fun h37 hm => ?_) (fun h37 hm => ?_)
  cases hm
  exact ⟨2, rfl, rfl, SubY.of 6 rfl ⟨tR rfl, tR rfl, tR rfl, tR rfl, tR rfl, tR rfl, tR rfl, tR rfl, tR rfl, tR rfl, tR rfl, tR rfl, tR rfl, tR rfl, tR rfl, tR rfl, tR rfl, trivial⟩ ⟨hR rfl, hR rfl, hR rfl, hR rfl, hR rfl, hR rfl, trivial⟩⟩
  cases hm
  exact ⟨v23, rfl, SubY.of 6 rfl ⟨tR rfl, tR rfl, tR rfl, tR rfl, tR rfl, tR rfl, tR rfl, tR rfl, tR rfl, tR rfl, tR rfl, tR rfl, tR rfl, tR rfl, tR rfl, tR rfl, tR rfl, trivial⟩ ⟨hR rfl, hR rfl, hR rfl, hR rfl, hR rfl, hR rfl, trivial⟩⟩

def m_bylaw_ask_L1 (nights : (List Int)) : Int → Option (Sum Int (Sum Int Int)) := fun v13 =>
  if (decide (v13 < (nights.length : Int))) = true then
    Option.bind (idx nights v13) fun e21 =>
    Option.bind (m_bylaw_isNight e21) fun x23 =>
    if (!x23) = true then
      some (.inr (.inr 6))
    else
      some (.inl (W (v13 + 1)))
  else
    some (.inr (.inl v13))
def m_bylaw_ask (b_ : TBylaw) (n : TNight) (nights : (List Int)) : Option Int :=
  Option.bind (m_bylaw_Check b_) fun x1 =>
  if (x1 != 0) = true then
    some x1
  else
    Option.bind (m_bylaw_CheckNight n) fun x4 =>
    if (x4 != 0) = true then
      some x4
    else
      Option.bind (loopF (m_bylaw_ask_L1 nights) 0) fun e =>
      match e with
      | .inl v26 =>
        some 0
      | .inr rr27 =>
        some rr27
theorem d_bylaw_ask (b_ : TBylaw) (n : TNight) (nights : (List Int)) (r : Int) (hm : m_bylaw_ask b_ n nights = some r) : Does Tryz.prog 68 [.agg (TBylaw.c b_), .agg (TNight.c n), lD 1 nights cI] (fun x => x = DI r) := by
  refine does_zy (X := ⟨Tryz.prog, tt, Tryz.f68.ntmps, [], [], [], [], [70], []⟩) pok _ Tryz.func68 rfl rfl (Nat.le_of_ble_eq_true rfl) ?_
  obtain ⟨x1, hx2, hm⟩ := bd_some hm
  refine CallY.det (d_bylaw_Check b_ _ hx2) ?_
  revert hm
  refine VIf.b (fun h3 hm => ?_) (fun h3 hm => ?_)
  cases hm
  exact RetY.le (leD.refl _)
  obtain ⟨x4, hx5, hm⟩ := bd_some hm
  refine CallY.det (d_bylaw_CheckNight n _ hx5) ?_
  revert hm
  refine VIf.b (fun h6 hm => ?_) (fun h6 hm => ?_)
  cases hm
  exact RetY.le (leD.refl _)
  obtain ⟨ev28, he, hk29⟩ := bd_some hm
  refine LoopY.ofL (m_bylaw_ask_L1 nights) (fun v13 => ⟨[(0, .agg [lD 11 b_.Versions TVersion.c, lD 5 b_.Streets TStreet.c]), (1, .agg [DI n.No, DI n.Set.Lo, DI n.Set.Hi, DI n.Rise.Lo, DI n.Rise.Hi, DI n.Light.Lo, DI n.Light.Hi, DI n.Fog]), (2, lD 1 nights cI), (3, .own 0 0), (4, .own 1 0), (6, DI 0), (7, DI x1), (8, DI x4), (14, DB (x1 != 0)), (19, DB (x4 != 0)), (21, lD 1 nights cI), (22, DI (nights.length : Int)), (23, DI v13)], [(0, .blk [lD 11 b_.Versions TVersion.c, lD 5 b_.Streets TStreet.c] 25), (1, .blk [DI n.No, DI n.Set.Lo, DI n.Set.Hi, DI n.Rise.Lo, DI n.Rise.Hi, DI n.Light.Lo, DI n.Light.Hi, DI n.Fog] 65)], 2⟩) 0 (SubY.of 2 rfl ⟨tR rfl, tR rfl, tR rfl, tR rfl, tR rfl, tR rfl, tR rfl, tR rfl, tR rfl, tR rfl, tR rfl, tR rfl, tR rfl, trivial⟩ ⟨hR rfl, hR rfl, trivial⟩) he ?_
  rintro fu30 v13 b hm hi31
  revert hm
  refine VIf.b (fun h32 hm => ?_) (fun h32 hm => ?_)
  obtain ⟨e33, hx34, hm⟩ := bd_some hm
  refine ⟨_, el_idx (fun _ => rfl) hx34, ?_⟩
  obtain ⟨x35, hx36, hm⟩ := bd_some hm
  refine CallY.det (d_bylaw_isNight e33 _ hx36) ?_
  revert hm
  refine VIf.b (fun h37 hm => ?_) (fun h37 hm => ?_)
  cases hm
  cases hi31
  have hm := hk29
  cases hm
  exact RetY.le (leD.refl _)
  cases hm
  exact ⟨(_, (W (v13 + 1))), SubY.of 2 rfl ⟨tR rfl, tR rfl, tR rfl, tR rfl, tR rfl, tR rfl, tR rfl, tR rfl, tR rfl, tR rfl, tR rfl, tR rfl, tR rfl, trivial⟩ ⟨hR rfl, hR rfl, trivial⟩, hi31, Nat.lt_succ_self _⟩
  cases hm
  cases hi31
  have hm := hk29
  cases hm
  exact RetY.le (leD.refl _)

def m_cmp_Compare_int (x : Int) (y : Int) : Option Int :=
  Option.bind (m_cmp_isNaN_int x) fun x1 =>
  Option.bind (m_cmp_isNaN_int y) fun x3 =>
  if x1 = true then
    if x3 = true then
      some 0
    else
      some (-1)
  else
    if x3 = true then
      some 1
    else
      if (decide (x < y)) = true then
        some (-1)
      else
        if (decide (x > y)) = true then
          some 1
        else
          some 0
theorem d_cmp_Compare_int (x : Int) (y : Int) (r : Int) (hm : m_cmp_Compare_int x y = some r) : Does Tryz.prog 94 [DI x, DI y] (fun x => x = DI r) := by
  refine does_zy (X := ⟨Tryz.prog, tt, Tryz.f94.ntmps, [], [], [], [], [70], []⟩) pok _ Tryz.func94 rfl rfl (Nat.le_of_ble_eq_true rfl) ?_
  obtain ⟨x1, hx2, hm⟩ := bd_some hm
  refine CallY.det (d_cmp_isNaN_int x _ hx2) ?_
  obtain ⟨x3, hx4, hm⟩ := bd_some hm
  refine CallY.det (d_cmp_isNaN_int y _ hx4) ?_
  revert hm
  refine VIf.b (fun h5 hm => ?_) (fun h5 hm => ?_)
  revert hm
  refine VIf.b (fun h6 hm => ?_) (fun h6 hm => ?_)
  cases hm
  exact RetY.le (leD.refl _)
  cases hm
  exact RetY.le (leD.refl _)
  revert hm
  refine VIf.b (fun h7 hm => ?_) (fun h7 hm => ?_)
  cases hm
  exact RetY.le (leD.refl _)
  revert hm
  refine VIf.b (fun h8 hm => ?_) (fun h8 hm => ?_)
  cases hm
  exact RetY.le (leD.refl _)
  revert hm
  refine VIf.b (fun h9 hm => ?_) (fun h9 hm => ?_)
  cases hm
  exact RetY.le (leD.refl _)
  cases hm
  exact RetY.le (leD.refl _)

def m_slices_Clone_api_Version_api_Version (s : List TVersion) : Option (List TVersion) := gd (s.length * 88 ≤ 140737488355328 ∧ s.length ≤ 9223372036854775807) (some s)
theorem d_slices_Clone_api_Version_api_Version (s : List TVersion) (r : List TVersion) (hm : m_slices_Clone_api_Version_api_Version s = some r) : Does Tryz.prog 95 [.lst 11 s.length (s.flatMap TVersion.c)] (fun x => x = .lst 11 r.length (r.flatMap TVersion.c)) := by
  obtain ⟨hg, hm⟩ := gd_some hm
  cases hm
  refine does_zy (X := ⟨Tryz.prog, tt, Tryz.f95.ntmps, [], [], [], [], [], []⟩) pok _ Tryz.func95 rfl rfl (Nat.le_of_ble_eq_true rfl) ?_
  intro b hb
  refine VIf.mk (fun h => ?_) (fun h => ?_)
  · have h0 := hb h
    have h1 : s = [] := List.eq_nil_of_length_eq_zero h0
    subst h1
    exact RetY.le leD.nil
  · refine ⟨[], 0, ⟨rfl, rfl⟩, ?_⟩
    exact ⟨by omega, s.flatMap TVersion.c, s.length, ⟨rfl, Nat.zero_add _⟩, RetY.le (leD.refl _)⟩
theorem u_slices_Clone_api_Version_api_Version (s : List TVersion) (r : List TVersion) (hm : m_slices_Clone_api_Version_api_Version s = some r) : DoesU Tryz.prog 95 [.lst 11 s.length (s.flatMap TVersion.c)] 11 r.length (r.flatMap TVersion.c) 35 := by
  obtain ⟨hg, hm⟩ := gd_some hm
  cases hm
  refine does_zu (X := ⟨Tryz.prog, tt, Tryz.f95.ntmps, [], [], [], [], [], []⟩) pok _ Tryz.func95 rfl rfl (Nat.le_of_ble_eq_true rfl) ?_
  intro b hb
  refine VIf.mk (fun h => ?_) (fun h => ?_)
  · have h0 := hb h
    have h1 : s = [] := List.eq_nil_of_length_eq_zero h0
    subst h1
    exact ⟨rfl, rfl⟩
  · refine ⟨[], 0, ⟨rfl, rfl⟩, ?_⟩
    exact ⟨by omega, s.flatMap TVersion.c, s.length, ⟨rfl, Nat.zero_add _⟩, ⟨rfl, rfl⟩⟩

def m_slices_Clone_api_Street_api_Street (s : List TStreet) : Option (List TStreet) := gd (s.length * 40 ≤ 140737488355328 ∧ s.length ≤ 9223372036854775807) (some s)
theorem d_slices_Clone_api_Street_api_Street (s : List TStreet) (r : List TStreet) (hm : m_slices_Clone_api_Street_api_Street s = some r) : Does Tryz.prog 96 [.lst 5 s.length (s.flatMap TStreet.c)] (fun x => x = .lst 5 r.length (r.flatMap TStreet.c)) := by
  obtain ⟨hg, hm⟩ := gd_some hm
  cases hm
  refine does_zy (X := ⟨Tryz.prog, tt, Tryz.f96.ntmps, [], [], [], [], [], []⟩) pok _ Tryz.func96 rfl rfl (Nat.le_of_ble_eq_true rfl) ?_
  intro b hb
  refine VIf.mk (fun h => ?_) (fun h => ?_)
  · have h0 := hb h
    have h1 : s = [] := List.eq_nil_of_length_eq_zero h0
    subst h1
    exact RetY.le leD.nil
  · refine ⟨[], 0, ⟨rfl, rfl⟩, ?_⟩
    exact ⟨by omega, s.flatMap TStreet.c, s.length, ⟨rfl, Nat.zero_add _⟩, RetY.le (leD.refl _)⟩
theorem u_slices_Clone_api_Street_api_Street (s : List TStreet) (r : List TStreet) (hm : m_slices_Clone_api_Street_api_Street s = some r) : DoesU Tryz.prog 96 [.lst 5 s.length (s.flatMap TStreet.c)] 5 r.length (r.flatMap TStreet.c) 42 := by
  obtain ⟨hg, hm⟩ := gd_some hm
  cases hm
  refine does_zu (X := ⟨Tryz.prog, tt, Tryz.f96.ntmps, [], [], [], [], [], []⟩) pok _ Tryz.func96 rfl rfl (Nat.le_of_ble_eq_true rfl) ?_
  intro b hb
  refine VIf.mk (fun h => ?_) (fun h => ?_)
  · have h0 := hb h
    have h1 : s = [] := List.eq_nil_of_length_eq_zero h0
    subst h1
    exact ⟨rfl, rfl⟩
  · refine ⟨[], 0, ⟨rfl, rfl⟩, ?_⟩
    exact ⟨by omega, s.flatMap TStreet.c, s.length, ⟨rfl, Nat.zero_add _⟩, ⟨rfl, rfl⟩⟩

def m_bylaw_dutyOf (b_ : TBylaw) (lamp : Int) (n : TNight) (night : Int) : Option (TDuty × Int) :=
  Option.bind (m_bylaw_known b_ lamp n night) fun ⟨x1, x2⟩ =>
  if (x2 != 0) = true then
    some ((⟨0, (⟨0, 0⟩ : TRange), (⟨0, 0⟩ : TRange)⟩ : TDuty), x2)
  else
    Option.bind (m_bylaw_window_duty x1) fun ⟨x5, x6⟩ =>
    some (x5, x6)
theorem d_bylaw_dutyOf (b_ : TBylaw) (lamp : Int) (n : TNight) (night : Int) (r : (TDuty × Int)) (hm : m_bylaw_dutyOf b_ lamp n night = some r) : Does Tryz.prog 98 [.agg (TBylaw.c b_), DI lamp, .agg (TNight.c n), DI night] (fun x => x = .tup [.agg (TDuty.c r.1), DI r.2]) := by
  refine does_zy (X := ⟨Tryz.prog, tt, Tryz.f98.ntmps, [], [], [], [], [70], []⟩) pok _ Tryz.func98 rfl rfl (Nat.le_of_ble_eq_true rfl) ?_
  obtain ⟨⟨x1, x2⟩, hx3, hm⟩ := bd_some hm
  refine CallY.det (d_bylaw_known b_ lamp n night _ hx3) ?_
  revert hm
  refine VIf.b (fun h4 hm => ?_) (fun h4 hm => ?_)
  cases hm
  exact RetY.le (leD.refl _)
  obtain ⟨⟨x5, x6⟩, hx7, hm⟩ := bd_some hm
  refine CallY.det (d_bylaw_window_duty x1 _ hx7) ?_
  cases hm
  exact RetY.le (leD.refl _)

def m_bylaw_tells (b_ : TBylaw) (n : TNight) (night : Int) : Option (TBylaw × TNight × Int) :=
  some (b_, n, night)
theorem d_bylaw_tells (b_ : TBylaw) (n : TNight) (night : Int) (r : (TBylaw × TNight × Int)) (hm : m_bylaw_tells b_ n night = some r) : Does Tryz.prog 72 [.agg (TBylaw.c b_), .agg (TNight.c n), DI night] (fun x => x = .fn 97 [] [.ptr [lD 11 r.1.Versions TVersion.c, lD 5 r.1.Streets TStreet.c] 0, .ptr [DI r.2.1.No, DI r.2.1.Set.Lo, DI r.2.1.Set.Hi, DI r.2.1.Rise.Lo, DI r.2.1.Rise.Hi, DI r.2.1.Light.Lo, DI r.2.1.Light.Hi, DI r.2.1.Fog] 0, .ptr [DI r.2.2] 0]) := by
  refine does_zy (X := ⟨Tryz.prog, tt, Tryz.f72.ntmps, [], [], [], [], [70], []⟩) pok _ Tryz.func72 rfl rfl (Nat.le_of_ble_eq_true rfl) ?_
  cases hm
  exact RetY.le (leD.refl _)

def m_bylaw_search_api_Version_1__bylaw_sourceOf (x : TVersion) (n : Int) : Option Int :=
  Option.bind (m_bylaw_sourceOf x) fun x1 =>
  Option.bind (m_cmp_Compare_int x1 n) fun x3 =>
  some x3
theorem d_bylaw_search_api_Version_1__bylaw_sourceOf (x : TVersion) (n : Int) (r : Int) (hm : m_bylaw_search_api_Version_1__bylaw_sourceOf x n = some r) : Does Tryz.prog 93 [.agg (TVersion.c x), DI n, .ptr [.fn 42 [] []] 0] (fun x => x = DI r) := by
  refine does_zy (X := ⟨Tryz.prog, tt, Tryz.f93.ntmps, [], [], [], [], [70], []⟩) pok _ Tryz.func93 rfl rfl (Nat.le_of_ble_eq_true rfl) ?_
  obtain ⟨x1, hx2, hm⟩ := bd_some hm
  refine CallY.det (d_bylaw_sourceOf x _ hx2) ?_
  obtain ⟨x3, hx4, hm⟩ := bd_some hm
  refine CallY.det (d_cmp_Compare_int x1 n _ hx4) ?_
  cases hm
  exact RetY.le (leD.refl _)

def m_slices_BinarySearchFunc_api_Version_api_Version_int__bylaw_search_api_Version_1_of_bylaw_sourceOf_L1 (x : (List TVersion)) (target : Int) : (Int × Int) → Option (Sum (Int × Int) (Int × Int)) := fun (i7, j8) =>
  if (decide (i7 < j8)) = true then
    Option.bind (idx x (W ((IntKind.u64.wrap (W (i7 + j8))).fdiv (2 ^ (min (1 : Int).toNat IntKind.u64.bits))))) fun e16 =>
    Option.bind (m_bylaw_search_api_Version_1__bylaw_sourceOf e16 target) fun x18 =>
    if (decide (x18 < 0)) = true then
      some (.inl ((W ((W ((IntKind.u64.wrap (W (i7 + j8))).fdiv (2 ^ (min (1 : Int).toNat IntKind.u64.bits)))) + 1)), j8))
    else
      some (.inl (i7, (W ((IntKind.u64.wrap (W (i7 + j8))).fdiv (2 ^ (min (1 : Int).toNat IntKind.u64.bits))))))
  else
    some (.inr (i7, j8))
def m_slices_BinarySearchFunc_api_Version_api_Version_int__bylaw_search_api_Version_1_of_bylaw_sourceOf (x : (List TVersion)) (target : Int) : Option (Int × Bool) :=
  Option.bind (loopF (m_slices_BinarySearchFunc_api_Version_api_Version_int__bylaw_search_api_Version_1_of_bylaw_sourceOf_L1 x target) (0, (x.length : Int))) fun (i21, j22) =>
  if (decide (i21 < (x.length : Int))) = true then
    Option.bind (idx x i21) fun e24 =>
    Option.bind (m_bylaw_search_api_Version_1__bylaw_sourceOf e24 target) fun x26 =>
    some (i21, (x26 == 0))
  else
    some (i21, false)
theorem d_slices_BinarySearchFunc_api_Version_api_Version_int__bylaw_search_api_Version_1_of_bylaw_sourceOf (x : (List TVersion)) (target : Int) (r : (Int × Bool)) (hm : m_slices_BinarySearchFunc_api_Version_api_Version_int__bylaw_search_api_Version_1_of_bylaw_sourceOf x target = some r) : Does Tryz.prog 92 [lD 11 x TVersion.c, DI target, .fn 93 [] [.ptr [.fn 42 [] []] 0]] (fun x => x = .tup [DI r.1, DB r.2]) := by
  refine does_zy (X := ⟨Tryz.prog, tt, Tryz.f92.ntmps, [], [], [], [], [70], []⟩) pok _ Tryz.func92 rfl rfl (Nat.le_of_ble_eq_true rfl) ?_
  obtain ⟨ev28, he, hk29⟩ := bd_some hm
  refine LoopY.ofL (m_slices_BinarySearchFunc_api_Version_api_Version_int__bylaw_search_api_Version_1_of_bylaw_sourceOf_L1 x target) (fun (i7, j8) => ⟨[(0, lD 11 x TVersion.c), (1, DI target), (2, .fn 93 [] [.ptr [.fn 42 [] []] 0]), (6, DI 0), (7, DB false), (8, DI (x.length : Int)), (9, DI i7), (10, DI j8)], [], 0⟩) (0, (x.length : Int)) (SubY.of 0 rfl ⟨tR rfl, tR rfl, tR rfl, tR rfl, tR rfl, tR rfl, tR rfl, tR rfl, trivial⟩ trivial) he ?_
  rintro fu30 ⟨i7, j8⟩ b hm hi31
  revert hm
  refine VIf.b (fun h32 hm => ?_) (fun h32 hm => ?_)
  refine ⟨by decide, ?_⟩
  obtain ⟨e33, hx34, hm⟩ := bd_some hm
  refine ⟨_, el_idx (fun _ => rfl) hx34, ?_⟩
  obtain ⟨x35, hx36, hm⟩ := bd_some hm
  refine CallY.det (d_bylaw_search_api_Version_1__bylaw_sourceOf e33 target _ hx36) ?_
  revert hm
  refine VIf.b (fun h37 hm => ?_) (fun h37 hm => ?_)
  cases hm
  exact ⟨(_, ((W ((W ((IntKind.u64.wrap (W (i7 + j8))).fdiv (2 ^ (min (1 : Int).toNat IntKind.u64.bits)))) + 1)), j8)), SubY.of 0 rfl ⟨tR rfl, tR rfl, tR rfl, tR rfl, tR rfl, tR rfl, tR rfl, tR rfl, trivial⟩ trivial, hi31, Nat.lt_succ_self _⟩
  cases hm
  exact ⟨(_, (i7, (W ((IntKind.u64.wrap (W (i7 + j8))).fdiv (2 ^ (min (1 : Int).toNat IntKind.u64.bits)))))), SubY.of 0 rfl ⟨tR rfl, tR rfl, tR rfl, tR rfl, tR rfl, tR rfl, tR rfl, tR rfl, trivial⟩ trivial, hi31, Nat.lt_succ_self _⟩
  cases hm
  cases hi31
  have hm := hk29
  revert hm
  refine VIf.b (fun h38 hm => ?_) (fun h38 hm => ?_)
  obtain ⟨e39, hx40, hm⟩ := bd_some hm
  refine ⟨_, el_idx (fun _ => rfl) hx40, ?_⟩
  obtain ⟨x41, hx42, hm⟩ := bd_some hm
  refine CallY.det (d_bylaw_search_api_Version_1__bylaw_sourceOf e39 target _ hx42) ?_
  cases hm
  exact RetY.le (leD.refl _)
  cases hm
  exact RetY.le (leD.refl _)

def m_bylaw_search_api_Version__bylaw_sourceOf (l : (List TVersion)) (n : Int) : Option (Int × Bool) :=
  Option.bind (m_slices_BinarySearchFunc_api_Version_api_Version_int__bylaw_search_api_Version_1_of_bylaw_sourceOf l n) fun ⟨x1, x2⟩ =>
  some (x1, x2)
theorem d_bylaw_search_api_Version__bylaw_sourceOf (l : (List TVersion)) (n : Int) (r : (Int × Bool)) (hm : m_bylaw_search_api_Version__bylaw_sourceOf l n = some r) : Does Tryz.prog 69 [lD 11 l TVersion.c, DI n, .fn 42 [] []] (fun x => x = .tup [DI r.1, DB r.2]) := by
  refine does_zy (X := ⟨Tryz.prog, tt, Tryz.f69.ntmps, [], [], [], [], [70], []⟩) pok _ Tryz.func69 rfl rfl (Nat.le_of_ble_eq_true rfl) ?_
  obtain ⟨⟨x1, x2⟩, hx3, hm⟩ := bd_some hm
  refine CallOwn.det (d_slices_BinarySearchFunc_api_Version_api_Version_int__bylaw_search_api_Version_1_of_bylaw_sourceOf l n _ hx3) ?_
  cases hm
  exact RetY.le (leD.refl _)

def m_IN_bylaw_copied (b_ : TBylaw) : Option ((List TVersion) × (List TStreet)) :=
  Option.bind (m_slices_Clone_api_Version_api_Version b_.Versions) fun x14 =>
  Option.bind (m_slices_Clone_api_Street_api_Street b_.Streets) fun x16 =>
  some (x14, x16)
def m_bylaw_tells_1 (lamp : Int) (c_0 : TBylaw) (c_1 : TNight) (c_2 : Int) : Option Ttold :=
  Option.bind (m_bylaw_dutyOf c_0 lamp c_1 c_2) fun ⟨x1, x2⟩ =>
  some (⟨x1, x2⟩ : Ttold)
theorem d_bylaw_tells_1 (lamp : Int) (c_0 : TBylaw) (c_1 : TNight) (c_2 : Int) (r : Ttold) (hm : m_bylaw_tells_1 lamp c_0 c_1 c_2 = some r) : Does Tryz.prog 97 [DI lamp, .ptr [lD 11 c_0.Versions TVersion.c, lD 5 c_0.Streets TStreet.c] 0, .ptr [DI c_1.No, DI c_1.Set.Lo, DI c_1.Set.Hi, DI c_1.Rise.Lo, DI c_1.Rise.Hi, DI c_1.Light.Lo, DI c_1.Light.Hi, DI c_1.Fog] 0, .ptr [DI c_2] 0] (fun x => x = .agg (Ttold.c r)) := by
  refine does_zy (X := ⟨Tryz.prog, tt, Tryz.f97.ntmps, [], [], [], [], [70], []⟩) pok _ Tryz.func97 rfl rfl (Nat.le_of_ble_eq_true rfl) ?_
  obtain ⟨⟨x1, x2⟩, hx3, hm⟩ := bd_some hm
  refine CallY.det (d_bylaw_dutyOf c_0 lamp c_1 c_2 _ hx3) ?_
  cases hm
  exact RetY.le (leD.refl _)

def m_bylaw_differ__bylaw_tells_1__bylaw_tells_1_L1 (c1_0 : TBylaw) (c1_1 : TNight) (c1_2 : Int) (c2_0 : TBylaw) (c2_1 : TNight) (c2_2 : Int) : (List Int) → Int → Option (Sum (List Int) Unit) := fun v10 y4 =>
  Option.bind (m_bylaw_tells_1 y4 c1_0 c1_1 c1_2) fun x16 =>
  Option.bind (m_bylaw_tells_1 y4 c2_0 c2_1 c2_2) fun x18 =>
  if (!((x16.d.Lit == x18.d.Lit) && ((x16.d.On.Lo == x18.d.On.Lo) && ((x16.d.On.Hi == x18.d.On.Hi) && ((x16.d.Off.Lo == x18.d.Off.Lo) && ((x16.d.Off.Hi == x18.d.Off.Hi) && (x16.e == x18.e))))))) = true then
    gd ((v10.length + ([y4] : List Int).length) * 8 ≤ 140737488355328 ∧ v10.length + ([y4] : List Int).length ≤ 9223372036854775807) <|
    some (.inl (v10 ++ ([y4] : List Int)))
  else
    some (.inl v10)
def m_bylaw_differ__bylaw_tells_1__bylaw_tells_1 (b_ : TBylaw) (c1_0 : TBylaw) (c1_1 : TNight) (c1_2 : Int) (c2_0 : TBylaw) (c2_1 : TNight) (c2_2 : Int) : Option (List Int) :=
  Option.bind (m_bylaw_lamps b_ 0) fun ⟨x1, x2⟩ =>
  Option.bind (it_bylaw_lamps_1 x1 x2) fun l21 =>
  Option.bind (rangeF (m_bylaw_differ__bylaw_tells_1__bylaw_tells_1_L1 c1_0 c1_1 c1_2 c2_0 c2_1 c2_2) l21.1 []) fun e =>
  match e with
  | .inl v22 =>
    some v22
  | .inr _ => none
theorem d_bylaw_differ__bylaw_tells_1__bylaw_tells_1 (b_ : TBylaw) (c1_0 : TBylaw) (c1_1 : TNight) (c1_2 : Int) (c2_0 : TBylaw) (c2_1 : TNight) (c2_2 : Int) (r : (List Int)) (hm : m_bylaw_differ__bylaw_tells_1__bylaw_tells_1 b_ c1_0 c1_1 c1_2 c2_0 c2_1 c2_2 = some r) : Does Tryz.prog 71 [.agg (TBylaw.c b_), .fn 97 [] [.ptr [lD 11 c1_0.Versions TVersion.c, lD 5 c1_0.Streets TStreet.c] 0, .ptr [DI c1_1.No, DI c1_1.Set.Lo, DI c1_1.Set.Hi, DI c1_1.Rise.Lo, DI c1_1.Rise.Hi, DI c1_1.Light.Lo, DI c1_1.Light.Hi, DI c1_1.Fog] 0, .ptr [DI c1_2] 0], .fn 97 [] [.ptr [lD 11 c2_0.Versions TVersion.c, lD 5 c2_0.Streets TStreet.c] 0, .ptr [DI c2_1.No, DI c2_1.Set.Lo, DI c2_1.Set.Hi, DI c2_1.Rise.Lo, DI c2_1.Rise.Hi, DI c2_1.Light.Lo, DI c2_1.Light.Hi, DI c2_1.Fog] 0, .ptr [DI c2_2] 0]] (fun x => x = lD 1 r cI) := by
  refine does_zr (X := ⟨Tryz.prog, tt, Tryz.f71.ntmps, pl71, [], [], [], [70], []⟩) pok _ Tryz.func71 rfl rfl (Nat.le_of_ble_eq_true rfl) ?_
  intro ds
  intro ds
  intro ds
  obtain ⟨⟨x1, x2⟩, hx3, hm⟩ := bd_some hm
  refine CallY.det (d_bylaw_lamps b_ 0 _ hx3) ?_
  obtain ⟨l21, hl24, hm⟩ := bd_some hm
  obtain ⟨ev23, he, hm⟩ := bd_some hm
  refine RangeY.ofZ (E := Unit) en_bylaw_lamps_1 l21.1 (m_bylaw_differ__bylaw_tells_1__bylaw_tells_1_L1 c1_0 c1_1 c1_2 c2_0 c2_1 c2_2) (fun (lpx : (List Int)) => match lpx with | v10 => (⟨[(0, .agg [lD 11 b_.Versions TVersion.c, lD 5 b_.Streets TStreet.c]), (1, .fn 97 [] [.ptr [lD 11 c1_0.Versions TVersion.c, lD 5 c1_0.Streets TStreet.c] 0, .ptr [DI c1_1.No, DI c1_1.Set.Lo, DI c1_1.Set.Hi, DI c1_1.Rise.Lo, DI c1_1.Rise.Hi, DI c1_1.Light.Lo, DI c1_1.Light.Hi, DI c1_1.Fog] 0, .ptr [DI c1_2] 0]), (2, .fn 97 [] [.ptr [lD 11 c2_0.Versions TVersion.c, lD 5 c2_0.Streets TStreet.c] 0, .ptr [DI c2_1.No, DI c2_1.Set.Lo, DI c2_1.Set.Hi, DI c2_1.Rise.Lo, DI c2_1.Rise.Hi, DI c2_1.Light.Lo, DI c2_1.Light.Hi, DI c2_1.Fog] 0, .ptr [DI c2_2] 0]), (3, .own 0 0), (4, .own 1 0), (5, .own 2 0), (6, .v (.slice none 0 0)), (7, .own 3 0)], [(0, .blk [lD 11 b_.Versions TVersion.c, lD 5 b_.Streets TStreet.c] 25), (1, .blk [.fn 97 [] [.ptr [lD 11 c1_0.Versions TVersion.c, lD 5 c1_0.Streets TStreet.c] 0, .ptr [DI c1_1.No, DI c1_1.Set.Lo, DI c1_1.Set.Hi, DI c1_1.Rise.Lo, DI c1_1.Rise.Hi, DI c1_1.Light.Lo, DI c1_1.Light.Hi, DI c1_1.Fog] 0, .ptr [DI c1_2] 0]] 113), (2, .blk [.fn 97 [] [.ptr [lD 11 c2_0.Versions TVersion.c, lD 5 c2_0.Streets TStreet.c] 0, .ptr [DI c2_1.No, DI c2_1.Set.Lo, DI c2_1.Set.Hi, DI c2_1.Rise.Lo, DI c2_1.Rise.Hi, DI c2_1.Light.Lo, DI c2_1.Light.Hi, DI c2_1.Fog] 0, .ptr [DI c2_2] 0]] 113), (3, .blk [.row 4 1] 28), (4, rE 1 v10 cI 3)], 5⟩ : Sy)) (fun (_ : Unit) => (⟨[], [], 0⟩ : Sy)) (fun _ => .ret) [] ev23 [0, 1, 2, 3, 4, 5, 6, 7] (i_bylaw_lamps_1 x1 x2 l21.1 hl24) he (enters_f pok Tryz.func56 rfl) rfl rfl (fun _ => rfl) rfl rfl rfl (by rintro v10; rfl) (by intro _; rfl) (SubY.of 4 rfl ⟨tR rfl, tR rfl, tR rfl, tR rfl, tR rfl, tR rfl, tR rfl, tR rfl, trivial⟩ ⟨hR rfl, hR rfl, hR rfl, hR rfl, ⟨rfl, rfl⟩, trivial⟩) ?_ ?_ (fun _ => .inl rfl) ?_
  rintro v22 rfl
  intro ds
  intro ds
  cases hm
  exact RetY.le (leD.refl _)
  rintro _ rfl
  cases hm
  clear he hm
  rintro v10 y4 b hm
  refine ⟨rfl, ?_⟩
  obtain ⟨x25, hx26, hm⟩ := bd_some hm
  refine CallY.det (d_bylaw_tells_1 y4 c1_0 c1_1 c1_2 _ hx26) ?_
  obtain ⟨x27, hx28, hm⟩ := bd_some hm
  refine CallY.det (d_bylaw_tells_1 y4 c2_0 c2_1 c2_2 _ hx28) ?_
  revert hm
  refine VIf.b (fun h29 hm => ?_) (fun h29 hm => ?_)
  refine ⟨([y4] : List Int).flatMap cI, ([y4] : List Int).length, ⟨rfl, rfl⟩, ?_⟩
  obtain ⟨hg, hm⟩ := gd_some hm
  refine ⟨hg, _, _, flat_app (c := cI) (l := (v10 : List Int)) (r := (([y4] : List Int) : List Int)), ?_⟩
  cases hm
  exact ⟨(v10 ++ ([y4] : List Int)), rfl, SubY.of 5 rfl ⟨tR rfl, tR rfl, tR rfl, tR rfl, tR rfl, tR rfl, tR rfl, tR rfl, trivial⟩ ⟨hR rfl, hR rfl, hR rfl, hR rfl, hW rfl, trivial⟩⟩
  cases hm
  exact ⟨v10, rfl, SubY.of 5 rfl ⟨tR rfl, tR rfl, tR rfl, tR rfl, tR rfl, tR rfl, tR rfl, tR rfl, trivial⟩ ⟨hR rfl, hR rfl, hR rfl, hR rfl, hW rfl, trivial⟩⟩

def m_bylaw_Moved (b_ : TBylaw) (source : Int) (n : TNight) (night : Int) : Option ((List Int) × Int) :=
  Option.bind (m_bylaw_ask b_ n ([night] : List Int)) fun x1 =>
  if (x1 != 0) = true then
    some ([], x1)
  else
    Option.bind (m_bylaw_search_api_Version__bylaw_sourceOf b_.Versions source) fun ⟨x4, x5⟩ =>
    if (!x5) = true then
      some ([], 3)
    else
      Option.bind (m_IN_bylaw_copied b_) fun ⟨v12, v13⟩ =>
      gd ((0 < v12.length) ∧ (0 ≤ x4 ∧ x4 ≤ (v12.length : Int))) <|
      Option.bind (some (sub v12 0 (x4).toNat)) fun sl20 =>
      gd ((0 < v12.length) ∧ (0 ≤ (W (x4 + 1)) ∧ (W (x4 + 1)) ≤ (v12.length : Int))) <|
      Option.bind (some (sub v12 ((W (x4 + 1))).toNat v12.length)) fun sl22 =>
      gd ((((x4).toNat - 0) + (v12.length - ((W (x4 + 1))).toNat)) * 88 ≤ 140737488355328 ∧ ((x4).toNat - 0) + (v12.length - ((W (x4 + 1))).toNat) ≤ 9223372036854775807) <|
      Option.bind (m_bylaw_tells b_ n night) fun ⟨x25, x26, x27⟩ =>
      Option.bind (m_bylaw_tells (⟨(sl20 ++ sl22), v13⟩ : TBylaw) n night) fun ⟨x29, x30, x31⟩ =>
      Option.bind (m_bylaw_differ__bylaw_tells_1__bylaw_tells_1 b_ x25 x26 x27 x29 x30 x31) fun x33 =>
      some (x33, 0)
theorem d_bylaw_Moved (b_ : TBylaw) (source : Int) (n : TNight) (night : Int) (r : ((List Int) × Int)) (hm : m_bylaw_Moved b_ source n night = some r) : Does Tryz.prog 39 [.agg (TBylaw.c b_), DI source, .agg (TNight.c n), DI night] (fun x => x = .tup [lD 1 r.1 cI, DI r.2]) := by
  refine does_zy (X := ⟨Tryz.prog, tt, Tryz.f39.ntmps, pl39, [17, 18], [95, 96], [], [70], []⟩) pok _ Tryz.func39 rfl rfl (Nat.le_of_ble_eq_true rfl) ?_
  refine ⟨([night] : List Int).flatMap cI, ([night] : List Int).length, ⟨rfl, rfl⟩, ?_⟩
  obtain ⟨x1, hx2, hm⟩ := bd_some hm
  refine CallOwn.det (d_bylaw_ask b_ n (([night] : List Int)) _ hx2) ?_
  revert hm
  refine VIf.b (fun h3 hm => ?_) (fun h3 hm => ?_)
  cases hm
  exact RetY.le (⟨_, rfl, ⟨leD.nil, leD.refl _, trivial⟩⟩)
  obtain ⟨⟨x4, x5⟩, hx6, hm⟩ := bd_some hm
  refine CallY.det (d_bylaw_search_api_Version__bylaw_sourceOf b_.Versions source _ hx6) ?_
  revert hm
  refine VIf.b (fun h7 hm => ?_) (fun h7 hm => ?_)
  cases hm
  exact RetY.le (⟨_, rfl, ⟨leD.nil, leD.refl _, trivial⟩⟩)
  obtain ⟨ev18, he19, hm⟩ := bd_some hm
  refine CallIn.ofZ pok ⟨[(0, .agg [lD 11 b_.Versions TVersion.c, lD 5 b_.Streets TStreet.c]), (1000000, .agg [lD 11 b_.Versions TVersion.c, lD 5 b_.Streets TStreet.c]), (1000001, DI source), (1000002, .agg [DI n.No, DI n.Set.Lo, DI n.Set.Hi, DI n.Rise.Lo, DI n.Rise.Hi, DI n.Light.Lo, DI n.Light.Hi, DI n.Fog]), (1000003, DI night), (1000004, .own 0 0), (1000006, .own 1 0), (1000008, .v (.slice none 0 0)), (1000009, DI 0), (1000010, DI x1), (1000011, DI x4), (1000012, DB x5), (1000020, DB (x1 != 0)), (1000030, DB (!x5))], [(0, .blk [lD 11 b_.Versions TVersion.c, lD 5 b_.Streets TStreet.c] 25), (1, .blk [DI n.No, DI n.Set.Lo, DI n.Set.Hi, DI n.Rise.Lo, DI n.Rise.Hi, DI n.Light.Lo, DI n.Light.Hi, DI n.Fog] 65), (2, rE 1 ([night] : List Int) cI 3)], 3⟩ (match ev18 with | (v12, v13) => (⟨[(0, .agg [lD 11 b_.Versions TVersion.c, lD 5 b_.Streets TStreet.c]), (1, DI source), (2, .agg [DI n.No, DI n.Set.Lo, DI n.Set.Hi, DI n.Rise.Lo, DI n.Rise.Hi, DI n.Light.Lo, DI n.Light.Hi, DI n.Fog]), (3, DI night), (4, .own 0 0), (6, .own 1 0), (8, .v (.slice none 0 0)), (9, DI 0), (10, DI x1), (11, DI x4), (12, DB x5), (20, DB (x1 != 0)), (30, DB (!x5)), (32, .agg [.row 5 11, .row 6 5])], [(0, .blk [lD 11 b_.Versions TVersion.c, lD 5 b_.Streets TStreet.c] 25), (1, .blk [DI n.No, DI n.Set.Lo, DI n.Set.Hi, DI n.Rise.Lo, DI n.Rise.Hi, DI n.Light.Lo, DI n.Light.Hi, DI n.Fog] 65), (2, rE 1 ([night] : List Int) cI 3), (5, rE 11 v12 TVersion.c 35), (6, rE 5 v13 TStreet.c 42)], 7⟩ : Sy) : Sy) pl70 [17, 18] [95, 96] [70] Tryz.func70 rfl rfl rfl (SubY.of 3 rfl ⟨tR rfl, tR rfl, tR rfl, tR rfl, tR rfl, tR rfl, tR rfl, tR rfl, tR rfl, tR rfl, tR rfl, tR rfl, tR rfl, tR rfl, trivial⟩ ⟨hR rfl, hR rfl, hW rfl, trivial⟩) (fun sv => ?_) ?_
  have hm := he19
  refine ⟨rfl, ?_⟩
  obtain ⟨x35, hx36, hm⟩ := bd_some hm
  refine CallU.mk ⟨_, _, _, _, u_slices_Clone_api_Version_api_Version b_.Versions _ hx36, ?_⟩
  obtain ⟨x37, hx38, hm⟩ := bd_some hm
  refine CallU.mk ⟨_, _, _, _, u_slices_Clone_api_Street_api_Street b_.Streets _ hx38, ?_⟩
  cases hm
  exact SubY.of 7 rfl ⟨tR rfl, tR rfl, tR rfl, tR rfl, tR rfl, tR rfl, tR rfl, tR rfl, tR rfl, tR rfl, tR rfl, tR rfl, tR rfl, tR rfl, trivial⟩ ⟨hR rfl, hR rfl, hW rfl, hW rfl, hW rfl, trivial⟩
  obtain ⟨v12, v13⟩ := ev18
  refine ⟨rfl, ?_⟩
  obtain ⟨hg, hm⟩ := gd_some hm
  obtain ⟨sl20, hy, hm⟩ := bd_some hm
  refine ⟨hg.1, hg.2, fun o ho => ?_⟩
  obtain rfl : o = 0 := ho.2 rfl
  have hr21 := rsl_part (c := TVersion.c) (z := 11) (a := 0) (b := (x4).toNat) (fun _ => rfl) ho hg.1 (by omega) (by omega) hy
  clear ho hy
  obtain ⟨hg, hm⟩ := gd_some hm
  obtain ⟨sl22, hy, hm⟩ := bd_some hm
  refine ⟨hg.1, hg.2, fun o23 ho => ?_⟩
  have hr24 := rsl_part (c := TVersion.c) (z := 11) (a := ((W (x4 + 1))).toNat) (b := v12.length) (fun _ => rfl) ho hg.1 (by omega) (by omega) hy
  clear ho hy
  obtain ⟨hg, hm⟩ := gd_some hm
  refine ⟨hr24.2.2.1, ⟨hr21.2.2.2.1, hr21.2.2.2.2, hg⟩, _, _, rsl_app (c := TVersion.c) hr21 hr24, ?_⟩
  refine ⟨rfl, ?_⟩
  obtain ⟨⟨x25, x26, x27⟩, hx28, hm⟩ := bd_some hm
  refine CallY.det (d_bylaw_tells b_ n night _ hx28) ?_
  obtain ⟨⟨x29, x30, x31⟩, hx32, hm⟩ := bd_some hm
  refine CallOwn.det (d_bylaw_tells ((⟨(sl20 ++ sl22), v13⟩ : TBylaw)) n night _ hx32) ?_
  obtain ⟨x33, hx34, hm⟩ := bd_some hm
  refine CallY.det (d_bylaw_differ__bylaw_tells_1__bylaw_tells_1 b_ x25 x26 x27 x29 x30 x31 _ hx34) ?_
  cases hm
  exact RetY.le (leD.refl _)

def m_L01_sane : Option Bool :=
  Option.bind (m_L01_act ) fun x1 =>
  Option.bind (m_L01_night ) fun x3 =>
  Option.bind (m_bylaw_Lit x1 10 x3 60) fun ⟨x5, x6⟩ =>
  Option.bind (m_bylaw_Lit x1 20 (⟨x3.No, x3.Set, x3.Rise, x3.Light, 2⟩ : TNight) 60) fun ⟨x8, x9⟩ =>
  Option.bind (m_bylaw_On x1 10 (⟨x3.No, x3.Set, x3.Rise, x3.Light, 2⟩ : TNight) 60) fun ⟨x11, x12⟩ =>
  Option.bind (m_bylaw_Off x1 10 x3 60) fun ⟨x14, x15⟩ =>
  Option.bind (m_bylaw_On x1 20 x3 60) fun ⟨x17, x18⟩ =>
  Option.bind (m_bylaw_Burns x1 10 (⟨x3.No, x3.Set, x3.Rise, (⟨100, 200⟩ : TRange), x3.Fog⟩ : TNight) 60) fun ⟨x20, x21⟩ =>
  Option.bind (m_bylaw_Kept x1 10 (⟨x3.No, x3.Set, x3.Rise, (⟨100, 200⟩ : TRange), x3.Fog⟩ : TNight) (⟨300, 1050⟩ : TTimes) 60) fun ⟨x23, x24⟩ =>
  Option.bind (m_bylaw_District x1 1) fun ⟨x26, x27⟩ =>
  Option.bind (m_bylaw_Moved x1 1 x3 60) fun ⟨x29, x30⟩ =>
  if (x6 == 0) = true then
    if (x9 == 0) = true then
      if (x12 == 0) = true then
        if (x15 == 0) = true then
          if (x18 == 18) = true then
            if (x21 == 0) = true then
              if (x24 == 0) = true then
                if (x27 == 0) = true then
                  if (x30 == 0) = true then
                    if (x5 == 2) = true then
                      if (x8 == 2) = true then
                        if ((x11.Lo == 310) && (x11.Hi == 310)) = true then
                          if ((x14.Lo == 1035) && (x14.Hi == 1070)) = true then
                            if ((x20.Lo == 695) && (x20.Hi == 760)) = true then
                              if (x23 == 2) = true then
                                Option.bind (m_R01_Same x26 ([10, 11, 12, 20] : List Int)) fun x47 =>
                                if x47 = true then
                                  Option.bind (m_R01_Same x29 ([10, 11, 12] : List Int)) fun x50 =>
                                  some x50
                                else
                                  some false
                              else
                                some false
                            else
                              some false
                          else
                            some false
                        else
                          some false
                      else
                        some false
                    else
                      some false
                  else
                    some false
                else
                  some false
              else
                some false
            else
              some false
          else
            some false
        else
          some false
      else
        some false
    else
      some false
  else
    some false
theorem d_L01_sane (r : Bool) (hm : m_L01_sane  = some r) : Does Tryz.prog 15 [] (fun x => x = DB r) := by
  refine does_zy (X := ⟨Tryz.prog, tt, Tryz.f15.ntmps, [], [], [], [], [70], []⟩) pok _ Tryz.func15 rfl rfl (Nat.le_of_ble_eq_true rfl) ?_
  obtain ⟨x1, hx2, hm⟩ := bd_some hm
  refine CallY.det (d_L01_act  _ hx2) ?_
  obtain ⟨x3, hx4, hm⟩ := bd_some hm
  refine CallY.det (d_L01_night  _ hx4) ?_
  obtain ⟨⟨x5, x6⟩, hx7, hm⟩ := bd_some hm
  refine CallY.det (d_bylaw_Lit x1 10 x3 60 _ hx7) ?_
  obtain ⟨⟨x8, x9⟩, hx10, hm⟩ := bd_some hm
  refine CallY.det (d_bylaw_Lit x1 20 ((⟨x3.No, x3.Set, x3.Rise, x3.Light, 2⟩ : TNight)) 60 _ hx10) ?_
  obtain ⟨⟨x11, x12⟩, hx13, hm⟩ := bd_some hm
  refine CallY.det (d_bylaw_On x1 10 ((⟨x3.No, x3.Set, x3.Rise, x3.Light, 2⟩ : TNight)) 60 _ hx13) ?_
  obtain ⟨⟨x14, x15⟩, hx16, hm⟩ := bd_some hm
  refine CallY.det (d_bylaw_Off x1 10 x3 60 _ hx16) ?_
  obtain ⟨⟨x17, x18⟩, hx19, hm⟩ := bd_some hm
  refine CallY.det (d_bylaw_On x1 20 x3 60 _ hx19) ?_
  obtain ⟨⟨x20, x21⟩, hx22, hm⟩ := bd_some hm
  refine CallY.det (d_bylaw_Burns x1 10 ((⟨x3.No, x3.Set, x3.Rise, (⟨100, 200⟩ : TRange), x3.Fog⟩ : TNight)) 60 _ hx22) ?_
  obtain ⟨⟨x23, x24⟩, hx25, hm⟩ := bd_some hm
  refine CallY.det (d_bylaw_Kept x1 10 ((⟨x3.No, x3.Set, x3.Rise, (⟨100, 200⟩ : TRange), x3.Fog⟩ : TNight)) ((⟨300, 1050⟩ : TTimes)) 60 _ hx25) ?_
  obtain ⟨⟨x26, x27⟩, hx28, hm⟩ := bd_some hm
  refine CallY.det (d_bylaw_District x1 1 _ hx28) ?_
  obtain ⟨⟨x29, x30⟩, hx31, hm⟩ := bd_some hm
  refine CallY.det (d_bylaw_Moved x1 1 x3 60 _ hx31) ?_
  revert hm
  refine VIf.b (fun h32 hm => ?_) (fun h32 hm => ?_)
  revert hm
  refine VIf.b (fun h33 hm => ?_) (fun h33 hm => ?_)
  revert hm
  refine VIf.b (fun h34 hm => ?_) (fun h34 hm => ?_)
  revert hm
  refine VIf.b (fun h35 hm => ?_) (fun h35 hm => ?_)
  revert hm
  refine VIf.b (fun h36 hm => ?_) (fun h36 hm => ?_)
  revert hm
  refine VIf.b (fun h37 hm => ?_) (fun h37 hm => ?_)
  revert hm
  refine VIf.b (fun h38 hm => ?_) (fun h38 hm => ?_)
  revert hm
  refine VIf.b (fun h39 hm => ?_) (fun h39 hm => ?_)
  revert hm
  refine VIf.b (fun h40 hm => ?_) (fun h40 hm => ?_)
  revert hm
  refine VIf.b (fun h41 hm => ?_) (fun h41 hm => ?_)
  revert hm
  refine VIf.b (fun h42 hm => ?_) (fun h42 hm => ?_)
  revert hm
  refine VIf.b (fun h43 hm => ?_) (fun h43 hm => ?_)
  revert hm
  refine VIf.b (fun h44 hm => ?_) (fun h44 hm => ?_)
  revert hm
  refine VIf.b (fun h45 hm => ?_) (fun h45 hm => ?_)
  revert hm
  refine VIf.b (fun h46 hm => ?_) (fun h46 hm => ?_)
  refine ⟨([10, 11, 12, 20] : List Int).flatMap cI, ([10, 11, 12, 20] : List Int).length, ⟨rfl, rfl⟩, ?_⟩
  obtain ⟨x47, hx48, hm⟩ := bd_some hm
  refine CallOwn.det (d_R01_Same x26 (([10, 11, 12, 20] : List Int)) _ hx48) ?_
  revert hm
  refine VIf.b (fun h49 hm => ?_) (fun h49 hm => ?_)
  refine ⟨([10, 11, 12] : List Int).flatMap cI, ([10, 11, 12] : List Int).length, ⟨rfl, rfl⟩, ?_⟩
  obtain ⟨x50, hx51, hm⟩ := bd_some hm
  refine CallOwn.det (d_R01_Same x29 (([10, 11, 12] : List Int)) _ hx51) ?_
  cases hm
  exact RetY.le (leD.refl _)
  cases hm
  exact RetY.le (leD.refl _)
  cases hm
  exact RetY.le (leD.refl _)
  cases hm
  exact RetY.le (leD.refl _)
  cases hm
  exact RetY.le (leD.refl _)
  cases hm
  exact RetY.le (leD.refl _)
  cases hm
  exact RetY.le (leD.refl _)
  cases hm
  exact RetY.le (leD.refl _)
  cases hm
  exact RetY.le (leD.refl _)
  cases hm
  exact RetY.le (leD.refl _)
  cases hm
  exact RetY.le (leD.refl _)
  cases hm
  exact RetY.le (leD.refl _)
  cases hm
  exact RetY.le (leD.refl _)
  cases hm
  exact RetY.le (leD.refl _)
  cases hm
  exact RetY.le (leD.refl _)
  cases hm
  exact RetY.le (leD.refl _)
  cases hm
  exact RetY.le (leD.refl _)

def m_L01_BylawFinds (b_ : TBylaw) (a : TAsk) (night : Int) : Option Bool :=
  Option.bind (m_bylaw_Dates b_) fun ⟨x1, x2⟩ =>
  Option.bind (m_R01_Dates b_) fun ⟨x4, x5⟩ =>
  Option.bind (m_bylaw_InForce b_ a.Class night a.Known) fun ⟨x7, x8⟩ =>
  Option.bind (m_R01_InForce b_ a.Class (⟨night, a.Known⟩ : TAt)) fun ⟨x10, x11⟩ =>
  Option.bind (m_bylaw_Street b_ a.Lamp) fun ⟨x13, x14⟩ =>
  Option.bind (m_R01_Street b_ a.Lamp) fun ⟨x16, x17⟩ =>
  Option.bind (m_bylaw_Lamps b_) fun ⟨x19, x20⟩ =>
  Option.bind (m_R01_Lamps b_) fun ⟨x22, x23⟩ =>
  Option.bind (m_bylaw_District b_ a.District) fun ⟨x25, x26⟩ =>
  Option.bind (m_R01_District b_ a.District) fun ⟨x28, x29⟩ =>
  Option.bind (m_R01_Same x1 x4) fun x31 =>
  if x31 = true then
    if (x2 == x5) = true then
      if ((x7.Source == x10.Source) && ((x7.Class == x10.Class) && ((x7.From == x10.From) && ((x7.On.Lo == x10.On.Lo) && ((x7.On.Hi == x10.On.Hi) && ((x7.Off.Lo == x10.Off.Lo) && ((x7.Off.Hi == x10.Off.Hi) && ((x7.Moon == x10.Moon) && ((x7.Fog == x10.Fog) && ((x7.Known == x10.Known) && (x7.Until == x10.Until))))))))))) = true then
        if (x8 == x11) = true then
          if ((x13.Id == x16.Id) && ((x13.Class == x16.Class) && ((x13.District == x16.District) && ((x13.First == x16.First) && (x13.Many == x16.Many))))) = true then
            if (x14 == x17) = true then
              Option.bind (m_R01_Same x19 x22) fun x39 =>
              if x39 = true then
                if (x20 == x23) = true then
                  Option.bind (m_R01_Same x25 x28) fun x43 =>
                  if x43 = true then
                    if (x26 == x29) = true then
                      Option.bind (m_L01_sane ) fun x47 =>
                      some x47
                    else
                      some false
                  else
                    some false
                else
                  some false
              else
                some false
            else
              some false
          else
            some false
        else
          some false
      else
        some false
    else
      some false
  else
    some false
theorem d_L01_BylawFinds (b_ : TBylaw) (a : TAsk) (night : Int) (r : Bool) (hm : m_L01_BylawFinds b_ a night = some r) : Does Tryz.prog 3 [.agg (TBylaw.c b_), .agg (TAsk.c a), DI night] (fun x => x = DB r) := by
  refine does_zy (X := ⟨Tryz.prog, tt, Tryz.f3.ntmps, [], [], [], [], [70], []⟩) pok _ Tryz.func3 rfl rfl (Nat.le_of_ble_eq_true rfl) ?_
  obtain ⟨⟨x1, x2⟩, hx3, hm⟩ := bd_some hm
  refine CallY.det (d_bylaw_Dates b_ _ hx3) ?_
  obtain ⟨⟨x4, x5⟩, hx6, hm⟩ := bd_some hm
  refine CallY.det (d_R01_Dates b_ _ hx6) ?_
  obtain ⟨⟨x7, x8⟩, hx9, hm⟩ := bd_some hm
  refine CallY.det (d_bylaw_InForce b_ a.Class night a.Known _ hx9) ?_
  obtain ⟨⟨x10, x11⟩, hx12, hm⟩ := bd_some hm
  refine CallY.det (d_R01_InForce b_ a.Class ((⟨night, a.Known⟩ : TAt)) _ hx12) ?_
  obtain ⟨⟨x13, x14⟩, hx15, hm⟩ := bd_some hm
  refine CallY.det (d_bylaw_Street b_ a.Lamp _ hx15) ?_
  obtain ⟨⟨x16, x17⟩, hx18, hm⟩ := bd_some hm
  refine CallY.det (d_R01_Street b_ a.Lamp _ hx18) ?_
  obtain ⟨⟨x19, x20⟩, hx21, hm⟩ := bd_some hm
  refine CallY.det (d_bylaw_Lamps b_ _ hx21) ?_
  obtain ⟨⟨x22, x23⟩, hx24, hm⟩ := bd_some hm
  refine CallY.det (d_R01_Lamps b_ _ hx24) ?_
  obtain ⟨⟨x25, x26⟩, hx27, hm⟩ := bd_some hm
  refine CallY.det (d_bylaw_District b_ a.District _ hx27) ?_
  obtain ⟨⟨x28, x29⟩, hx30, hm⟩ := bd_some hm
  refine CallY.det (d_R01_District b_ a.District _ hx30) ?_
  obtain ⟨x31, hx32, hm⟩ := bd_some hm
  refine CallY.det (d_R01_Same x1 x4 _ hx32) ?_
  revert hm
  refine VIf.b (fun h33 hm => ?_) (fun h33 hm => ?_)
  revert hm
  refine VIf.b (fun h34 hm => ?_) (fun h34 hm => ?_)
  revert hm
  refine VIf.b (fun h35 hm => ?_) (fun h35 hm => ?_)
  revert hm
  refine VIf.b (fun h36 hm => ?_) (fun h36 hm => ?_)
  revert hm
  refine VIf.b (fun h37 hm => ?_) (fun h37 hm => ?_)
  revert hm
  refine VIf.b (fun h38 hm => ?_) (fun h38 hm => ?_)
  obtain ⟨x39, hx40, hm⟩ := bd_some hm
  refine CallY.det (d_R01_Same x19 x22 _ hx40) ?_
  revert hm
  refine VIf.b (fun h41 hm => ?_) (fun h41 hm => ?_)
  revert hm
  refine VIf.b (fun h42 hm => ?_) (fun h42 hm => ?_)
  obtain ⟨x43, hx44, hm⟩ := bd_some hm
  refine CallY.det (d_R01_Same x25 x28 _ hx44) ?_
  revert hm
  refine VIf.b (fun h45 hm => ?_) (fun h45 hm => ?_)
  revert hm
  refine VIf.b (fun h46 hm => ?_) (fun h46 hm => ?_)
  obtain ⟨x47, hx48, hm⟩ := bd_some hm
  refine CallY.det (d_L01_sane  _ hx48) ?_
  cases hm
  exact RetY.le (leD.refl _)
  cases hm
  exact RetY.le (leD.refl _)
  cases hm
  exact RetY.le (leD.refl _)
  cases hm
  exact RetY.le (leD.refl _)
  cases hm
  exact RetY.le (leD.refl _)
  cases hm
  exact RetY.le (leD.refl _)
  cases hm
  exact RetY.le (leD.refl _)
  cases hm
  exact RetY.le (leD.refl _)
  cases hm
  exact RetY.le (leD.refl _)
  cases hm
  exact RetY.le (leD.refl _)
  cases hm
  exact RetY.le (leD.refl _)

end Go.Proofs.YtmkkedbfjpkgkaaGreat
