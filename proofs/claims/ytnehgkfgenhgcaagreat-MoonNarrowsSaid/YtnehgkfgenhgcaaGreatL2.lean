/- Functions of the program as pure Lean functions, and that calls do what these say. Printed by a program out of the given form. -/
import Derived.Test.YtnehgkfgenhgcaaGreatL1
set_option linter.unusedVariables false
set_option linter.unusedSimpArgs false
namespace Go.Proofs.YtnehgkfgenhgcaaGreat
open Go Go.RowKit Go.Sx
set_option maxRecDepth 100000
set_option maxHeartbeats 20000000
def m_moon_Seen (s : TSky) (x : TSighting) : Option (TSky × Int) :=
  Option.bind (m_moon_Check s) fun x1 =>
  if (x1 != 0) = true then
    some ((⟨[], [], []⟩ : TSky), x1)
  else
    Option.bind (m_slices_BinarySearchFunc_api_Sighting_api_Sighting_api_Sighting__moon_Seen_1 s.Sightings x) fun ⟨x4, x5⟩ =>
    Option.bind (m_moon_CheckSighting x) fun x7 =>
    if (x7 != 0) = true then
      some ((⟨[], [], []⟩ : TSky), 23)
    else
      if x5 = true then
        some ((⟨[], [], []⟩ : TSky), 23)
      else
        if ((s.Sightings.length : Int) == 60) = true then
          some ((⟨[], [], []⟩ : TSky), 2)
        else
          Option.bind (m_IN_moon_copied_1 s) fun ⟨v35, v36, x37⟩ =>
          Option.bind (m_slices_Insert_api_Sighting_api_Sighting v35 x4 ([x] : List TSighting)) fun x72 =>
          some ((⟨v36, x37, x72⟩ : TSky), 0)
theorem d_moon_Seen (s : TSky) (x : TSighting) (r : (TSky × Int)) (hm : m_moon_Seen s x = some r) : Does Tryz.prog 7 [.agg (TSky.c s), .agg (TSighting.c x)] (fun x => x = .tup [.agg (TSky.c r.1), DI r.2]) := by
  refine does_zy (X := ⟨Tryz.prog, tt, Tryz.f7.ntmps, [], [32, 38, 40], [65], [], [31], []⟩) pok _ Tryz.func7 rfl rfl (Nat.le_of_ble_eq_true rfl) ?_
  obtain ⟨x1, hx2, hm⟩ := bd_some hm
  refine CallY.det (d_moon_Check s _ hx2) ?_
  revert hm
  refine VIf.b (fun h3 hm => ?_) (fun h3 hm => ?_)
  cases hm
  exact RetY.le (⟨_, rfl, ⟨⟨_, rfl, ⟨leD.nil, leD.nil, leD.nil, trivial⟩⟩, leD.refl _, trivial⟩⟩)
  obtain ⟨⟨x4, x5⟩, hx6, hm⟩ := bd_some hm
  refine CallY.det (d_slices_BinarySearchFunc_api_Sighting_api_Sighting_api_Sighting__moon_Seen_1 s.Sightings x _ hx6) ?_
  obtain ⟨x7, hx8, hm⟩ := bd_some hm
  refine CallY.det (d_moon_CheckSighting x _ hx8) ?_
  revert hm
  refine VIf.b (fun h9 hm => ?_) (fun h9 hm => ?_)
  cases hm
  exact RetY.le (⟨_, rfl, ⟨⟨_, rfl, ⟨leD.nil, leD.nil, leD.nil, trivial⟩⟩, leD.refl _, trivial⟩⟩)
  revert hm
  refine VIf.b (fun h10 hm => ?_) (fun h10 hm => ?_)
  cases hm
  exact RetY.le (⟨_, rfl, ⟨⟨_, rfl, ⟨leD.nil, leD.nil, leD.nil, trivial⟩⟩, leD.refl _, trivial⟩⟩)
  revert hm
  refine VIf.b (fun h11 hm => ?_) (fun h11 hm => ?_)
  cases hm
  exact RetY.le (⟨_, rfl, ⟨⟨_, rfl, ⟨leD.nil, leD.nil, leD.nil, trivial⟩⟩, leD.refl _, trivial⟩⟩)
  obtain ⟨ev70, he71, hm⟩ := bd_some hm
  refine CallIn.ofZ pok ⟨[(0, .agg (TSky.c s)), (1000000, .agg (TSky.c s)), (1000001, .agg (TSighting.c x)), (1000002, .own 0 0), (1000003, .own 1 0), (1000004, .own 2 0), (1000005, DI 0), (1000006, DI x1), (1000007, DI x4), (1000008, DB x5), (1000013, DB (x1 != 0)), (1000023, DB x5), (1000031, DB ((s.Sightings.length : Int) == 60))], [(0, .blk (TSky.c s) 33), (1, .blk (TSighting.c x) 45), (2, .blk [.v (.slice none 0 0), .v (.slice none 0 0), .v (.slice none 0 0)] 33)], 3⟩ (match ev70 with | (v35, v36, x37) => (⟨[(0, .agg (TSky.c s)), (1, .agg (TSighting.c x)), (2, .own 0 0), (3, .own 1 0), (4, .own 2 0), (5, DI 0), (6, DI x1), (7, DI x4), (8, DB x5), (13, DB (x1 != 0)), (23, DB x5), (31, DB ((s.Sightings.length : Int) == 60)), (38, .agg [.row 7 9, lD 3 x37 TRoof.c, .row 5 6])], [(0, .blk (TSky.c s) 33), (1, .blk (TSighting.c x) 45), (2, .blk [.v (.slice none 0 0), .v (.slice none 0 0), .v (.slice none 0 0)] 33), (5, rE 6 v35 TSighting.c 45), (7, rE 9 v36 TSheet.c 40)], 8⟩ : Sy) : Sy) pl31 [32, 38, 40] [65] [31] Tryz.func31 rfl rfl rfl (SubY.of 3 rfl ⟨tR rfl, tR rfl, tR rfl, tR rfl, tR rfl, tR rfl, tR rfl, tR rfl, tR rfl, tR rfl, tR rfl, tR rfl, tR rfl, trivial⟩ ⟨hR rfl, hR rfl, hR rfl, trivial⟩) (fun sv => ?_) ?_
  have hm := he71
  refine ⟨rfl, ?_⟩
  obtain ⟨x74, hx75, hm⟩ := bd_some hm
  refine CallY.det (d_slices_Clone_api_Roof_api_Roof s.Roofs _ hx75) ?_
  obtain ⟨x76, hx77, hm⟩ := bd_some hm
  refine .inl (CallU.mk ⟨_, _, _, _, u_slices_Clone_api_Sighting_api_Sighting s.Sightings _ hx77, ?_⟩)
  obtain ⟨ev97, he, hk98⟩ := bd_some hm
  refine LoopY.ofL (m_IN_moon_copied_1_L1 s) (fun (v83, v84) => ⟨[(0, .agg (TSky.c s)), (1, .own 3 0), (2, .own 4 0), (3, .own 6 0), (14, lD 9 s.Sheets TSheet.c), (15, DI (s.Sheets.length : Int)), (16, DI v83), (1000000, .agg (TSky.c s)), (1000001, .agg (TSighting.c x)), (1000002, .own 0 0), (1000003, .own 1 0), (1000004, .own 2 0), (1000005, DI 0), (1000006, DI x1), (1000007, DI x4), (1000008, DB x5), (1000013, DB (x1 != 0)), (1000023, DB x5), (1000031, DB ((s.Sightings.length : Int) == 60))], [(0, .blk (TSky.c s) 33), (1, .blk (TSighting.c x) 45), (2, .blk [.v (.slice none 0 0), .v (.slice none 0 0), .v (.slice none 0 0)] 33), (3, .blk (TSky.c s) 33), (4, .blk [.v (.slice none 0 0), .v (.slice none 0 0), .v (.slice none 0 0)] 33), (5, rE 6 x76 TSighting.c 45), (6, .blk [.row 7 9, lD 3 x74 TRoof.c, .row 5 6] 33), (7, rE 9 v84 TSheet.c 40)], 8⟩) (0, []) (SubY.of 7 rfl ⟨tR rfl, tR rfl, tR rfl, tR rfl, tR rfl, tR rfl, tR rfl, tR rfl, tR rfl, tR rfl, tR rfl, tR rfl, tR rfl, tR rfl, tR rfl, tR rfl, tR rfl, tR rfl, tR rfl, trivial⟩ ⟨hR rfl, hR rfl, hR rfl, hR rfl, hR rfl, hW rfl, hR rfl, ⟨rfl, rfl⟩, trivial⟩) he ?_
  rintro fu99 ⟨v83, v84⟩ b hm hi100
  revert hm
  refine VIf.b (fun h101 hm => ?_) (fun h101 hm => ?_)
  obtain ⟨e102, hx103, hm⟩ := bd_some hm
  refine ⟨_, el_idx (fun _ => rfl) hx103, ?_⟩
  obtain ⟨x104, hx105, hm⟩ := bd_some hm
  refine CallY.det (d_slices_Clone_api_Row_api_Row e102.Rows _ hx105) ?_
  refine ⟨([(⟨e102.Source, e102.Night, e102.Known, e102.Until, x104, e102.Off, e102.Light⟩ : TSheet)] : List TSheet).flatMap TSheet.c, ([(⟨e102.Source, e102.Night, e102.Known, e102.Until, x104, e102.Off, e102.Light⟩ : TSheet)] : List TSheet).length, ⟨rfl, rfl⟩, ?_⟩
  obtain ⟨hg, hm⟩ := gd_some hm
  refine ⟨hg, _, _, flat_app (c := TSheet.c) (l := (v84 : List TSheet)) (r := (([(⟨e102.Source, e102.Night, e102.Known, e102.Until, x104, e102.Off, e102.Light⟩ : TSheet)] : List TSheet) : List TSheet)), ?_⟩
  cases hm
  exact ⟨(_, ((W (v83 + 1)), (v84 ++ ([(⟨e102.Source, e102.Night, e102.Known, e102.Until, x104, e102.Off, e102.Light⟩ : TSheet)] : List TSheet)))), SubY.of 8 rfl ⟨tR rfl, tR rfl, tR rfl, tR rfl, tR rfl, tR rfl, tR rfl, tR rfl, tR rfl, tR rfl, tR rfl, tR rfl, tR rfl, tR rfl, tR rfl, tR rfl, tR rfl, tR rfl, tR rfl, trivial⟩ ⟨hR rfl, hR rfl, hR rfl, hR rfl, hR rfl, hW rfl, hR rfl, hW rfl, trivial⟩, hi100, Nat.lt_succ_self _⟩
  cases hm
  cases hi100
  have hm := hk98
  cases hm
  exact SubY.of 8 rfl ⟨tR rfl, tR rfl, tR rfl, tR rfl, tR rfl, tR rfl, tR rfl, tR rfl, tR rfl, tR rfl, tR rfl, tR rfl, tR rfl, trivial⟩ ⟨hR rfl, hR rfl, hR rfl, hW rfl, hW rfl, trivial⟩
  obtain ⟨v35, v36, x37⟩ := ev70
  refine ⟨([x] : List TSighting).flatMap TSighting.c, ([x] : List TSighting).length, ⟨rfl, rfl⟩, ?_⟩
  obtain ⟨x72, hx73, hm⟩ := bd_some hm
  refine .inl (CallL.mk ⟨_, _, _, _, _, _, _, rfl, d_slices_Insert_api_Sighting_api_Sighting v35 x4 (([x] : List TSighting)) _ hx73, ?_⟩)
  cases hm
  exact RetY.le (leD.refl _)

def m_moon_has (s : TSlip) (d : TFrac) : Option Bool :=
  Option.bind (m_moon_compare d s.Lo) fun x1 =>
  if (decide (x1 > 0)) = true then
    Option.bind (m_moon_compare d s.Hi) fun x4 =>
    some (decide (x4 ≤ 0))
  else
    if (x1 == 0) = true then
      if (!s.Open) = true then
        Option.bind (m_moon_compare d s.Hi) fun x8 =>
        some (decide (x8 ≤ 0))
      else
        some false
    else
      some false
theorem d_moon_has (s : TSlip) (d : TFrac) (r : Bool) (hm : m_moon_has s d = some r) : Does Tryz.prog 36 [.agg (TSlip.c s), .agg (TFrac.c d)] (fun x => x = DB r) := by
  refine does_zy (X := ⟨Tryz.prog, tt, Tryz.f36.ntmps, [], [], [], [], [], []⟩) pok _ Tryz.func36 rfl rfl (Nat.le_of_ble_eq_true rfl) ?_
  obtain ⟨x1, hx2, hm⟩ := bd_some hm
  refine CallY.det (d_moon_compare d s.Lo _ hx2) ?_
  revert hm
  refine VIf.b (fun h3 hm => ?_) (fun h3 hm => ?_)
  obtain ⟨x4, hx5, hm⟩ := bd_some hm
  refine CallY.det (d_moon_compare d s.Hi _ hx5) ?_
  cases hm
  exact RetY.le (leD.refl _)
  revert hm
  refine VIf.b (fun h6 hm => ?_) (fun h6 hm => ?_)
  revert hm
  refine VIf.b (fun h7 hm => ?_) (fun h7 hm => ?_)
  obtain ⟨x8, hx9, hm⟩ := bd_some hm
  refine CallY.det (d_moon_compare d s.Hi _ hx9) ?_
  cases hm
  exact RetY.le (leD.refl _)
  cases hm
  exact RetY.le (leD.refl _)
  cases hm
  exact RetY.le (leD.refl _)

def m_moon_Show (s : TSky) (night : Int) (known : Int) (minute : Int) (above : Bool) : Option (TFrac × Int) :=
  Option.bind (m_moon_clearly s night known ([minute] : List Int)) fun ⟨x1, x2⟩ =>
  optM x1 (
    if (x2 != 0) = true then
      some ((⟨0, 0⟩ : TFrac), x2)
    else
      none) fun p4 =>
  if (x2 != 0) = true then
    some ((⟨0, 0⟩ : TFrac), x2)
  else
    Option.bind (m_moon_known_edge p4 minute) fun x7 =>
    if above = true then
      Option.bind (m_moon_compare p4.slip.Hi x7) fun x10 =>
      if (decide (x10 ≤ 0)) = true then
        some ((⟨0, 0⟩ : TFrac), 3)
      else
        some (p4.slip.Hi, 0)
    else
      Option.bind (m_moon_compare x7 p4.slip.Hi) fun x13 =>
      if (decide (x13 > 0)) = true then
        Option.bind (m_moon_has p4.slip p4.slip.Hi) fun x16 =>
        if (!x16) = true then
          some ((⟨0, 0⟩ : TFrac), 3)
        else
          some (p4.slip.Hi, 0)
      else
        Option.bind (m_moon_has p4.slip x7) fun x19 =>
        if (!x19) = true then
          some ((⟨0, 0⟩ : TFrac), 3)
        else
          some (x7, 0)
theorem d_moon_Show (s : TSky) (night : Int) (known : Int) (minute : Int) (above : Bool) (r : (TFrac × Int)) (hm : m_moon_Show s night known minute above = some r) : Does Tryz.prog 9 [.agg (TSky.c s), DI night, DI known, DI minute, DB above] (fun x => x = .tup [.agg (TFrac.c r.1), DI r.2]) := by
  refine does_zy (X := ⟨Tryz.prog, tt, Tryz.f9.ntmps, pl9, [], [], [], [], []⟩) pok _ Tryz.func9 rfl rfl (Nat.le_of_ble_eq_true rfl) ?_
  refine ⟨([minute] : List Int).flatMap cI, ([minute] : List Int).length, ⟨rfl, rfl⟩, ?_⟩
  obtain ⟨⟨x1, x2⟩, hx3, hm⟩ := bd_some hm
  refine CallOwn.det (d_moon_clearly s night known (([minute] : List Int)) _ hx3) ?_
  rcases x1 with _ | p4
  replace hm := opt_none hm
  revert hm
  refine VIf.b (fun h5 hm => ?_) (fun h5 hm => ?_)
  cases hm
  exact RetY.le (leD.refl _)
  cases hm
  replace hm := opt_some hm
  revert hm
  refine VIf.b (fun h6 hm => ?_) (fun h6 hm => ?_)
  cases hm
  exact RetY.le (leD.refl _)
  obtain ⟨x7, hx8, hm⟩ := bd_some hm
  refine CallY.det (d_moon_known_edge p4 minute _ hx8) ?_
  revert hm
  refine VIf.b (fun h9 hm => ?_) (fun h9 hm => ?_)
  refine ⟨rfl, ?_⟩
  obtain ⟨x10, hx11, hm⟩ := bd_some hm
  refine CallY.det (d_moon_compare p4.slip.Hi x7 _ hx11) ?_
  revert hm
  refine VIf.b (fun h12 hm => ?_) (fun h12 hm => ?_)
  cases hm
  exact RetY.le (leD.refl _)
  cases hm
  exact RetY.le (leD.refl _)
  refine ⟨rfl, ?_⟩
  obtain ⟨x13, hx14, hm⟩ := bd_some hm
  refine CallY.det (d_moon_compare x7 p4.slip.Hi _ hx14) ?_
  revert hm
  refine VIf.b (fun h15 hm => ?_) (fun h15 hm => ?_)
  refine ⟨rfl, ?_⟩
  obtain ⟨x16, hx17, hm⟩ := bd_some hm
  refine CallY.det (d_moon_has p4.slip p4.slip.Hi _ hx17) ?_
  revert hm
  refine VIf.b (fun h18 hm => ?_) (fun h18 hm => ?_)
  cases hm
  exact RetY.le (leD.refl _)
  cases hm
  exact RetY.le (leD.refl _)
  refine ⟨rfl, ?_⟩
  obtain ⟨x19, hx20, hm⟩ := bd_some hm
  refine CallY.det (d_moon_has p4.slip x7 _ hx20) ?_
  revert hm
  refine VIf.b (fun h21 hm => ?_) (fun h21 hm => ?_)
  cases hm
  exact RetY.le (leD.refl _)
  cases hm
  exact RetY.le (leD.refl _)

def m_moon_Moved_1 (x : TSheet) (c_0 : Int) : Option Bool :=
  some (x.Source == c_0)
theorem d_moon_Moved_1 (x : TSheet) (c_0 : Int) (r : Bool) (hm : m_moon_Moved_1 x c_0 = some r) : Does Tryz.prog 39 [.agg (TSheet.c x), .ptr [DI c_0] 0] (fun x => x = DB r) := by
  refine does_zy (X := ⟨Tryz.prog, tt, Tryz.f39.ntmps, [], [], [], [], [], []⟩) pok _ Tryz.func39 rfl rfl (Nat.le_of_ble_eq_true rfl) ?_
  cases hm
  exact RetY.le (leD.refl _)

def m_slices_IndexFunc_api_Sheet_api_Sheet__moon_Moved_1_L1 (s : (List TSheet)) (c1_0 : Int) : Int → Option (Sum Int (Sum Int Int)) := fun v7 =>
  if (decide (v7 < (s.length : Int))) = true then
    Option.bind (idx s v7) fun e15 =>
    Option.bind (m_moon_Moved_1 e15 c1_0) fun x17 =>
    if x17 = true then
      some (.inr (.inr v7))
    else
      some (.inl (W (v7 + 1)))
  else
    some (.inr (.inl v7))
def m_slices_IndexFunc_api_Sheet_api_Sheet__moon_Moved_1 (s : (List TSheet)) (c1_0 : Int) : Option Int :=
  Option.bind (loopF (m_slices_IndexFunc_api_Sheet_api_Sheet__moon_Moved_1_L1 s c1_0) 0) fun e =>
  match e with
  | .inl v20 =>
    some (-1)
  | .inr rr21 =>
    some rr21
theorem d_slices_IndexFunc_api_Sheet_api_Sheet__moon_Moved_1 (s : (List TSheet)) (c1_0 : Int) (r : Int) (hm : m_slices_IndexFunc_api_Sheet_api_Sheet__moon_Moved_1 s c1_0 = some r) : Does Tryz.prog 72 [lD 9 s TSheet.c, .fn 39 [] [.ptr [DI c1_0] 0]] (fun x => x = DI r) := by
  refine does_zy (X := ⟨Tryz.prog, tt, Tryz.f72.ntmps, [], [], [], [], [], []⟩) pok _ Tryz.func72 rfl rfl (Nat.le_of_ble_eq_true rfl) ?_
  obtain ⟨ev22, he, hk23⟩ := bd_some hm
  refine LoopY.ofL (m_slices_IndexFunc_api_Sheet_api_Sheet__moon_Moved_1_L1 s c1_0) (fun v7 => ⟨[(0, lD 9 s TSheet.c), (1, .fn 39 [] [.ptr [DI c1_0] 0]), (4, DI 0), (7, DI (s.length : Int)), (8, DI v7)], [], 0⟩) 0 (SubY.of 0 rfl ⟨tR rfl, tR rfl, tR rfl, tR rfl, tR rfl, trivial⟩ trivial) he ?_
  rintro fu24 v7 b hm hi25
  revert hm
  refine VIf.b (fun h26 hm => ?_) (fun h26 hm => ?_)
  obtain ⟨e27, hx28, hm⟩ := bd_some hm
  refine ⟨_, el_idx (fun _ => rfl) hx28, ?_⟩
  obtain ⟨x29, hx30, hm⟩ := bd_some hm
  refine CallY.det (d_moon_Moved_1 e27 c1_0 _ hx30) ?_
  revert hm
  refine VIf.b (fun h31 hm => ?_) (fun h31 hm => ?_)
  cases hm
  cases hi25
  have hm := hk23
  cases hm
  exact RetY.le (leD.refl _)
  cases hm
  exact ⟨(_, (W (v7 + 1))), SubY.of 0 rfl ⟨tR rfl, tR rfl, tR rfl, tR rfl, tR rfl, trivial⟩ trivial, hi25, Nat.lt_succ_self _⟩
  cases hm
  cases hi25
  have hm := hk23
  cases hm
  exact RetY.le (leD.refl _)

def m_slices_DeleteFunc_api_Sheet_api_Sheet__moon_Moved_1_L1 (c1_0 : Int) : (Int × Int × (List TSheet)) → Option (Sum (Int × Int × (List TSheet)) (Int × Int × (List TSheet))) := fun (i16, j17, v18) =>
  if (decide (j17 < (v18.length : Int))) = true then
    Option.bind (idx v18 j17) fun e32 =>
    Option.bind (idx v18 j17) fun e34 =>
    Option.bind (m_moon_Moved_1 e34 c1_0) fun x36 =>
    if (!x36) = true then
      Option.bind (idx v18 i16) fun e39 =>
      Option.bind (idx v18 i16) fun e41 =>
      some (.inl ((W (i16 + 1)), (W (j17 + 1)), (v18.set i16.toNat e34)))
    else
      some (.inl (i16, (W (j17 + 1)), v18))
  else
    some (.inr (i16, j17, v18))
def m_slices_DeleteFunc_api_Sheet_api_Sheet__moon_Moved_1 (s : (List TSheet)) (c1_0 : Int) : Option (List TSheet) :=
  Option.bind (m_slices_IndexFunc_api_Sheet_api_Sheet__moon_Moved_1 s c1_0) fun x1 =>
  if (x1 == (-1)) = true then
    some s
  else
    Option.bind (loopF (m_slices_DeleteFunc_api_Sheet_api_Sheet__moon_Moved_1_L1 c1_0) (x1, (W (x1 + 1)), s)) fun (i43, j44, v45) =>
    gd (0 ≤ i43 ∧ i43.toNat ≤ v45.length ∧ 0 < v45.length) (some (v45.take i43.toNat))
theorem d_slices_DeleteFunc_api_Sheet_api_Sheet__moon_Moved_1 (s : (List TSheet)) (c1_0 : Int) (r : (List TSheet)) (hm : m_slices_DeleteFunc_api_Sheet_api_Sheet__moon_Moved_1 s c1_0 = some r) : DoesL Tryz.prog 38 9 s.length (s.flatMap TSheet.c) 40 [.fn 39 [] [.ptr [DI c1_0] 0]] 9 r.length (r.flatMap TSheet.c) := by
  refine does_zdel (X := ⟨Tryz.prog, tt, Tryz.f38.ntmps, [], [], [], [], [], []⟩) (t := 29) (ty := 40) (args := [.fn 39 [] [.ptr [DI c1_0] 0]]) pok Tryz.func38 rfl rfl (Nat.le_of_ble_eq_true rfl) .mk rfl rfl rfl rfl rfl rfl ?_
  obtain ⟨x1, hx2, hm⟩ := bd_some hm
  refine CallOwn.det (d_slices_IndexFunc_api_Sheet_api_Sheet__moon_Moved_1 s c1_0 _ hx2) ?_
  revert hm
  refine VIf.b (fun h3 hm => ?_) (fun h3 hm => ?_)
  cases hm
  exact ⟨rfl, rfl⟩
  obtain ⟨ev46, he, hk47⟩ := bd_some hm
  refine LoopY.ofL (m_slices_DeleteFunc_api_Sheet_api_Sheet__moon_Moved_1_L1 c1_0) (fun (i16, j17, v18) => ⟨[(0, .row 0 9), (1, .fn 39 [] [.ptr [DI c1_0] 0]), (4, .v (.slice none 0 0)), (5, DI i16), (6, DI j17), (12, DB (x1 == (-1)))], [(0, rE 9 v18 TSheet.c 40)], 1⟩) (x1, (W (x1 + 1)), s) (SubY.of 1 rfl ⟨tR rfl, tR rfl, tR rfl, tR rfl, tR rfl, tR rfl, trivial⟩ ⟨hW rfl, trivial⟩) he ?_
  rintro fu48 ⟨i16, j17, v18⟩ b hm hi49
  revert hm
  refine VIf.b (fun h50 hm => ?_) (fun h50 hm => ?_)
  obtain ⟨e51, hx52, hm⟩ := bd_some hm
  refine ⟨idx_bd hx52, ?_⟩
  obtain ⟨e53, hx54, hm⟩ := bd_some hm
  refine ⟨_, el_row (fun _ => rfl) hx54, ?_⟩
  obtain ⟨x55, hx56, hm⟩ := bd_some hm
  refine CallY.det (d_moon_Moved_1 e53 c1_0 _ hx56) ?_
  revert hm
  refine VIf.b (fun h57 hm => ?_) (fun h57 hm => ?_)
  obtain ⟨e58, hx59, hm⟩ := bd_some hm
  refine ⟨idx_bd hx59, ?_⟩
  obtain ⟨e60, hx61, hm⟩ := bd_some hm
  refine ⟨_, el_row (fun _ => rfl) hx61, _, set_row (y := e53) (fun _ => rfl) hx61, ?_⟩
  cases hm
  exact ⟨(_, ((W (i16 + 1)), (W (j17 + 1)), (v18.set i16.toNat e53))), SubY.of 1 rfl ⟨tR rfl, tR rfl, tR rfl, tR rfl, tR rfl, tR rfl, trivial⟩ ⟨hW rfl, trivial⟩, hi49, Nat.lt_succ_self _⟩
  cases hm
  exact ⟨(_, (i16, (W (j17 + 1)), v18)), SubY.of 1 rfl ⟨tR rfl, tR rfl, tR rfl, tR rfl, tR rfl, tR rfl, trivial⟩ ⟨hW rfl, trivial⟩, hi49, Nat.lt_succ_self _⟩
  cases hm
  cases hi49
  have hm := hk47
  obtain ⟨hg, hm⟩ := gd_some hm
  cases hm
  exact del_k (fun _ => rfl) hg

def m_moon_Moved_2 (x : TSighting) (c_0 : Int) : Option Bool :=
  some (x.Source == c_0)
theorem d_moon_Moved_2 (x : TSighting) (c_0 : Int) (r : Bool) (hm : m_moon_Moved_2 x c_0 = some r) : Does Tryz.prog 41 [.agg (TSighting.c x), .ptr [DI c_0] 0] (fun x => x = DB r) := by
  refine does_zy (X := ⟨Tryz.prog, tt, Tryz.f41.ntmps, [], [], [], [], [], []⟩) pok _ Tryz.func41 rfl rfl (Nat.le_of_ble_eq_true rfl) ?_
  cases hm
  exact RetY.le (leD.refl _)

def m_slices_IndexFunc_api_Sighting_api_Sighting__moon_Moved_2_L1 (s : (List TSighting)) (c1_0 : Int) : Int → Option (Sum Int (Sum Int Int)) := fun v7 =>
  if (decide (v7 < (s.length : Int))) = true then
    Option.bind (idx s v7) fun e15 =>
    Option.bind (m_moon_Moved_2 e15 c1_0) fun x17 =>
    if x17 = true then
      some (.inr (.inr v7))
    else
      some (.inl (W (v7 + 1)))
  else
    some (.inr (.inl v7))
def m_slices_IndexFunc_api_Sighting_api_Sighting__moon_Moved_2 (s : (List TSighting)) (c1_0 : Int) : Option Int :=
  Option.bind (loopF (m_slices_IndexFunc_api_Sighting_api_Sighting__moon_Moved_2_L1 s c1_0) 0) fun e =>
  match e with
  | .inl v20 =>
    some (-1)
  | .inr rr21 =>
    some rr21
theorem d_slices_IndexFunc_api_Sighting_api_Sighting__moon_Moved_2 (s : (List TSighting)) (c1_0 : Int) (r : Int) (hm : m_slices_IndexFunc_api_Sighting_api_Sighting__moon_Moved_2 s c1_0 = some r) : Does Tryz.prog 73 [lD 6 s TSighting.c, .fn 41 [] [.ptr [DI c1_0] 0]] (fun x => x = DI r) := by
  refine does_zy (X := ⟨Tryz.prog, tt, Tryz.f73.ntmps, [], [], [], [], [], []⟩) pok _ Tryz.func73 rfl rfl (Nat.le_of_ble_eq_true rfl) ?_
  obtain ⟨ev22, he, hk23⟩ := bd_some hm
  refine LoopY.ofL (m_slices_IndexFunc_api_Sighting_api_Sighting__moon_Moved_2_L1 s c1_0) (fun v7 => ⟨[(0, lD 6 s TSighting.c), (1, .fn 41 [] [.ptr [DI c1_0] 0]), (4, DI 0), (7, DI (s.length : Int)), (8, DI v7)], [], 0⟩) 0 (SubY.of 0 rfl ⟨tR rfl, tR rfl, tR rfl, tR rfl, tR rfl, trivial⟩ trivial) he ?_
  rintro fu24 v7 b hm hi25
  revert hm
  refine VIf.b (fun h26 hm => ?_) (fun h26 hm => ?_)
  obtain ⟨e27, hx28, hm⟩ := bd_some hm
  refine ⟨_, el_idx (fun _ => rfl) hx28, ?_⟩
  obtain ⟨x29, hx30, hm⟩ := bd_some hm
  refine CallY.det (d_moon_Moved_2 e27 c1_0 _ hx30) ?_
  revert hm
  refine VIf.b (fun h31 hm => ?_) (fun h31 hm => ?_)
  cases hm
  cases hi25
  have hm := hk23
  cases hm
  exact RetY.le (leD.refl _)
  cases hm
  exact ⟨(_, (W (v7 + 1))), SubY.of 0 rfl ⟨tR rfl, tR rfl, tR rfl, tR rfl, tR rfl, trivial⟩ trivial, hi25, Nat.lt_succ_self _⟩
  cases hm
  cases hi25
  have hm := hk23
  cases hm
  exact RetY.le (leD.refl _)

def m_slices_DeleteFunc_api_Sighting_api_Sighting__moon_Moved_2_L1 (c1_0 : Int) : (Int × Int × (List TSighting)) → Option (Sum (Int × Int × (List TSighting)) (Int × Int × (List TSighting))) := fun (i16, j17, v18) =>
  if (decide (j17 < (v18.length : Int))) = true then
    Option.bind (idx v18 j17) fun e32 =>
    Option.bind (idx v18 j17) fun e34 =>
    Option.bind (m_moon_Moved_2 e34 c1_0) fun x36 =>
    if (!x36) = true then
      Option.bind (idx v18 i16) fun e39 =>
      Option.bind (idx v18 i16) fun e41 =>
      some (.inl ((W (i16 + 1)), (W (j17 + 1)), (v18.set i16.toNat e34)))
    else
      some (.inl (i16, (W (j17 + 1)), v18))
  else
    some (.inr (i16, j17, v18))
def m_slices_DeleteFunc_api_Sighting_api_Sighting__moon_Moved_2 (s : (List TSighting)) (c1_0 : Int) : Option (List TSighting) :=
  Option.bind (m_slices_IndexFunc_api_Sighting_api_Sighting__moon_Moved_2 s c1_0) fun x1 =>
  if (x1 == (-1)) = true then
    some s
  else
    Option.bind (loopF (m_slices_DeleteFunc_api_Sighting_api_Sighting__moon_Moved_2_L1 c1_0) (x1, (W (x1 + 1)), s)) fun (i43, j44, v45) =>
    gd (0 ≤ i43 ∧ i43.toNat ≤ v45.length ∧ 0 < v45.length) (some (v45.take i43.toNat))
theorem d_slices_DeleteFunc_api_Sighting_api_Sighting__moon_Moved_2 (s : (List TSighting)) (c1_0 : Int) (r : (List TSighting)) (hm : m_slices_DeleteFunc_api_Sighting_api_Sighting__moon_Moved_2 s c1_0 = some r) : DoesL Tryz.prog 40 6 s.length (s.flatMap TSighting.c) 45 [.fn 41 [] [.ptr [DI c1_0] 0]] 6 r.length (r.flatMap TSighting.c) := by
  refine does_zdel (X := ⟨Tryz.prog, tt, Tryz.f40.ntmps, [], [], [], [], [], []⟩) (t := 31) (ty := 45) (args := [.fn 41 [] [.ptr [DI c1_0] 0]]) pok Tryz.func40 rfl rfl (Nat.le_of_ble_eq_true rfl) .mk rfl rfl rfl rfl rfl rfl ?_
  obtain ⟨x1, hx2, hm⟩ := bd_some hm
  refine CallOwn.det (d_slices_IndexFunc_api_Sighting_api_Sighting__moon_Moved_2 s c1_0 _ hx2) ?_
  revert hm
  refine VIf.b (fun h3 hm => ?_) (fun h3 hm => ?_)
  cases hm
  exact ⟨rfl, rfl⟩
  obtain ⟨ev46, he, hk47⟩ := bd_some hm
  refine LoopY.ofL (m_slices_DeleteFunc_api_Sighting_api_Sighting__moon_Moved_2_L1 c1_0) (fun (i16, j17, v18) => ⟨[(0, .row 0 6), (1, .fn 41 [] [.ptr [DI c1_0] 0]), (4, .v (.slice none 0 0)), (5, DI i16), (6, DI j17), (12, DB (x1 == (-1)))], [(0, rE 6 v18 TSighting.c 45)], 1⟩) (x1, (W (x1 + 1)), s) (SubY.of 1 rfl ⟨tR rfl, tR rfl, tR rfl, tR rfl, tR rfl, tR rfl, trivial⟩ ⟨hW rfl, trivial⟩) he ?_
  rintro fu48 ⟨i16, j17, v18⟩ b hm hi49
  revert hm
  refine VIf.b (fun h50 hm => ?_) (fun h50 hm => ?_)
  obtain ⟨e51, hx52, hm⟩ := bd_some hm
  refine ⟨idx_bd hx52, ?_⟩
  obtain ⟨e53, hx54, hm⟩ := bd_some hm
  refine ⟨_, el_row (fun _ => rfl) hx54, ?_⟩
  obtain ⟨x55, hx56, hm⟩ := bd_some hm
  refine CallY.det (d_moon_Moved_2 e53 c1_0 _ hx56) ?_
  revert hm
  refine VIf.b (fun h57 hm => ?_) (fun h57 hm => ?_)
  obtain ⟨e58, hx59, hm⟩ := bd_some hm
  refine ⟨idx_bd hx59, ?_⟩
  obtain ⟨e60, hx61, hm⟩ := bd_some hm
  refine ⟨_, el_row (fun _ => rfl) hx61, _, set_row (y := e53) (fun _ => rfl) hx61, ?_⟩
  cases hm
  exact ⟨(_, ((W (i16 + 1)), (W (j17 + 1)), (v18.set i16.toNat e53))), SubY.of 1 rfl ⟨tR rfl, tR rfl, tR rfl, tR rfl, tR rfl, tR rfl, trivial⟩ ⟨hW rfl, trivial⟩, hi49, Nat.lt_succ_self _⟩
  cases hm
  exact ⟨(_, (i16, (W (j17 + 1)), v18)), SubY.of 1 rfl ⟨tR rfl, tR rfl, tR rfl, tR rfl, tR rfl, tR rfl, trivial⟩ ⟨hW rfl, trivial⟩, hi49, Nat.lt_succ_self _⟩
  cases hm
  cases hi49
  have hm := hk47
  obtain ⟨hg, hm⟩ := gd_some hm
  cases hm
  exact del_k (fun _ => rfl) hg

def m_moon_Moved_L1 (x77 : Int) (x81 : Int) : ((List Int) × Int) → Option (Sum ((List Int) × Int) ((List Int) × Int)) := fun (out86, v87) =>
  if (decide (v87 < 1440)) = true then
    if (x77 != x81) = true then
      gd ((out86.length + ([v87] : List Int).length) * 8 ≤ 140737488355328 ∧ out86.length + ([v87] : List Int).length ≤ 9223372036854775807) <|
      some (.inl ((out86 ++ ([v87] : List Int)), (W (v87 + 1))))
    else
      if (x77 == 0) = true then
        none
      else
        some (.inl (out86, (W (v87 + 1))))
  else
    some (.inr (out86, v87))
def m_moon_Moved_L3 (x77 : Int) (p79 : Tknown) (x123 : Int) : ((List Int) × Int) → Option (Sum ((List Int) × Int) ((List Int) × Int)) := fun (out130, v131) =>
  if (decide (v131 < 1440)) = true then
    if (x77 != x123) = true then
      gd ((out130.length + ([v131] : List Int).length) * 8 ≤ 140737488355328 ∧ out130.length + ([v131] : List Int).length ≤ 9223372036854775807) <|
      some (.inl ((out130 ++ ([v131] : List Int)), (W (v131 + 1))))
    else
      if (x77 == 0) = true then
        Option.bind (m_moon_known_above p79 v131) fun x140 =>
        none
      else
        some (.inl (out130, (W (v131 + 1))))
  else
    some (.inr (out130, v131))
def m_moon_Moved_L4 (x77 : Int) (p79 : Tknown) (x123 : Int) (p125 : Tknown) : ((List Int) × Int × (List Int)) → Option (Sum ((List Int) × Int × (List Int)) ((List Int) × Int × (List Int))) := fun (out160, v161, out162) =>
  if (decide (v161 < 1440)) = true then
    if (x77 != x123) = true then
      gd ((out162.length + ([v161] : List Int).length) * 8 ≤ 140737488355328 ∧ out162.length + ([v161] : List Int).length ≤ 9223372036854775807) <|
      some (.inl (out160, (W (v161 + 1)), (out162 ++ ([v161] : List Int))))
    else
      if (x77 == 0) = true then
        Option.bind (m_moon_known_above p79 v161) fun x174 =>
        Option.bind (m_moon_known_above p125 v161) fun x176 =>
        if (x174 != x176) = true then
          gd ((out162.length + ([v161] : List Int).length) * 8 ≤ 140737488355328 ∧ out162.length + ([v161] : List Int).length ≤ 9223372036854775807) <|
          some (.inl (out160, (W (v161 + 1)), (out162 ++ ([v161] : List Int))))
        else
          some (.inl (out160, (W (v161 + 1)), out162))
      else
        some (.inl (out160, (W (v161 + 1)), out162))
  else
    some (.inr (out160, v161, out162))
def m_moon_Moved (s : TSky) (source : Int) (night : Int) (known : Int) : Option ((List Int) × Int) :=
  Option.bind (m_moon_Check s) fun x1 =>
  if (x1 != 0) = true then
    some ([], x1)
  else
    Option.bind (m_moon_isNight night) fun x4 =>
    if (!x4) = true then
      some ([], 6)
    else
      Option.bind (m_moon_isNight known) fun x7 =>
      if (!x7) = true then
        some ([], 6)
      else
        Option.bind (m_IN_moon_copied_1 s) fun ⟨v33, v34, x35⟩ =>
        Option.bind (m_slices_DeleteFunc_api_Sheet_api_Sheet__moon_Moved_1 v34 source) fun x70 =>
        Option.bind (m_slices_DeleteFunc_api_Sighting_api_Sighting__moon_Moved_2 v33 source) fun x72 =>
        if ((x70.length : Int) == (s.Sheets.length : Int)) = true then
          if ((x72.length : Int) == (s.Sightings.length : Int)) = true then
            some ([], 3)
          else
            Option.bind (m_moon_clearly s night known []) fun ⟨x76, x77⟩ =>
            optM x76 (
              Option.bind (m_moon_clearly (⟨x70, x35, x72⟩ : TSky) night known []) fun ⟨x80, x81⟩ =>
              optM x80 (
                Option.bind (loopF (m_moon_Moved_L1 x77 x81) ([], 0)) fun (out94, v95) =>
                some (out94, 0)) fun p83 =>
              Option.bind (loopF (m_moon_Moved_L1 x77 x81) ([], 0)) fun (out113, v114) =>
              some (out113, 0)) fun p79 =>
            Option.bind (m_moon_clearly (⟨x70, x35, x72⟩ : TSky) night known []) fun ⟨x122, x123⟩ =>
            optM x122 (
              Option.bind (loopF (m_moon_Moved_L3 x77 p79 x123) ([], 0)) fun (out142, v143) =>
              some (out142, 0)) fun p125 =>
            Option.bind (loopF (m_moon_Moved_L4 x77 p79 x123 p125) ([], 0, [])) fun (out179, v180, out181) =>
            some (out181, 0)
        else
          Option.bind (m_moon_clearly s night known []) fun ⟨x194, x195⟩ =>
          optM x194 (
            Option.bind (m_moon_clearly (⟨x70, x35, x72⟩ : TSky) night known []) fun ⟨x198, x199⟩ =>
            optM x198 (
              Option.bind (loopF (m_moon_Moved_L1 x195 x199) ([], 0)) fun (out212, v213) =>
              some (out212, 0)) fun p201 =>
            Option.bind (loopF (m_moon_Moved_L1 x195 x199) ([], 0)) fun (out231, v232) =>
            some (out231, 0)) fun p197 =>
          Option.bind (m_moon_clearly (⟨x70, x35, x72⟩ : TSky) night known []) fun ⟨x240, x241⟩ =>
          optM x240 (
            Option.bind (loopF (m_moon_Moved_L3 x195 p197 x241) ([], 0)) fun (out260, v261) =>
            some (out260, 0)) fun p243 =>
          Option.bind (loopF (m_moon_Moved_L4 x195 p197 x241 p243) ([], 0, [])) fun (out297, v298, out299) =>
          some (out299, 0)
theorem d_moon_Moved (s : TSky) (source : Int) (night : Int) (known : Int) (r : ((List Int) × Int)) (hm : m_moon_Moved s source night known = some r) : Does Tryz.prog 10 [.agg (TSky.c s), DI source, DI night, DI known] (fun x => x = .tup [lD 1 r.1 cI, DI r.2]) := by
  refine does_zy (X := ⟨Tryz.prog, tt, Tryz.f10.ntmps, [], [32, 38, 40], [65], [], [31], []⟩) pok _ Tryz.func10 rfl rfl (Nat.le_of_ble_eq_true rfl) ?_
  obtain ⟨x1, hx2, hm⟩ := bd_some hm
  refine CallY.det (d_moon_Check s _ hx2) ?_
  revert hm
  refine VIf.b (fun h3 hm => ?_) (fun h3 hm => ?_)
  cases hm
  exact RetY.le (⟨_, rfl, ⟨leD.nil, leD.refl _, trivial⟩⟩)
  obtain ⟨x4, hx5, hm⟩ := bd_some hm
  refine CallY.det (d_moon_isNight night _ hx5) ?_
  revert hm
  refine VIf.b (fun h6 hm => ?_) (fun h6 hm => ?_)
  cases hm
  exact RetY.le (⟨_, rfl, ⟨leD.nil, leD.refl _, trivial⟩⟩)
  obtain ⟨x7, hx8, hm⟩ := bd_some hm
  refine CallY.det (d_moon_isNight known _ hx8) ?_
  revert hm
  refine VIf.b (fun h9 hm => ?_) (fun h9 hm => ?_)
  cases hm
  exact RetY.le (⟨_, rfl, ⟨leD.nil, leD.refl _, trivial⟩⟩)
  obtain ⟨ev68, he69, hm⟩ := bd_some hm
  refine CallIn.ofZ pok ⟨[(0, .agg (TSky.c s)), (1000000, .agg (TSky.c s)), (1000001, DI source), (1000002, DI night), (1000003, DI known), (1000004, .own 0 0), (1000005, .own 1 0), (1000008, .v (.slice none 0 0)), (1000009, DI 0), (1000010, DI x1), (1000021, DB (x1 != 0)), (1000030, DB (!x7))], [(0, .blk (TSky.c s) 33), (1, .blk [DI source] 3)], 2⟩ (match ev68 with | (v33, v34, x35) => (⟨[(0, .agg (TSky.c s)), (1, DI source), (2, DI night), (3, DI known), (4, .own 0 0), (5, .own 1 0), (8, .v (.slice none 0 0)), (9, DI 0), (10, DI x1), (21, DB (x1 != 0)), (30, DB (!x7)), (32, .agg [.row 6 9, lD 3 x35 TRoof.c, .row 4 6])], [(0, .blk (TSky.c s) 33), (1, .blk [DI source] 3), (4, rE 6 v33 TSighting.c 45), (6, rE 9 v34 TSheet.c 40)], 7⟩ : Sy) : Sy) pl31 [32, 38, 40] [65] [31] Tryz.func31 rfl rfl rfl (SubY.of 2 rfl ⟨tR rfl, tR rfl, tR rfl, tR rfl, tR rfl, tR rfl, tR rfl, tR rfl, tR rfl, tR rfl, tR rfl, tR rfl, trivial⟩ ⟨hR rfl, hR rfl, trivial⟩) (fun sv => ?_) ?_
  have hm := he69
  refine ⟨rfl, ?_⟩
  obtain ⟨x312, hx313, hm⟩ := bd_some hm
  refine CallY.det (d_slices_Clone_api_Roof_api_Roof s.Roofs _ hx313) ?_
  obtain ⟨x314, hx315, hm⟩ := bd_some hm
  refine .inl (CallU.mk ⟨_, _, _, _, u_slices_Clone_api_Sighting_api_Sighting s.Sightings _ hx315, ?_⟩)
  obtain ⟨ev335, he, hk336⟩ := bd_some hm
  refine LoopY.ofL (m_IN_moon_copied_1_L1 s) (fun (v321, v322) => ⟨[(0, .agg (TSky.c s)), (1, .own 2 0), (2, .own 3 0), (3, .own 5 0), (14, lD 9 s.Sheets TSheet.c), (15, DI (s.Sheets.length : Int)), (16, DI v321), (1000000, .agg (TSky.c s)), (1000001, DI source), (1000002, DI night), (1000003, DI known), (1000004, .own 0 0), (1000005, .own 1 0), (1000008, .v (.slice none 0 0)), (1000009, DI 0), (1000010, DI x1), (1000021, DB (x1 != 0)), (1000030, DB (!x7))], [(0, .blk (TSky.c s) 33), (1, .blk [DI source] 3), (2, .blk (TSky.c s) 33), (3, .blk [.v (.slice none 0 0), .v (.slice none 0 0), .v (.slice none 0 0)] 33), (4, rE 6 x314 TSighting.c 45), (5, .blk [.row 6 9, lD 3 x312 TRoof.c, .row 4 6] 33), (6, rE 9 v322 TSheet.c 40)], 7⟩) (0, []) (SubY.of 6 rfl ⟨tR rfl, tR rfl, tR rfl, tR rfl, tR rfl, tR rfl, tR rfl, tR rfl, tR rfl, tR rfl, tR rfl, tR rfl, tR rfl, tR rfl, tR rfl, tR rfl, tR rfl, tR rfl, trivial⟩ ⟨hR rfl, hR rfl, hR rfl, hR rfl, hW rfl, hR rfl, ⟨rfl, rfl⟩, trivial⟩) he ?_
  rintro fu337 ⟨v321, v322⟩ b hm hi338
  revert hm
  refine VIf.b (fun h339 hm => ?_) (fun h339 hm => ?_)
  obtain ⟨e340, hx341, hm⟩ := bd_some hm
  refine ⟨_, el_idx (fun _ => rfl) hx341, ?_⟩
  obtain ⟨x342, hx343, hm⟩ := bd_some hm
  refine CallY.det (d_slices_Clone_api_Row_api_Row e340.Rows _ hx343) ?_
  refine ⟨([(⟨e340.Source, e340.Night, e340.Known, e340.Until, x342, e340.Off, e340.Light⟩ : TSheet)] : List TSheet).flatMap TSheet.c, ([(⟨e340.Source, e340.Night, e340.Known, e340.Until, x342, e340.Off, e340.Light⟩ : TSheet)] : List TSheet).length, ⟨rfl, rfl⟩, ?_⟩
  obtain ⟨hg, hm⟩ := gd_some hm
  refine ⟨hg, _, _, flat_app (c := TSheet.c) (l := (v322 : List TSheet)) (r := (([(⟨e340.Source, e340.Night, e340.Known, e340.Until, x342, e340.Off, e340.Light⟩ : TSheet)] : List TSheet) : List TSheet)), ?_⟩
  cases hm
  exact ⟨(_, ((W (v321 + 1)), (v322 ++ ([(⟨e340.Source, e340.Night, e340.Known, e340.Until, x342, e340.Off, e340.Light⟩ : TSheet)] : List TSheet)))), SubY.of 7 rfl ⟨tR rfl, tR rfl, tR rfl, tR rfl, tR rfl, tR rfl, tR rfl, tR rfl, tR rfl, tR rfl, tR rfl, tR rfl, tR rfl, tR rfl, tR rfl, tR rfl, tR rfl, tR rfl, trivial⟩ ⟨hR rfl, hR rfl, hR rfl, hR rfl, hW rfl, hR rfl, hW rfl, trivial⟩, hi338, Nat.lt_succ_self _⟩
  cases hm
  cases hi338
  have hm := hk336
  cases hm
  exact SubY.of 7 rfl ⟨tR rfl, tR rfl, tR rfl, tR rfl, tR rfl, tR rfl, tR rfl, tR rfl, tR rfl, tR rfl, tR rfl, tR rfl, trivial⟩ ⟨hR rfl, hR rfl, hW rfl, hW rfl, trivial⟩
  obtain ⟨v33, v34, x35⟩ := ev68
  obtain ⟨x70, hx71, hm⟩ := bd_some hm
  refine .inl (CallL.mk ⟨_, _, _, _, _, _, _, rfl, d_slices_DeleteFunc_api_Sheet_api_Sheet__moon_Moved_1 v34 source _ hx71, ?_⟩)
  obtain ⟨x72, hx73, hm⟩ := bd_some hm
  refine .inl (CallL.mk ⟨_, _, _, _, _, _, _, rfl, d_slices_DeleteFunc_api_Sighting_api_Sighting__moon_Moved_2 v33 source _ hx73, ?_⟩)
  revert hm
  refine VIf.b (fun h74 hm => ?_) (fun h74 hm => ?_)
  revert hm
  refine VIf.b (fun h75 hm => ?_) (fun h75 hm => ?_)
  cases hm
  exact RetY.le (⟨_, rfl, ⟨leD.nil, leD.refl _, trivial⟩⟩)
  obtain ⟨⟨x76, x77⟩, hx78, hm⟩ := bd_some hm
  refine CallY.det ((d_moon_clearly s night known [] _ hx78).le ⟨leD.refl _, leD.refl _, leD.refl _, leD.nil, trivial⟩) ?_
  rcases x76 with _ | p79
  replace hm := opt_none hm
  obtain ⟨⟨x80, x81⟩, hx82, hm⟩ := bd_some hm
  refine CallOwn.det ((d_moon_clearly ((⟨x70, x35, x72⟩ : TSky)) night known [] _ hx82).le ⟨leD.refl _, leD.refl _, leD.refl _, leD.nil, trivial⟩) ?_
  rcases x80 with _ | p83
  replace hm := opt_none hm
  obtain ⟨ev96, he, hk97⟩ := bd_some hm
  refine LoopY.ofL (m_moon_Moved_L1 x77 x81) (fun (out86, v87) => ⟨[(0, .agg (TSky.c s)), (1, DI source), (2, DI night), (3, DI known), (4, .own 0 0), (5, .ptr [DI source] 0), (8, .v (.slice none 0 0)), (9, DI 0), (10, DI x1), (11, .own 7 0), (12, .v (.pointer none)), (13, DI x77), (14, .v (.pointer none)), (15, DI x81), (16, .row 8 1), (21, DB (x1 != 0)), (30, DB (!x7)), (58, DB ((x72.length : Int) == (s.Sightings.length : Int))), (73, DI v87)], [(0, .blk (TSky.c s) 33), (4, rE 6 x72 TSighting.c 45), (6, rE 9 x70 TSheet.c 40), (7, .blk [.row 6 9, lD 3 x35 TRoof.c, .row 4 6] 33), (8, rE 1 out86 cI 3)], 9⟩) ([], 0) (SubY.of 8 rfl ⟨tR rfl, tR rfl, tR rfl, tR rfl, tR rfl, tR rfl, tR rfl, tR rfl, tR rfl, tR rfl, tR rfl, tR rfl, tR rfl, tR rfl, tR rfl, tR rfl, tR rfl, tR rfl, tR rfl, trivial⟩ ⟨hR rfl, hW rfl, hW rfl, hR rfl, ⟨rfl, rfl⟩, trivial⟩) he ?_
  rintro fu98 ⟨out86, v87⟩ b hm hi99
  revert hm
  refine VIf.b (fun h100 hm => ?_) (fun h100 hm => ?_)
  revert hm
  refine VIf.b (fun h101 hm => ?_) (fun h101 hm => ?_)
  refine ⟨([v87] : List Int).flatMap cI, ([v87] : List Int).length, ⟨rfl, rfl⟩, ?_⟩
  obtain ⟨hg, hm⟩ := gd_some hm
  refine ⟨hg, _, _, flat_app (c := cI) (l := (out86 : List Int)) (r := (([v87] : List Int) : List Int)), ?_⟩
  cases hm
  exact ⟨(_, ((out86 ++ ([v87] : List Int)), (W (v87 + 1)))), SubY.of 9 rfl ⟨tR rfl, tR rfl, tR rfl, tR rfl, tR rfl, tR rfl, tR rfl, tR rfl, tR rfl, tR rfl, tR rfl, tR rfl, tR rfl, tR rfl, tR rfl, tR rfl, tR rfl, tR rfl, tR rfl, trivial⟩ ⟨hR rfl, hW rfl, hW rfl, hR rfl, hW rfl, trivial⟩, hi99, Nat.lt_succ_self _⟩
  revert hm
  refine VIf.b (fun h102 hm => ?_) (fun h102 hm => ?_)
  cases hm
  cases hm
  exact ⟨(_, (out86, (W (v87 + 1)))), SubY.of 9 rfl ⟨tR rfl, tR rfl, tR rfl, tR rfl, tR rfl, tR rfl, tR rfl, tR rfl, tR rfl, tR rfl, tR rfl, tR rfl, tR rfl, tR rfl, tR rfl, tR rfl, tR rfl, tR rfl, tR rfl, trivial⟩ ⟨hR rfl, hW rfl, hW rfl, hR rfl, hW rfl, trivial⟩, hi99, Nat.lt_succ_self _⟩
  cases hm
  cases hi99
  have hm := hk97
  cases hm
  exact RetY.le (leD.refl _)
  replace hm := opt_some hm
  obtain ⟨ev115, he, hk116⟩ := bd_some hm
  refine LoopY.ofL (m_moon_Moved_L1 x77 x81) (fun (out105, v106) => ⟨[(0, .agg (TSky.c s)), (1, DI source), (2, DI night), (3, DI known), (4, .own 0 0), (5, .ptr [DI source] 0), (8, .v (.slice none 0 0)), (9, DI 0), (10, DI x1), (11, .own 7 0), (12, .v (.pointer none)), (13, DI x77), (14, .ptr (Tknown.c p83) 0), (15, DI x81), (16, .row 8 1), (21, DB (x1 != 0)), (30, DB (!x7)), (58, DB ((x72.length : Int) == (s.Sightings.length : Int))), (73, DI v106)], [(0, .blk (TSky.c s) 33), (7, .blk [lD 9 x70 TSheet.c, lD 3 x35 TRoof.c, lD 6 x72 TSighting.c] 33), (8, rE 1 out105 cI 3)], 9⟩) ([], 0) (SubY.of 8 rfl ⟨tR rfl, tR rfl, tR rfl, tR rfl, tR rfl, tR rfl, tR rfl, tR rfl, tR rfl, tR rfl, tR rfl, tR rfl, tR rfl, tR rfl, tR rfl, tR rfl, tR rfl, tR rfl, tR rfl, trivial⟩ ⟨hR rfl, hR rfl, ⟨rfl, rfl⟩, trivial⟩) he ?_
  rintro fu117 ⟨out105, v106⟩ b hm hi118
  revert hm
  refine VIf.b (fun h119 hm => ?_) (fun h119 hm => ?_)
  revert hm
  refine VIf.b (fun h120 hm => ?_) (fun h120 hm => ?_)
  refine ⟨([v106] : List Int).flatMap cI, ([v106] : List Int).length, ⟨rfl, rfl⟩, ?_⟩
  obtain ⟨hg, hm⟩ := gd_some hm
  refine ⟨hg, _, _, flat_app (c := cI) (l := (out105 : List Int)) (r := (([v106] : List Int) : List Int)), ?_⟩
  cases hm
  exact ⟨(_, ((out105 ++ ([v106] : List Int)), (W (v106 + 1)))), SubY.of 9 rfl ⟨tR rfl, tR rfl, tR rfl, tR rfl, tR rfl, tR rfl, tR rfl, tR rfl, tR rfl, tR rfl, tR rfl, tR rfl, tR rfl, tR rfl, tR rfl, tR rfl, tR rfl, tR rfl, tR rfl, trivial⟩ ⟨hR rfl, hR rfl, hW rfl, trivial⟩, hi118, Nat.lt_succ_self _⟩
  revert hm
  refine VIf.b (fun h121 hm => ?_) (fun h121 hm => ?_)
  cases hm
  cases hm
  exact ⟨(_, (out105, (W (v106 + 1)))), SubY.of 9 rfl ⟨tR rfl, tR rfl, tR rfl, tR rfl, tR rfl, tR rfl, tR rfl, tR rfl, tR rfl, tR rfl, tR rfl, tR rfl, tR rfl, tR rfl, tR rfl, tR rfl, tR rfl, tR rfl, tR rfl, trivial⟩ ⟨hR rfl, hR rfl, hW rfl, trivial⟩, hi118, Nat.lt_succ_self _⟩
  cases hm
  cases hi118
  have hm := hk116
  cases hm
  exact RetY.le (leD.refl _)
  replace hm := opt_some hm
  obtain ⟨⟨x122, x123⟩, hx124, hm⟩ := bd_some hm
  refine CallOwn.det ((d_moon_clearly ((⟨x70, x35, x72⟩ : TSky)) night known [] _ hx124).le ⟨leD.refl _, leD.refl _, leD.refl _, leD.nil, trivial⟩) ?_
  rcases x122 with _ | p125
  replace hm := opt_none hm
  obtain ⟨ev144, he, hk145⟩ := bd_some hm
  refine LoopY.ofL (m_moon_Moved_L3 x77 p79 x123) (fun (out130, v131) => ⟨[(0, .agg (TSky.c s)), (1, DI source), (2, DI night), (3, DI known), (4, .own 0 0), (5, .ptr [DI source] 0), (8, .v (.slice none 0 0)), (9, DI 0), (10, DI x1), (11, .own 7 0), (12, .ptr (Tknown.c p79) 0), (13, DI x77), (14, .v (.pointer none)), (15, DI x123), (16, .row 8 1), (21, DB (x1 != 0)), (30, DB (!x7)), (58, DB ((x72.length : Int) == (s.Sightings.length : Int))), (73, DI v131)], [(0, .blk (TSky.c s) 33), (4, rE 6 x72 TSighting.c 45), (6, rE 9 x70 TSheet.c 40), (7, .blk [.row 6 9, lD 3 x35 TRoof.c, .row 4 6] 33), (8, rE 1 out130 cI 3)], 9⟩) ([], 0) (SubY.of 8 rfl ⟨tR rfl, tR rfl, tR rfl, tR rfl, tR rfl, tR rfl, tR rfl, tR rfl, tR rfl, tR rfl, tR rfl, tR rfl, tR rfl, tR rfl, tR rfl, tR rfl, tR rfl, tR rfl, tR rfl, trivial⟩ ⟨hR rfl, hW rfl, hW rfl, hR rfl, ⟨rfl, rfl⟩, trivial⟩) he ?_
  rintro fu146 ⟨out130, v131⟩ b hm hi147
  revert hm
  refine VIf.b (fun h148 hm => ?_) (fun h148 hm => ?_)
  revert hm
  refine VIf.b (fun h149 hm => ?_) (fun h149 hm => ?_)
  refine ⟨([v131] : List Int).flatMap cI, ([v131] : List Int).length, ⟨rfl, rfl⟩, ?_⟩
  obtain ⟨hg, hm⟩ := gd_some hm
  refine ⟨hg, _, _, flat_app (c := cI) (l := (out130 : List Int)) (r := (([v131] : List Int) : List Int)), ?_⟩
  cases hm
  exact ⟨(_, ((out130 ++ ([v131] : List Int)), (W (v131 + 1)))), SubY.of 9 rfl ⟨tR rfl, tR rfl, tR rfl, tR rfl, tR rfl, tR rfl, tR rfl, tR rfl, tR rfl, tR rfl, tR rfl, tR rfl, tR rfl, tR rfl, tR rfl, tR rfl, tR rfl, tR rfl, tR rfl, trivial⟩ ⟨hR rfl, hW rfl, hW rfl, hR rfl, hW rfl, trivial⟩, hi147, Nat.lt_succ_self _⟩
  revert hm
  refine VIf.b (fun h150 hm => ?_) (fun h150 hm => ?_)
  obtain ⟨x151, hx152, hm⟩ := bd_some hm
  refine CallY.det (d_moon_known_above p79 v131 _ hx152) ?_
  cases hm
  cases hm
  exact ⟨(_, (out130, (W (v131 + 1)))), SubY.of 9 rfl ⟨tR rfl, tR rfl, tR rfl, tR rfl, tR rfl, tR rfl, tR rfl, tR rfl, tR rfl, tR rfl, tR rfl, tR rfl, tR rfl, tR rfl, tR rfl, tR rfl, tR rfl, tR rfl, tR rfl, trivial⟩ ⟨hR rfl, hW rfl, hW rfl, hR rfl, hW rfl, trivial⟩, hi147, Nat.lt_succ_self _⟩
  cases hm
  cases hi147
  have hm := hk145
  cases hm
  exact RetY.le (leD.refl _)
  replace hm := opt_some hm
  obtain ⟨ev182, he, hk183⟩ := bd_some hm
  refine LoopY.ofL (m_moon_Moved_L4 x77 p79 x123 p125) (fun (out160, v161, out162) => ⟨[(0, .agg (TSky.c s)), (1, DI source), (2, DI night), (3, DI known), (4, .own 0 0), (5, .ptr [DI source] 0), (8, .v (.slice none 0 0)), (9, DI 0), (10, DI x1), (11, .own 7 0), (12, .ptr (Tknown.c p79) 0), (13, DI x77), (14, .ptr (Tknown.c p125) 0), (15, DI x123), (16, .row 9 1), (21, DB (x1 != 0)), (30, DB (!x7)), (58, DB ((x72.length : Int) == (s.Sightings.length : Int))), (73, DI v161)], [(0, .blk (TSky.c s) 33), (7, .blk [lD 9 x70 TSheet.c, lD 3 x35 TRoof.c, lD 6 x72 TSighting.c] 33), (8, rE 1 out160 cI 3), (9, rE 1 out162 cI 3)], 10⟩) ([], 0, []) (SubY.of 8 rfl ⟨tR rfl, tR rfl, tR rfl, tR rfl, tR rfl, tR rfl, tR rfl, tR rfl, tR rfl, tR rfl, tR rfl, tR rfl, tR rfl, tR rfl, tR rfl, tR rfl, tR rfl, tR rfl, tR rfl, trivial⟩ ⟨hR rfl, hR rfl, ⟨rfl, rfl⟩, ⟨rfl, rfl⟩, trivial⟩) he ?_
  rintro fu184 ⟨out160, v161, out162⟩ b hm hi185
  revert hm
  refine VIf.b (fun h186 hm => ?_) (fun h186 hm => ?_)
  revert hm
  refine VIf.b (fun h187 hm => ?_) (fun h187 hm => ?_)
  refine ⟨([v161] : List Int).flatMap cI, ([v161] : List Int).length, ⟨rfl, rfl⟩, ?_⟩
  obtain ⟨hg, hm⟩ := gd_some hm
  refine ⟨hg, _, _, flat_app (c := cI) (l := (out162 : List Int)) (r := (([v161] : List Int) : List Int)), ?_⟩
  cases hm
  exact ⟨(_, (out160, (W (v161 + 1)), (out162 ++ ([v161] : List Int)))), SubY.of 10 rfl ⟨tR rfl, tR rfl, tR rfl, tR rfl, tR rfl, tR rfl, tR rfl, tR rfl, tR rfl, tR rfl, tR rfl, tR rfl, tR rfl, tR rfl, tR rfl, tR rfl, tR rfl, tR rfl, tR rfl, trivial⟩ ⟨hR rfl, hR rfl, hW rfl, hW rfl, trivial⟩, hi185, Nat.lt_succ_self _⟩
  revert hm
  refine VIf.b (fun h188 hm => ?_) (fun h188 hm => ?_)
  obtain ⟨x189, hx190, hm⟩ := bd_some hm
  refine CallY.det (d_moon_known_above p79 v161 _ hx190) ?_
  obtain ⟨x191, hx192, hm⟩ := bd_some hm
  refine CallY.det (d_moon_known_above p125 v161 _ hx192) ?_
  revert hm
  refine VIf.b (fun h193 hm => ?_) (fun h193 hm => ?_)
  refine ⟨([v161] : List Int).flatMap cI, ([v161] : List Int).length, ⟨rfl, rfl⟩, ?_⟩
  obtain ⟨hg, hm⟩ := gd_some hm
  refine ⟨hg, _, _, flat_app (c := cI) (l := (out162 : List Int)) (r := (([v161] : List Int) : List Int)), ?_⟩
  cases hm
  exact ⟨(_, (out160, (W (v161 + 1)), (out162 ++ ([v161] : List Int)))), SubY.of 10 rfl ⟨tR rfl, tR rfl, tR rfl, tR rfl, tR rfl, tR rfl, tR rfl, tR rfl, tR rfl, tR rfl, tR rfl, tR rfl, tR rfl, tR rfl, tR rfl, tR rfl, tR rfl, tR rfl, tR rfl, trivial⟩ ⟨hR rfl, hR rfl, hW rfl, hW rfl, trivial⟩, hi185, Nat.lt_succ_self _⟩
  cases hm
  exact ⟨(_, (out160, (W (v161 + 1)), out162)), SubY.of 10 rfl ⟨tR rfl, tR rfl, tR rfl, tR rfl, tR rfl, tR rfl, tR rfl, tR rfl, tR rfl, tR rfl, tR rfl, tR rfl, tR rfl, tR rfl, tR rfl, tR rfl, tR rfl, tR rfl, tR rfl, trivial⟩ ⟨hR rfl, hR rfl, hW rfl, hW rfl, trivial⟩, hi185, Nat.lt_succ_self _⟩
  cases hm
  exact ⟨(_, (out160, (W (v161 + 1)), out162)), SubY.of 10 rfl ⟨tR rfl, tR rfl, tR rfl, tR rfl, tR rfl, tR rfl, tR rfl, tR rfl, tR rfl, tR rfl, tR rfl, tR rfl, tR rfl, tR rfl, tR rfl, tR rfl, tR rfl, tR rfl, tR rfl, trivial⟩ ⟨hR rfl, hR rfl, hW rfl, hW rfl, trivial⟩, hi185, Nat.lt_succ_self _⟩
  cases hm
  cases hi185
  have hm := hk183
  cases hm
  exact RetY.le (leD.refl _)
  obtain ⟨⟨x194, x195⟩, hx196, hm⟩ := bd_some hm
  refine CallY.det ((d_moon_clearly s night known [] _ hx196).le ⟨leD.refl _, leD.refl _, leD.refl _, leD.nil, trivial⟩) ?_
  rcases x194 with _ | p197
  replace hm := opt_none hm
  obtain ⟨⟨x198, x199⟩, hx200, hm⟩ := bd_some hm
  refine CallOwn.det ((d_moon_clearly ((⟨x70, x35, x72⟩ : TSky)) night known [] _ hx200).le ⟨leD.refl _, leD.refl _, leD.refl _, leD.nil, trivial⟩) ?_
  rcases x198 with _ | p201
  replace hm := opt_none hm
  obtain ⟨ev214, he, hk215⟩ := bd_some hm
  refine LoopY.ofL (m_moon_Moved_L1 x195 x199) (fun (out204, v205) => ⟨[(0, .agg (TSky.c s)), (1, DI source), (2, DI night), (3, DI known), (4, .own 0 0), (5, .ptr [DI source] 0), (8, .v (.slice none 0 0)), (9, DI 0), (10, DI x1), (11, .own 7 0), (12, .v (.pointer none)), (13, DI x195), (14, .v (.pointer none)), (15, DI x199), (16, .row 8 1), (21, DB (x1 != 0)), (30, DB (!x7)), (58, DB false), (73, DI v205)], [(0, .blk (TSky.c s) 33), (4, rE 6 x72 TSighting.c 45), (6, rE 9 x70 TSheet.c 40), (7, .blk [.row 6 9, lD 3 x35 TRoof.c, .row 4 6] 33), (8, rE 1 out204 cI 3)], 9⟩) ([], 0) (SubY.of 8 rfl ⟨tR rfl, tR rfl, tR rfl, tR rfl, tR rfl, tR rfl, tR rfl, tR rfl, tR rfl, tR rfl, tR rfl, tR rfl, tR rfl, tR rfl, tR rfl, tR rfl, tR rfl, tR rfl, tR rfl, trivial⟩ ⟨hR rfl, hW rfl, hW rfl, hR rfl, ⟨rfl, rfl⟩, trivial⟩) he ?_
  rintro fu216 ⟨out204, v205⟩ b hm hi217
  revert hm
  refine VIf.b (fun h218 hm => ?_) (fun h218 hm => ?_)
  revert hm
  refine VIf.b (fun h219 hm => ?_) (fun h219 hm => ?_)
  refine ⟨([v205] : List Int).flatMap cI, ([v205] : List Int).length, ⟨rfl, rfl⟩, ?_⟩
  obtain ⟨hg, hm⟩ := gd_some hm
  refine ⟨hg, _, _, flat_app (c := cI) (l := (out204 : List Int)) (r := (([v205] : List Int) : List Int)), ?_⟩
  cases hm
  exact ⟨(_, ((out204 ++ ([v205] : List Int)), (W (v205 + 1)))), SubY.of 9 rfl ⟨tR rfl, tR rfl, tR rfl, tR rfl, tR rfl, tR rfl, tR rfl, tR rfl, tR rfl, tR rfl, tR rfl, tR rfl, tR rfl, tR rfl, tR rfl, tR rfl, tR rfl, tR rfl, tR rfl, trivial⟩ ⟨hR rfl, hW rfl, hW rfl, hR rfl, hW rfl, trivial⟩, hi217, Nat.lt_succ_self _⟩
  revert hm
  refine VIf.b (fun h220 hm => ?_) (fun h220 hm => ?_)
  cases hm
  cases hm
  exact ⟨(_, (out204, (W (v205 + 1)))), SubY.of 9 rfl ⟨tR rfl, tR rfl, tR rfl, tR rfl, tR rfl, tR rfl, tR rfl, tR rfl, tR rfl, tR rfl, tR rfl, tR rfl, tR rfl, tR rfl, tR rfl, tR rfl, tR rfl, tR rfl, tR rfl, trivial⟩ ⟨hR rfl, hW rfl, hW rfl, hR rfl, hW rfl, trivial⟩, hi217, Nat.lt_succ_self _⟩
  cases hm
  cases hi217
  have hm := hk215
  cases hm
  exact RetY.le (leD.refl _)
  replace hm := opt_some hm
  obtain ⟨ev233, he, hk234⟩ := bd_some hm
  refine LoopY.ofL (m_moon_Moved_L1 x195 x199) (fun (out223, v224) => ⟨[(0, .agg (TSky.c s)), (1, DI source), (2, DI night), (3, DI known), (4, .own 0 0), (5, .ptr [DI source] 0), (8, .v (.slice none 0 0)), (9, DI 0), (10, DI x1), (11, .own 7 0), (12, .v (.pointer none)), (13, DI x195), (14, .ptr (Tknown.c p201) 0), (15, DI x199), (16, .row 8 1), (21, DB (x1 != 0)), (30, DB (!x7)), (58, DB false), (73, DI v224)], [(0, .blk (TSky.c s) 33), (7, .blk [lD 9 x70 TSheet.c, lD 3 x35 TRoof.c, lD 6 x72 TSighting.c] 33), (8, rE 1 out223 cI 3)], 9⟩) ([], 0) (SubY.of 8 rfl ⟨tR rfl, tR rfl, tR rfl, tR rfl, tR rfl, tR rfl, tR rfl, tR rfl, tR rfl, tR rfl, tR rfl, tR rfl, tR rfl, tR rfl, tR rfl, tR rfl, tR rfl, tR rfl, tR rfl, trivial⟩ ⟨hR rfl, hR rfl, ⟨rfl, rfl⟩, trivial⟩) he ?_
  rintro fu235 ⟨out223, v224⟩ b hm hi236
  revert hm
  refine VIf.b (fun h237 hm => ?_) (fun h237 hm => ?_)
  revert hm
  refine VIf.b (fun h238 hm => ?_) (fun h238 hm => ?_)
  refine ⟨([v224] : List Int).flatMap cI, ([v224] : List Int).length, ⟨rfl, rfl⟩, ?_⟩
  obtain ⟨hg, hm⟩ := gd_some hm
  refine ⟨hg, _, _, flat_app (c := cI) (l := (out223 : List Int)) (r := (([v224] : List Int) : List Int)), ?_⟩
  cases hm
  exact ⟨(_, ((out223 ++ ([v224] : List Int)), (W (v224 + 1)))), SubY.of 9 rfl ⟨tR rfl, tR rfl, tR rfl, tR rfl, tR rfl, tR rfl, tR rfl, tR rfl, tR rfl, tR rfl, tR rfl, tR rfl, tR rfl, tR rfl, tR rfl, tR rfl, tR rfl, tR rfl, tR rfl, trivial⟩ ⟨hR rfl, hR rfl, hW rfl, trivial⟩, hi236, Nat.lt_succ_self _⟩
  revert hm
  refine VIf.b (fun h239 hm => ?_) (fun h239 hm => ?_)
  cases hm
  cases hm
  exact ⟨(_, (out223, (W (v224 + 1)))), SubY.of 9 rfl ⟨tR rfl, tR rfl, tR rfl, tR rfl, tR rfl, tR rfl, tR rfl, tR rfl, tR rfl, tR rfl, tR rfl, tR rfl, tR rfl, tR rfl, tR rfl, tR rfl, tR rfl, tR rfl, tR rfl, trivial⟩ ⟨hR rfl, hR rfl, hW rfl, trivial⟩, hi236, Nat.lt_succ_self _⟩
  cases hm
  cases hi236
  have hm := hk234
  cases hm
  exact RetY.le (leD.refl _)
  replace hm := opt_some hm
  obtain ⟨⟨x240, x241⟩, hx242, hm⟩ := bd_some hm
  refine CallOwn.det ((d_moon_clearly ((⟨x70, x35, x72⟩ : TSky)) night known [] _ hx242).le ⟨leD.refl _, leD.refl _, leD.refl _, leD.nil, trivial⟩) ?_
  rcases x240 with _ | p243
  replace hm := opt_none hm
  obtain ⟨ev262, he, hk263⟩ := bd_some hm
  refine LoopY.ofL (m_moon_Moved_L3 x195 p197 x241) (fun (out248, v249) => ⟨[(0, .agg (TSky.c s)), (1, DI source), (2, DI night), (3, DI known), (4, .own 0 0), (5, .ptr [DI source] 0), (8, .v (.slice none 0 0)), (9, DI 0), (10, DI x1), (11, .own 7 0), (12, .ptr (Tknown.c p197) 0), (13, DI x195), (14, .v (.pointer none)), (15, DI x241), (16, .row 8 1), (21, DB (x1 != 0)), (30, DB (!x7)), (58, DB false), (73, DI v249)], [(0, .blk (TSky.c s) 33), (4, rE 6 x72 TSighting.c 45), (6, rE 9 x70 TSheet.c 40), (7, .blk [.row 6 9, lD 3 x35 TRoof.c, .row 4 6] 33), (8, rE 1 out248 cI 3)], 9⟩) ([], 0) (SubY.of 8 rfl ⟨tR rfl, tR rfl, tR rfl, tR rfl, tR rfl, tR rfl, tR rfl, tR rfl, tR rfl, tR rfl, tR rfl, tR rfl, tR rfl, tR rfl, tR rfl, tR rfl, tR rfl, tR rfl, tR rfl, trivial⟩ ⟨hR rfl, hW rfl, hW rfl, hR rfl, ⟨rfl, rfl⟩, trivial⟩) he ?_
  rintro fu264 ⟨out248, v249⟩ b hm hi265
  revert hm
  refine VIf.b (fun h266 hm => ?_) (fun h266 hm => ?_)
  revert hm
  refine VIf.b (fun h267 hm => ?_) (fun h267 hm => ?_)
  refine ⟨([v249] : List Int).flatMap cI, ([v249] : List Int).length, ⟨rfl, rfl⟩, ?_⟩
  obtain ⟨hg, hm⟩ := gd_some hm
  refine ⟨hg, _, _, flat_app (c := cI) (l := (out248 : List Int)) (r := (([v249] : List Int) : List Int)), ?_⟩
  cases hm
  exact ⟨(_, ((out248 ++ ([v249] : List Int)), (W (v249 + 1)))), SubY.of 9 rfl ⟨tR rfl, tR rfl, tR rfl, tR rfl, tR rfl, tR rfl, tR rfl, tR rfl, tR rfl, tR rfl, tR rfl, tR rfl, tR rfl, tR rfl, tR rfl, tR rfl, tR rfl, tR rfl, tR rfl, trivial⟩ ⟨hR rfl, hW rfl, hW rfl, hR rfl, hW rfl, trivial⟩, hi265, Nat.lt_succ_self _⟩
  revert hm
  refine VIf.b (fun h268 hm => ?_) (fun h268 hm => ?_)
  obtain ⟨x269, hx270, hm⟩ := bd_some hm
  refine CallY.det (d_moon_known_above p197 v249 _ hx270) ?_
  cases hm
  cases hm
  exact ⟨(_, (out248, (W (v249 + 1)))), SubY.of 9 rfl ⟨tR rfl, tR rfl, tR rfl, tR rfl, tR rfl, tR rfl, tR rfl, tR rfl, tR rfl, tR rfl, tR rfl, tR rfl, tR rfl, tR rfl, tR rfl, tR rfl, tR rfl, tR rfl, tR rfl, trivial⟩ ⟨hR rfl, hW rfl, hW rfl, hR rfl, hW rfl, trivial⟩, hi265, Nat.lt_succ_self _⟩
  cases hm
  cases hi265
  have hm := hk263
  cases hm
  exact RetY.le (leD.refl _)
  replace hm := opt_some hm
  obtain ⟨ev300, he, hk301⟩ := bd_some hm
  refine LoopY.ofL (m_moon_Moved_L4 x195 p197 x241 p243) (fun (out278, v279, out280) => ⟨[(0, .agg (TSky.c s)), (1, DI source), (2, DI night), (3, DI known), (4, .own 0 0), (5, .ptr [DI source] 0), (8, .v (.slice none 0 0)), (9, DI 0), (10, DI x1), (11, .own 7 0), (12, .ptr (Tknown.c p197) 0), (13, DI x195), (14, .ptr (Tknown.c p243) 0), (15, DI x241), (16, .row 9 1), (21, DB (x1 != 0)), (30, DB (!x7)), (58, DB false), (73, DI v279)], [(0, .blk (TSky.c s) 33), (7, .blk [lD 9 x70 TSheet.c, lD 3 x35 TRoof.c, lD 6 x72 TSighting.c] 33), (8, rE 1 out278 cI 3), (9, rE 1 out280 cI 3)], 10⟩) ([], 0, []) (SubY.of 8 rfl ⟨tR rfl, tR rfl, tR rfl, tR rfl, tR rfl, tR rfl, tR rfl, tR rfl, tR rfl, tR rfl, tR rfl, tR rfl, tR rfl, tR rfl, tR rfl, tR rfl, tR rfl, tR rfl, tR rfl, trivial⟩ ⟨hR rfl, hR rfl, ⟨rfl, rfl⟩, ⟨rfl, rfl⟩, trivial⟩) he ?_
  rintro fu302 ⟨out278, v279, out280⟩ b hm hi303
  revert hm
  refine VIf.b (fun h304 hm => ?_) (fun h304 hm => ?_)
  revert hm
  refine VIf.b (fun h305 hm => ?_) (fun h305 hm => ?_)
  refine ⟨([v279] : List Int).flatMap cI, ([v279] : List Int).length, ⟨rfl, rfl⟩, ?_⟩
  obtain ⟨hg, hm⟩ := gd_some hm
  refine ⟨hg, _, _, flat_app (c := cI) (l := (out280 : List Int)) (r := (([v279] : List Int) : List Int)), ?_⟩
  cases hm
  exact ⟨(_, (out278, (W (v279 + 1)), (out280 ++ ([v279] : List Int)))), SubY.of 10 rfl ⟨tR rfl, tR rfl, tR rfl, tR rfl, tR rfl, tR rfl, tR rfl, tR rfl, tR rfl, tR rfl, tR rfl, tR rfl, tR rfl, tR rfl, tR rfl, tR rfl, tR rfl, tR rfl, tR rfl, trivial⟩ ⟨hR rfl, hR rfl, hW rfl, hW rfl, trivial⟩, hi303, Nat.lt_succ_self _⟩
  revert hm
  refine VIf.b (fun h306 hm => ?_) (fun h306 hm => ?_)
  obtain ⟨x307, hx308, hm⟩ := bd_some hm
  refine CallY.det (d_moon_known_above p197 v279 _ hx308) ?_
  obtain ⟨x309, hx310, hm⟩ := bd_some hm
  refine CallY.det (d_moon_known_above p243 v279 _ hx310) ?_
  revert hm
  refine VIf.b (fun h311 hm => ?_) (fun h311 hm => ?_)
  refine ⟨([v279] : List Int).flatMap cI, ([v279] : List Int).length, ⟨rfl, rfl⟩, ?_⟩
  obtain ⟨hg, hm⟩ := gd_some hm
  refine ⟨hg, _, _, flat_app (c := cI) (l := (out280 : List Int)) (r := (([v279] : List Int) : List Int)), ?_⟩
  cases hm
  exact ⟨(_, (out278, (W (v279 + 1)), (out280 ++ ([v279] : List Int)))), SubY.of 10 rfl ⟨tR rfl, tR rfl, tR rfl, tR rfl, tR rfl, tR rfl, tR rfl, tR rfl, tR rfl, tR rfl, tR rfl, tR rfl, tR rfl, tR rfl, tR rfl, tR rfl, tR rfl, tR rfl, tR rfl, trivial⟩ ⟨hR rfl, hR rfl, hW rfl, hW rfl, trivial⟩, hi303, Nat.lt_succ_self _⟩
  cases hm
  exact ⟨(_, (out278, (W (v279 + 1)), out280)), SubY.of 10 rfl ⟨tR rfl, tR rfl, tR rfl, tR rfl, tR rfl, tR rfl, tR rfl, tR rfl, tR rfl, tR rfl, tR rfl, tR rfl, tR rfl, tR rfl, tR rfl, tR rfl, tR rfl, tR rfl, tR rfl, trivial⟩ ⟨hR rfl, hR rfl, hW rfl, hW rfl, trivial⟩, hi303, Nat.lt_succ_self _⟩
  cases hm
  exact ⟨(_, (out278, (W (v279 + 1)), out280)), SubY.of 10 rfl ⟨tR rfl, tR rfl, tR rfl, tR rfl, tR rfl, tR rfl, tR rfl, tR rfl, tR rfl, tR rfl, tR rfl, tR rfl, tR rfl, tR rfl, tR rfl, tR rfl, tR rfl, tR rfl, tR rfl, trivial⟩ ⟨hR rfl, hR rfl, hW rfl, hW rfl, trivial⟩, hi303, Nat.lt_succ_self _⟩
  cases hm
  cases hi303
  have hm := hk301
  cases hm
  exact RetY.le (leD.refl _)

def m_moon_Compare (x : TFrac) (y : TFrac) : Option (Int × Int) :=
  Option.bind (m_moon_isFrac x 20000000) fun x1 =>
  if (!x1) = true then
    some (0, 20)
  else
    Option.bind (m_moon_isFrac y 20000000) fun x4 =>
    if (!x4) = true then
      some (0, 20)
    else
      Option.bind (m_moon_compare x y) fun x7 =>
      some (x7, 0)
theorem d_moon_Compare (x : TFrac) (y : TFrac) (r : (Int × Int)) (hm : m_moon_Compare x y = some r) : Does Tryz.prog 43 [.agg (TFrac.c x), .agg (TFrac.c y)] (fun x => x = .tup [DI r.1, DI r.2]) := by
  refine does_zy (X := ⟨Tryz.prog, tt, Tryz.f43.ntmps, [], [], [], [], [], []⟩) pok _ Tryz.func43 rfl rfl (Nat.le_of_ble_eq_true rfl) ?_
  obtain ⟨x1, hx2, hm⟩ := bd_some hm
  refine CallY.det (d_moon_isFrac x 20000000 _ hx2) ?_
  revert hm
  refine VIf.b (fun h3 hm => ?_) (fun h3 hm => ?_)
  cases hm
  exact RetY.le (leD.refl _)
  obtain ⟨x4, hx5, hm⟩ := bd_some hm
  refine CallY.det (d_moon_isFrac y 20000000 _ hx5) ?_
  revert hm
  refine VIf.b (fun h6 hm => ?_) (fun h6 hm => ?_)
  cases hm
  exact RetY.le (leD.refl _)
  obtain ⟨x7, hx8, hm⟩ := bd_some hm
  refine CallY.det (d_moon_compare x y _ hx8) ?_
  cases hm
  exact RetY.le (leD.refl _)

def m_L02_within (a : TSlip) (b_ : TSlip) : Option Bool :=
  Option.bind (m_moon_Compare b_.Lo a.Lo) fun ⟨x1, x2⟩ =>
  Option.bind (m_moon_Compare a.Hi b_.Hi) fun ⟨x4, x5⟩ =>
  if (x2 == 0) = true then
    if (x5 == 0) = true then
      if (decide (x1 < 0)) = true then
        some (decide (x4 ≤ 0))
      else
        if (x1 == 0) = true then
          if (!b_.Open) = true then
            some (decide (x4 ≤ 0))
          else
            if a.Open = true then
              some (decide (x4 ≤ 0))
            else
              some false
        else
          some false
    else
      some false
  else
    some false
theorem d_L02_within (a : TSlip) (b_ : TSlip) (r : Bool) (hm : m_L02_within a b_ = some r) : Does Tryz.prog 11 [.agg (TSlip.c a), .agg (TSlip.c b_)] (fun x => x = DB r) := by
  refine does_zy (X := ⟨Tryz.prog, tt, Tryz.f11.ntmps, [], [], [], [], [], []⟩) pok _ Tryz.func11 rfl rfl (Nat.le_of_ble_eq_true rfl) ?_
  obtain ⟨⟨x1, x2⟩, hx3, hm⟩ := bd_some hm
  refine CallY.det (d_moon_Compare b_.Lo a.Lo _ hx3) ?_
  obtain ⟨⟨x4, x5⟩, hx6, hm⟩ := bd_some hm
  refine CallY.det (d_moon_Compare a.Hi b_.Hi _ hx6) ?_
  revert hm
  refine VIf.b (fun h7 hm => ?_) (fun h7 hm => ?_)
  revert hm
  refine VIf.b (fun h8 hm => ?_) (fun h8 hm => ?_)
  revert hm
  refine VIf.b (fun h9 hm => ?_) (fun h9 hm => ?_)
  cases hm
  exact RetY.le (leD.refl _)
  revert hm
  refine VIf.b (fun h10 hm => ?_) (fun h10 hm => ?_)
  revert hm
  refine VIf.b (fun h11 hm => ?_) (fun h11 hm => ?_)
  cases hm
  exact RetY.le (leD.refl _)
  revert hm
  refine VIf.b (fun h12 hm => ?_) (fun h12 hm => ?_)
  cases hm
  exact RetY.le (leD.refl _)
  cases hm
  exact RetY.le (leD.refl _)
  cases hm
  exact RetY.le (leD.refl _)
  cases hm
  exact RetY.le (leD.refl _)
  cases hm
  exact RetY.le (leD.refl _)

def m_R02_Has_L1 (l : (List Int)) (n : Int) : Int → Option (Sum Int (Sum Int Bool)) := fun i5 =>
  if (decide (i5 < (l.length : Int))) = true then
    Option.bind (idx l i5) fun e11 =>
    if (e11 == n) = true then
      some (.inr (.inr true))
    else
      some (.inl (W (i5 + 1)))
  else
    some (.inr (.inl i5))
def m_R02_Has (l : (List Int)) (n : Int) : Option Bool :=
  Option.bind (loopF (m_R02_Has_L1 l n) 0) fun e =>
  match e with
  | .inl i14 =>
    some false
  | .inr rr15 =>
    some rr15
theorem d_R02_Has (l : (List Int)) (n : Int) (r : Bool) (hm : m_R02_Has l n = some r) : Does Tryz.prog 13 [lD 1 l cI, DI n] (fun x => x = DB r) := by
  refine does_zy (X := ⟨Tryz.prog, tt, Tryz.f13.ntmps, [], [], [], [], [], []⟩) pok _ Tryz.func13 rfl rfl (Nat.le_of_ble_eq_true rfl) ?_
  obtain ⟨ev16, he, hk17⟩ := bd_some hm
  refine LoopY.ofL (m_R02_Has_L1 l n) (fun i5 => ⟨[(0, lD 1 l cI), (1, DI n), (4, DB false), (5, DI i5)], [], 0⟩) 0 (SubY.of 0 rfl ⟨tR rfl, tR rfl, tR rfl, tR rfl, trivial⟩ trivial) he ?_
  rintro fu18 i5 b hm hi19
  revert hm
  refine VIf.b (fun h20 hm => ?_) (fun h20 hm => ?_)
  obtain ⟨e21, hx22, hm⟩ := bd_some hm
  refine ⟨_, el_idx (fun _ => rfl) hx22, ?_⟩
  revert hm
  refine VIf.b (fun h23 hm => ?_) (fun h23 hm => ?_)
  cases hm
  cases hi19
  have hm := hk17
  cases hm
  exact RetY.le (leD.refl _)
  cases hm
  exact ⟨(_, (W (i5 + 1))), SubY.of 0 rfl ⟨tR rfl, tR rfl, tR rfl, tR rfl, trivial⟩ trivial, hi19, Nat.lt_succ_self _⟩
  cases hm
  cases hi19
  have hm := hk17
  cases hm
  exact RetY.le (leD.refl _)

def m_L02_MoonNarrows_L1 (x1 : Int) (x3 : TSky) (x12 : TSky) (x31 : (List Int)) : Int → Option (Sum Int (Sum Int Bool)) := fun t55 =>
  if (decide (t55 ≤ 1439)) = true then
    Option.bind (m_moon_Above x3 (W (5 + x1)) 20 t55) fun ⟨x74, x75⟩ =>
    Option.bind (m_moon_Above x12 (W (5 + x1)) 20 t55) fun ⟨x77, x78⟩ =>
    if (x75 != 0) = true then
      some (.inr (.inr false))
    else
      if (x78 != 0) = true then
        some (.inr (.inr false))
      else
        if (x74 != 2) = true then
          if (x77 != x74) = true then
            some (.inr (.inr false))
          else
            Option.bind (m_R02_Has x31 t55) fun x84 =>
            if (!((x74 != x77) == x84)) = true then
              some (.inr (.inr false))
            else
              some (.inl (W (t55 + 13)))
        else
          Option.bind (m_R02_Has x31 t55) fun x87 =>
          if (!((x74 != x77) == x87)) = true then
            some (.inr (.inr false))
          else
            some (.inl (W (t55 + 13)))
  else
    some (.inr (.inl t55))
def m_L02_MoonNarrows (r_ : TRaw) (n : (Int × Int)) (above : Bool) : Option Bool :=
  Option.bind (m_R02_Mod n.1 2) fun x1 =>
  Option.bind (m_L02_truth r_ (W (5 + x1))) fun ⟨x3, x4, x5⟩ =>
  if (!x5) = true then
    Option.bind (m_L02_sane ) fun x8 =>
    some x8
  else
    Option.bind (m_R02_Mod n.2 1440) fun x10 =>
    Option.bind (m_moon_Seen x3 (⟨900, (W (5 + x1)), x10, above, 20, 0⟩ : TSighting)) fun ⟨x12, x13⟩ =>
    Option.bind (m_moon_Slip x3 (W (5 + x1)) 20) fun ⟨x15, x16⟩ =>
    if (x13 != 0) = true then
      some false
    else
      if (x16 != 0) = true then
        some false
      else
        Option.bind (m_moon_Show x3 (W (5 + x1)) 20 x10 above) fun ⟨x20, x21⟩ =>
        Option.bind (m_moon_Slip x12 (W (5 + x1)) 20) fun ⟨x23, x24⟩ =>
        if (x21 != 0) = true then
          if (x21 == 3) = true then
            if (x24 == 26) = true then
              Option.bind (m_L02_sane ) fun x29 =>
              some x29
            else
              some false
          else
            some false
        else
          Option.bind (m_moon_Moved x12 900 (W (5 + x1)) 20) fun ⟨x31, x32⟩ =>
          if (x24 != 0) = true then
            some false
          else
            if (x32 != 0) = true then
              some false
            else
              Option.bind (m_L02_within x23 x15) fun x36 =>
              if (!x36) = true then
                some false
              else
                Option.bind (loopF (m_L02_MoonNarrows_L1 x1 x3 x12 x31) 0) fun e =>
                match e with
                | .inl t90 =>
                  Option.bind (m_moon_Above x12 (W (5 + x1)) 20 x10) fun ⟨x91, x92⟩ =>
                  if (x92 == 0) = true then
                    if ((x91 == 1) == above) = true then
                      if (x91 != 2) = true then
                        Option.bind (m_L02_sane ) fun x97 =>
                        some x97
                      else
                        some false
                    else
                      some false
                  else
                    some false
                | .inr rr99 =>
                  some rr99
theorem d_L02_MoonNarrows (r_ : TRaw) (n : (Int × Int)) (above : Bool) (r : Bool) (hm : m_L02_MoonNarrows r_ n above = some r) : Does Tryz.prog 3 [.agg (TRaw.c r_), .agg [DI n.1, DI n.2], DB above] (fun x => x = DB r) := by
  refine does_zy (X := ⟨Tryz.prog, tt, Tryz.f3.ntmps, [], [], [], [], [], []⟩) pok _ Tryz.func3 rfl rfl (Nat.le_of_ble_eq_true rfl) ?_
  refine ⟨by decide, ?_⟩
  obtain ⟨x1, hx2, hm⟩ := bd_some hm
  refine CallY.det (d_R02_Mod n.1 2 _ hx2) ?_
  obtain ⟨⟨x3, x4, x5⟩, hx6, hm⟩ := bd_some hm
  refine CallY.det (d_L02_truth r_ (W (5 + x1)) _ hx6) ?_
  revert hm
  refine VIf.b (fun h7 hm => ?_) (fun h7 hm => ?_)
  obtain ⟨x8, hx9, hm⟩ := bd_some hm
  refine CallY.det (d_L02_sane  _ hx9) ?_
  cases hm
  exact RetY.le (leD.refl _)
  refine ⟨by decide, ?_⟩
  obtain ⟨x10, hx11, hm⟩ := bd_some hm
  refine CallY.det (d_R02_Mod n.2 1440 _ hx11) ?_
  obtain ⟨⟨x12, x13⟩, hx14, hm⟩ := bd_some hm
  refine CallY.det (d_moon_Seen x3 ((⟨900, (W (5 + x1)), x10, above, 20, 0⟩ : TSighting)) _ hx14) ?_
  obtain ⟨⟨x15, x16⟩, hx17, hm⟩ := bd_some hm
  refine CallY.det (d_moon_Slip x3 (W (5 + x1)) 20 _ hx17) ?_
  revert hm
  refine VIf.b (fun h18 hm => ?_) (fun h18 hm => ?_)
  cases hm
  exact RetY.le (leD.refl _)
  revert hm
  refine VIf.b (fun h19 hm => ?_) (fun h19 hm => ?_)
  cases hm
  exact RetY.le (leD.refl _)
  obtain ⟨⟨x20, x21⟩, hx22, hm⟩ := bd_some hm
  refine CallY.det (d_moon_Show x3 (W (5 + x1)) 20 x10 above _ hx22) ?_
  obtain ⟨⟨x23, x24⟩, hx25, hm⟩ := bd_some hm
  refine CallY.det (d_moon_Slip x12 (W (5 + x1)) 20 _ hx25) ?_
  revert hm
  refine VIf.b (fun h26 hm => ?_) (fun h26 hm => ?_)
  revert hm
  refine VIf.b (fun h27 hm => ?_) (fun h27 hm => ?_)
  revert hm
  refine VIf.b (fun h28 hm => ?_) (fun h28 hm => ?_)
  obtain ⟨x29, hx30, hm⟩ := bd_some hm
  refine CallY.det (d_L02_sane  _ hx30) ?_
  cases hm
  exact RetY.le (leD.refl _)
  cases hm
  exact RetY.le (leD.refl _)
  cases hm
  exact RetY.le (leD.refl _)
  obtain ⟨⟨x31, x32⟩, hx33, hm⟩ := bd_some hm
  refine CallY.det (d_moon_Moved x12 900 (W (5 + x1)) 20 _ hx33) ?_
  revert hm
  refine VIf.b (fun h34 hm => ?_) (fun h34 hm => ?_)
  cases hm
  exact RetY.le (leD.refl _)
  revert hm
  refine VIf.b (fun h35 hm => ?_) (fun h35 hm => ?_)
  cases hm
  exact RetY.le (leD.refl _)
  obtain ⟨x36, hx37, hm⟩ := bd_some hm
  refine CallY.det (d_L02_within x23 x15 _ hx37) ?_
  revert hm
  refine VIf.b (fun h38 hm => ?_) (fun h38 hm => ?_)
  cases hm
  exact RetY.le (leD.refl _)
  obtain ⟨ev100, he, hk101⟩ := bd_some hm
  refine LoopY.ofL (m_L02_MoonNarrows_L1 x1 x3 x12 x31) (fun t55 => ⟨[(0, .agg [lD 1 r_.Rows (fun (x : (List (Int × Int × Int × Int))) => [lD 4 x cf1]), lD 4 r_.Sheets cf1, lD 3 r_.Roofs cf2, lD 4 r_.Sightings cf1, DI r_.Off]), (1, .agg [DI n.1, DI n.2]), (2, DB above), (3, .own 0 0), (4, .own 1 0), (6, DB false), (7, DI (W (5 + x1))), (8, .own 2 0), (10, DB x5), (11, .own 4 0), (12, .own 5 0), (13, DI x13), (14, .own 6 0), (15, DI x16), (17, DI x21), (18, .own 8 0), (19, DI x24), (20, lD 1 x31 cI), (21, DI x32), (22, DI t55), (41, DB (!x5)), (66, DB (x16 != 0)), (83, DB (x21 != 0)), (110, DB (!x36))], [(0, .blk [lD 1 r_.Rows (fun (x : (List (Int × Int × Int × Int))) => [lD 4 x cf1]), lD 4 r_.Sheets cf1, lD 3 r_.Roofs cf2, lD 4 r_.Sightings cf1, DI r_.Off] 26), (1, .blk [DI n.1, DI n.2] 27), (2, .blk (TSky.c x3) 33), (3, .blk (TSheet.c x4) 40), (4, .blk [DI 900, DI (W (5 + x1)), DI x10, DB above, DI 20, DI 0] 45), (5, .blk (TSky.c x12) 33), (6, .blk (TSlip.c x15) 50), (7, .blk [DI x20.Num, DI x20.Den] 36), (8, .blk (TSlip.c x23) 50)], 9⟩) 0 (SubY.of 9 rfl ⟨tR rfl, tR rfl, tR rfl, tR rfl, tR rfl, tR rfl, tR rfl, tR rfl, tR rfl, tR rfl, tR rfl, tR rfl, tR rfl, tR rfl, tR rfl, tR rfl, tR rfl, tR rfl, tR rfl, tR rfl, tR rfl, tR rfl, tR rfl, tR rfl, trivial⟩ ⟨hR rfl, hR rfl, hR rfl, hR rfl, hR rfl, hR rfl, hR rfl, hR rfl, hR rfl, trivial⟩) he ?_
  rintro fu102 t55 b hm hi103
  revert hm
  refine VIf.b (fun h104 hm => ?_) (fun h104 hm => ?_)
  obtain ⟨⟨x105, x106⟩, hx107, hm⟩ := bd_some hm
  refine CallY.det (d_moon_Above x3 (W (5 + x1)) 20 t55 _ hx107) ?_
  obtain ⟨⟨x108, x109⟩, hx110, hm⟩ := bd_some hm
  refine CallY.det (d_moon_Above x12 (W (5 + x1)) 20 t55 _ hx110) ?_
  revert hm
  refine VIf.b (fun h111 hm => ?_) (fun h111 hm => ?_)
  cases hm
  cases hi103
  have hm := hk101
  cases hm
  exact RetY.le (leD.refl _)
  revert hm
  refine VIf.b (fun h112 hm => ?_) (fun h112 hm => ?_)
  cases hm
  cases hi103
  have hm := hk101
  cases hm
  exact RetY.le (leD.refl _)
  revert hm
  refine VIf.b (fun h113 hm => ?_) (fun h113 hm => ?_)
  revert hm
  refine VIf.b (fun h114 hm => ?_) (fun h114 hm => ?_)
  cases hm
  cases hi103
  have hm := hk101
  cases hm
  exact RetY.le (leD.refl _)
  obtain ⟨x115, hx116, hm⟩ := bd_some hm
  refine CallY.det (d_R02_Has x31 t55 _ hx116) ?_
  revert hm
  refine VIf.b (fun h117 hm => ?_) (fun h117 hm => ?_)
  cases hm
  cases hi103
  have hm := hk101
  cases hm
  exact RetY.le (leD.refl _)
  cases hm
  exact ⟨(_, (W (t55 + 13))), SubY.of 9 rfl ⟨tR rfl, tR rfl, tR rfl, tR rfl, tR rfl, tR rfl, tR rfl, tR rfl, tR rfl, tR rfl, tR rfl, tR rfl, tR rfl, tR rfl, tR rfl, tR rfl, tR rfl, tR rfl, tR rfl, tR rfl, tR rfl, tR rfl, tR rfl, tR rfl, trivial⟩ ⟨hR rfl, hR rfl, hR rfl, hR rfl, hR rfl, hR rfl, hR rfl, hR rfl, hR rfl, trivial⟩, hi103, Nat.lt_succ_self _⟩
  obtain ⟨x118, hx119, hm⟩ := bd_some hm
  refine CallY.det (d_R02_Has x31 t55 _ hx119) ?_
  revert hm
  refine VIf.b (fun h120 hm => ?_) (fun h120 hm => ?_)
  cases hm
  cases hi103
  have hm := hk101
  cases hm
  exact RetY.le (leD.refl _)
  cases hm
  exact ⟨(_, (W (t55 + 13))), SubY.of 9 rfl ⟨tR rfl, tR rfl, tR rfl, tR rfl, tR rfl, tR rfl, tR rfl, tR rfl, tR rfl, tR rfl, tR rfl, tR rfl, tR rfl, tR rfl, tR rfl, tR rfl, tR rfl, tR rfl, tR rfl, tR rfl, tR rfl, tR rfl, tR rfl, tR rfl, trivial⟩ ⟨hR rfl, hR rfl, hR rfl, hR rfl, hR rfl, hR rfl, hR rfl, hR rfl, hR rfl, trivial⟩, hi103, Nat.lt_succ_self _⟩
  cases hm
  cases hi103
  have hm := hk101
  obtain ⟨⟨x121, x122⟩, hx123, hm⟩ := bd_some hm
  refine CallY.det (d_moon_Above x12 (W (5 + x1)) 20 x10 _ hx123) ?_
  revert hm
  refine VIf.b (fun h124 hm => ?_) (fun h124 hm => ?_)
  revert hm
  refine VIf.b (fun h125 hm => ?_) (fun h125 hm => ?_)
  revert hm
  refine VIf.b (fun h126 hm => ?_) (fun h126 hm => ?_)
  obtain ⟨x127, hx128, hm⟩ := bd_some hm
  refine CallY.det (d_L02_sane  _ hx128) ?_
  cases hm
  exact RetY.le (leD.refl _)
  cases hm
  exact RetY.le (leD.refl _)
  cases hm
  exact RetY.le (leD.refl _)
  cases hm
  exact RetY.le (leD.refl _)

end Go.Proofs.YtnehgkfgenhgcaaGreat
