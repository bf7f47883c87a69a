/- Functions of the program as pure Lean functions, and that calls do what these say. Printed by a program out of the given form. -/
import Derived.Test.YtdhjccionnbljaaL1
set_option linter.unusedVariables false
set_option linter.unusedSimpArgs false
namespace Go.Proofs.Ytdhjccionnbljaa
open Go Go.RowKit Go.Sx
set_option maxRecDepth 100000
set_option maxHeartbeats 20000000
def m_moon_Moved_L1 (x77 : Int) (x81 : Int) : ((List Int) × Int) → Option (Sum ((List Int) × Int) ((List Int) × Int)) := fun (out86, v87) =>
  if (decide (v87 < 1440)) = true then
    if (x77 != x81) = true then
      gd ((out86.length + ([v87] : List Int).length) * 8 ≤ 140737488355328 ∧ out86.length + ([v87] : List Int).length ≤ 9223372036854775807) <|
      some (.inl ((out86 ++ ([v87] : List Int)), (W (v87 + 1))))
    else
      if (x77 == 0) = true then
        none
      else
        some (.inl (out86, (W (v87 + 1))))
  else
    some (.inr (out86, v87))
def m_moon_Moved_L3 (x77 : Int) (p79 : Tknown) (x123 : Int) : ((List Int) × Int) → Option (Sum ((List Int) × Int) ((List Int) × Int)) := fun (out130, v131) =>
  if (decide (v131 < 1440)) = true then
    if (x77 != x123) = true then
      gd ((out130.length + ([v131] : List Int).length) * 8 ≤ 140737488355328 ∧ out130.length + ([v131] : List Int).length ≤ 9223372036854775807) <|
      some (.inl ((out130 ++ ([v131] : List Int)), (W (v131 + 1))))
    else
      if (x77 == 0) = true then
        Option.bind (m_moon_known_above p79 v131) fun x140 =>
        none
      else
        some (.inl (out130, (W (v131 + 1))))
  else
    some (.inr (out130, v131))
def m_moon_Moved_L4 (x77 : Int) (p79 : Tknown) (x123 : Int) (p125 : Tknown) : ((List Int) × Int × (List Int)) → Option (Sum ((List Int) × Int × (List Int)) ((List Int) × Int × (List Int))) := fun (out160, v161, out162) =>
  if (decide (v161 < 1440)) = true then
    if (x77 != x123) = true then
      gd ((out162.length + ([v161] : List Int).length) * 8 ≤ 140737488355328 ∧ out162.length + ([v161] : List Int).length ≤ 9223372036854775807) <|
      some (.inl (out160, (W (v161 + 1)), (out162 ++ ([v161] : List Int))))
    else
      if (x77 == 0) = true then
        Option.bind (m_moon_known_above p79 v161) fun x174 =>
        Option.bind (m_moon_known_above p125 v161) fun x176 =>
        if (x174 != x176) = true then
          gd ((out162.length + ([v161] : List Int).length) * 8 ≤ 140737488355328 ∧ out162.length + ([v161] : List Int).length ≤ 9223372036854775807) <|
          some (.inl (out160, (W (v161 + 1)), (out162 ++ ([v161] : List Int))))
        else
          some (.inl (out160, (W (v161 + 1)), out162))
      else
        some (.inl (out160, (W (v161 + 1)), out162))
  else
    some (.inr (out160, v161, out162))
def m_moon_Moved_L9 (s : TSky) : (Int × (List TSheet)) → Option (Sum (Int × (List TSheet)) (Int × (List TSheet))) := fun (v321, v322) =>
  if (decide (v321 < (s.Sheets.length : Int))) = true then
    Option.bind (idx s.Sheets v321) fun e329 =>
    Option.bind (m_slices_Clone_api_Row_api_Row e329.Rows) fun x331 =>
    gd ((v322.length + ([(⟨e329.Source, e329.Night, e329.Known, e329.Until, x331, e329.Off, e329.Light⟩ : TSheet)] : List TSheet).length) * 88 ≤ 140737488355328 ∧ v322.length + ([(⟨e329.Source, e329.Night, e329.Known, e329.Until, x331, e329.Off, e329.Light⟩ : TSheet)] : List TSheet).length ≤ 9223372036854775807) <|
    some (.inl ((W (v321 + 1)), (v322 ++ ([(⟨e329.Source, e329.Night, e329.Known, e329.Until, x331, e329.Off, e329.Light⟩ : TSheet)] : List TSheet))))
  else
    some (.inr (v321, v322))
def m_moon_Moved (s : TSky) (source : Int) (night : Int) (known : Int) : Option ((List Int) × Int) :=
  Option.bind (m_moon_Check s) fun x1 =>
  if (x1 != 0) = true then
    some ([], x1)
  else
    Option.bind (m_moon_isNight night) fun x4 =>
    if (!x4) = true then
      some ([], 6)
    else
      Option.bind (m_moon_isNight known) fun x7 =>
      if (!x7) = true then
        some ([], 6)
      else
        Option.bind (m_IN_moon_copied_1 s) fun ⟨v33, v34, x35⟩ =>
        Option.bind (m_slices_DeleteFunc_api_Sheet_api_Sheet__moon_Moved_1 v34 source) fun x70 =>
        Option.bind (m_slices_DeleteFunc_api_Sighting_api_Sighting__moon_Moved_2 v33 source) fun x72 =>
        if ((x70.length : Int) == (s.Sheets.length : Int)) = true then
          if ((x72.length : Int) == (s.Sightings.length : Int)) = true then
            some ([], 3)
          else
            Option.bind (m_moon_clearly s night known []) fun ⟨x76, x77⟩ =>
            optM x76 (
              Option.bind (m_moon_clearly (⟨x70, x35, x72⟩ : TSky) night known []) fun ⟨x80, x81⟩ =>
              optM x80 (
                Option.bind (loopF (m_moon_Moved_L1 x77 x81) ([], 0)) fun (out94, v95) =>
                some (out94, 0)) fun p83 =>
              Option.bind (loopF (m_moon_Moved_L1 x77 x81) ([], 0)) fun (out113, v114) =>
              some (out113, 0)) fun p79 =>
            Option.bind (m_moon_clearly (⟨x70, x35, x72⟩ : TSky) night known []) fun ⟨x122, x123⟩ =>
            optM x122 (
              Option.bind (loopF (m_moon_Moved_L3 x77 p79 x123) ([], 0)) fun (out142, v143) =>
              some (out142, 0)) fun p125 =>
            Option.bind (loopF (m_moon_Moved_L4 x77 p79 x123 p125) ([], 0, [])) fun (out179, v180, out181) =>
            some (out181, 0)
        else
          Option.bind (m_moon_clearly s night known []) fun ⟨x194, x195⟩ =>
          optM x194 (
            Option.bind (m_moon_clearly (⟨x70, x35, x72⟩ : TSky) night known []) fun ⟨x198, x199⟩ =>
            optM x198 (
              Option.bind (loopF (m_moon_Moved_L1 x195 x199) ([], 0)) fun (out212, v213) =>
              some (out212, 0)) fun p201 =>
            Option.bind (loopF (m_moon_Moved_L1 x195 x199) ([], 0)) fun (out231, v232) =>
            some (out231, 0)) fun p197 =>
          Option.bind (m_moon_clearly (⟨x70, x35, x72⟩ : TSky) night known []) fun ⟨x240, x241⟩ =>
          optM x240 (
            Option.bind (loopF (m_moon_Moved_L3 x195 p197 x241) ([], 0)) fun (out260, v261) =>
            some (out260, 0)) fun p243 =>
          Option.bind (loopF (m_moon_Moved_L4 x195 p197 x241 p243) ([], 0, [])) fun (out297, v298, out299) =>
          some (out299, 0)
theorem d_moon_Moved (s : TSky) (source : Int) (night : Int) (known : Int) (r : ((List Int) × Int)) (hm : m_moon_Moved s source night known = some r) : Does Try.prog 51 [.agg (TSky.c s), DI source, DI night, DI known] (fun x => x = .tup [lD 1 r.1 cI, DI r.2]) := by
  refine does_zy (X := ⟨Try.prog, tt, Try.f51.ntmps, [], [100, 102, 110], [111], [], [99], []⟩) pok _ Try.func51 rfl rfl (Nat.le_of_ble_eq_true rfl) ?_
  obtain ⟨x1, hx2, hm⟩ := bd_some hm
  refine CallY.det (d_moon_Check s _ hx2) ?_
  revert hm
  refine VIf.b (fun h3 hm => ?_) (fun h3 hm => ?_)
  cases hm
  exact RetY.le (⟨_, rfl, ⟨leD.nil, leD.refl _, trivial⟩⟩)
  obtain ⟨x4, hx5, hm⟩ := bd_some hm
  refine CallY.det (d_moon_isNight night _ hx5) ?_
  revert hm
  refine VIf.b (fun h6 hm => ?_) (fun h6 hm => ?_)
  cases hm
  exact RetY.le (⟨_, rfl, ⟨leD.nil, leD.refl _, trivial⟩⟩)
  obtain ⟨x7, hx8, hm⟩ := bd_some hm
  refine CallY.det (d_moon_isNight known _ hx8) ?_
  revert hm
  refine VIf.b (fun h9 hm => ?_) (fun h9 hm => ?_)
  cases hm
  exact RetY.le (⟨_, rfl, ⟨leD.nil, leD.refl _, trivial⟩⟩)
  obtain ⟨ev68, he69, hm⟩ := bd_some hm
  refine CallIn.ofZ pok ⟨[(0, .agg [lD 9 s.Sheets TSheet.c, lD 3 s.Roofs TRoof.c, lD 6 s.Sightings TSighting.c]), (1000000, .agg [lD 9 s.Sheets TSheet.c, lD 3 s.Roofs TRoof.c, lD 6 s.Sightings TSighting.c]), (1000001, DI source), (1000002, DI night), (1000003, DI known), (1000004, .own 0 0), (1000005, .own 1 0), (1000008, .v (.slice none 0 0)), (1000009, DI 0), (1000010, DI x1), (1000021, DB (x1 != 0)), (1000030, DB (!x7))], [(0, .blk [lD 9 s.Sheets TSheet.c, lD 3 s.Roofs TRoof.c, lD 6 s.Sightings TSighting.c] 32), (1, .blk [DI source] 3)], 2⟩ (match ev68 with | (v33, v34, x35) => (⟨[(0, .agg [lD 9 s.Sheets TSheet.c, lD 3 s.Roofs TRoof.c, lD 6 s.Sightings TSighting.c]), (1, DI source), (2, DI night), (3, DI known), (4, .own 0 0), (5, .own 1 0), (8, .v (.slice none 0 0)), (9, DI 0), (10, DI x1), (21, DB (x1 != 0)), (30, DB (!x7)), (32, .agg [.row 6 9, lD 3 x35 TRoof.c, .row 4 6])], [(0, .blk [lD 9 s.Sheets TSheet.c, lD 3 s.Roofs TRoof.c, lD 6 s.Sightings TSighting.c] 32), (1, .blk [DI source] 3), (4, rE 6 v33 TSighting.c 43), (6, rE 9 v34 TSheet.c 41)], 7⟩ : Sy) : Sy) pl99 [100, 102, 110] [111] [99] Try.func99 rfl rfl rfl (SubY.of 2 rfl ⟨tR rfl, tR rfl, tR rfl, tR rfl, tR rfl, tR rfl, tR rfl, tR rfl, tR rfl, tR rfl, tR rfl, tR rfl, trivial⟩ ⟨hR rfl, hR rfl, trivial⟩) (fun sv => ?_) ?_
  have hm := he69
  refine ⟨rfl, ?_⟩
  obtain ⟨x312, hx313, hm⟩ := bd_some hm
  refine CallY.det (d_slices_Clone_api_Roof_api_Roof s.Roofs _ hx313) ?_
  obtain ⟨x314, hx315, hm⟩ := bd_some hm
  refine CallU.mk ⟨_, _, _, _, u_slices_Clone_api_Sighting_api_Sighting s.Sightings _ hx315, ?_⟩
  obtain ⟨ev335, he, hk336⟩ := bd_some hm
  refine LoopY.ofL (m_moon_Moved_L9 s) (fun (v321, v322) => ⟨[(0, .agg [lD 9 s.Sheets TSheet.c, lD 3 s.Roofs TRoof.c, lD 6 s.Sightings TSighting.c]), (1, .own 2 0), (2, .own 3 0), (3, .own 5 0), (14, lD 9 s.Sheets TSheet.c), (15, DI (s.Sheets.length : Int)), (16, DI v321), (1000000, .agg [lD 9 s.Sheets TSheet.c, lD 3 s.Roofs TRoof.c, lD 6 s.Sightings TSighting.c]), (1000001, DI source), (1000002, DI night), (1000003, DI known), (1000004, .own 0 0), (1000005, .own 1 0), (1000008, .v (.slice none 0 0)), (1000009, DI 0), (1000010, DI x1), (1000021, DB (x1 != 0)), (1000030, DB (!x7))], [(0, .blk [lD 9 s.Sheets TSheet.c, lD 3 s.Roofs TRoof.c, lD 6 s.Sightings TSighting.c] 32), (1, .blk [DI source] 3), (2, .blk [lD 9 s.Sheets TSheet.c, lD 3 s.Roofs TRoof.c, lD 6 s.Sightings TSighting.c] 32), (3, .blk [.v (.slice none 0 0), .v (.slice none 0 0), .v (.slice none 0 0)] 32), (4, rE 6 x314 TSighting.c 43), (5, .blk [.row 6 9, lD 3 x312 TRoof.c, .row 4 6] 32), (6, rE 9 v322 TSheet.c 41)], 7⟩) (0, []) (SubY.of 6 rfl ⟨tR rfl, tR rfl, tR rfl, tR rfl, tR rfl, tR rfl, tR rfl, tR rfl, tR rfl, tR rfl, tR rfl, tR rfl, tR rfl, tR rfl, tR rfl, tR rfl, tR rfl, tR rfl, trivial⟩ ⟨hR rfl, hR rfl, hR rfl, hR rfl, hW rfl, hR rfl, ⟨rfl, rfl⟩, trivial⟩) he ?_
  rintro fu337 ⟨v321, v322⟩ b hm hi338
  revert hm
  refine VIf.b (fun h339 hm => ?_) (fun h339 hm => ?_)
  obtain ⟨e340, hx341, hm⟩ := bd_some hm
  refine ⟨_, el_idx (fun _ => rfl) hx341, ?_⟩
  obtain ⟨x342, hx343, hm⟩ := bd_some hm
  refine CallY.det (d_slices_Clone_api_Row_api_Row e340.Rows _ hx343) ?_
  refine ⟨([(⟨e340.Source, e340.Night, e340.Known, e340.Until, x342, e340.Off, e340.Light⟩ : TSheet)] : List TSheet).flatMap TSheet.c, ([(⟨e340.Source, e340.Night, e340.Known, e340.Until, x342, e340.Off, e340.Light⟩ : TSheet)] : List TSheet).length, ⟨rfl, rfl⟩, ?_⟩
  obtain ⟨hg, hm⟩ := gd_some hm
  refine ⟨hg, _, _, flat_app (c := TSheet.c) (l := (v322 : List TSheet)) (r := (([(⟨e340.Source, e340.Night, e340.Known, e340.Until, x342, e340.Off, e340.Light⟩ : TSheet)] : List TSheet) : List TSheet)), ?_⟩
  cases hm
  exact ⟨(_, ((W (v321 + 1)), (v322 ++ ([(⟨e340.Source, e340.Night, e340.Known, e340.Until, x342, e340.Off, e340.Light⟩ : TSheet)] : List TSheet)))), SubY.of 7 rfl ⟨tR rfl, tR rfl, tR rfl, tR rfl, tR rfl, tR rfl, tR rfl, tR rfl, tR rfl, tR rfl, tR rfl, tR rfl, tR rfl, tR rfl, tR rfl, tR rfl, tR rfl, tR rfl, trivial⟩ ⟨hR rfl, hR rfl, hR rfl, hR rfl, hW rfl, hR rfl, hW rfl, trivial⟩, hi338, Nat.lt_succ_self _⟩
  cases hm
  cases hi338
  have hm := hk336
  cases hm
  exact SubY.of 7 rfl ⟨tR rfl, tR rfl, tR rfl, tR rfl, tR rfl, tR rfl, tR rfl, tR rfl, tR rfl, tR rfl, tR rfl, tR rfl, trivial⟩ ⟨hR rfl, hR rfl, hW rfl, hW rfl, trivial⟩
  obtain ⟨v33, v34, x35⟩ := ev68
  obtain ⟨x70, hx71, hm⟩ := bd_some hm
  refine CallL.mk ⟨_, _, _, _, _, _, _, rfl, d_slices_DeleteFunc_api_Sheet_api_Sheet__moon_Moved_1 v34 source _ hx71, ?_⟩
  obtain ⟨x72, hx73, hm⟩ := bd_some hm
  refine CallL.mk ⟨_, _, _, _, _, _, _, rfl, d_slices_DeleteFunc_api_Sighting_api_Sighting__moon_Moved_2 v33 source _ hx73, ?_⟩
  revert hm
  refine VIf.b (fun h74 hm => ?_) (fun h74 hm => ?_)
  revert hm
  refine VIf.b (fun h75 hm => ?_) (fun h75 hm => ?_)
  cases hm
  exact RetY.le (⟨_, rfl, ⟨leD.nil, leD.refl _, trivial⟩⟩)
  obtain ⟨⟨x76, x77⟩, hx78, hm⟩ := bd_some hm
  refine CallY.det ((d_moon_clearly s night known [] _ hx78).le ⟨leD.refl _, leD.refl _, leD.refl _, leD.nil, trivial⟩) ?_
  rcases x76 with _ | p79
  replace hm := opt_none hm
  obtain ⟨⟨x80, x81⟩, hx82, hm⟩ := bd_some hm
  refine CallOwn.det ((d_moon_clearly ((⟨x70, x35, x72⟩ : TSky)) night known [] _ hx82).le ⟨leD.refl _, leD.refl _, leD.refl _, leD.nil, trivial⟩) ?_
  rcases x80 with _ | p83
  replace hm := opt_none hm
  obtain ⟨ev96, he, hk97⟩ := bd_some hm
  refine LoopY.ofL (m_moon_Moved_L1 x77 x81) (fun (out86, v87) => ⟨[(0, .agg [lD 9 s.Sheets TSheet.c, lD 3 s.Roofs TRoof.c, lD 6 s.Sightings TSighting.c]), (1, DI source), (2, DI night), (3, DI known), (4, .own 0 0), (5, .ptr [DI source] 0), (8, .v (.slice none 0 0)), (9, DI 0), (10, DI x1), (11, .own 7 0), (12, .v (.pointer none)), (13, DI x77), (14, .v (.pointer none)), (15, DI x81), (16, .row 8 1), (21, DB (x1 != 0)), (30, DB (!x7)), (58, DB ((x72.length : Int) == (s.Sightings.length : Int))), (73, DI v87)], [(0, .blk [lD 9 s.Sheets TSheet.c, lD 3 s.Roofs TRoof.c, lD 6 s.Sightings TSighting.c] 32), (4, rE 6 x72 TSighting.c 43), (6, rE 9 x70 TSheet.c 41), (7, .blk [.row 6 9, lD 3 x35 TRoof.c, .row 4 6] 32), (8, rE 1 out86 cI 3)], 9⟩) ([], 0) (SubY.of 8 rfl ⟨tR rfl, tR rfl, tR rfl, tR rfl, tR rfl, tR rfl, tR rfl, tR rfl, tR rfl, tR rfl, tR rfl, tR rfl, tR rfl, tR rfl, tR rfl, tR rfl, tR rfl, tR rfl, tR rfl, trivial⟩ ⟨hR rfl, hW rfl, hW rfl, hR rfl, ⟨rfl, rfl⟩, trivial⟩) he ?_
  rintro fu98 ⟨out86, v87⟩ b hm hi99
  revert hm
  refine VIf.b (fun h100 hm => ?_) (fun h100 hm => ?_)
  revert hm
  refine VIf.b (fun h101 hm => ?_) (fun h101 hm => ?_)
  refine ⟨([v87] : List Int).flatMap cI, ([v87] : List Int).length, ⟨rfl, rfl⟩, ?_⟩
  obtain ⟨hg, hm⟩ := gd_some hm
  refine ⟨hg, _, _, flat_app (c := cI) (l := (out86 : List Int)) (r := (([v87] : List Int) : List Int)), ?_⟩
  cases hm
  exact ⟨(_, ((out86 ++ ([v87] : List Int)), (W (v87 + 1)))), SubY.of 9 rfl ⟨tR rfl, tR rfl, tR rfl, tR rfl, tR rfl, tR rfl, tR rfl, tR rfl, tR rfl, tR rfl, tR rfl, tR rfl, tR rfl, tR rfl, tR rfl, tR rfl, tR rfl, tR rfl, tR rfl, trivial⟩ ⟨hR rfl, hW rfl, hW rfl, hR rfl, hW rfl, trivial⟩, hi99, Nat.lt_succ_self _⟩
  revert hm
  refine VIf.b (fun h102 hm => ?_) (fun h102 hm => ?_)
  cases hm
  cases hm
  exact ⟨(_, (out86, (W (v87 + 1)))), SubY.of 9 rfl ⟨tR rfl, tR rfl, tR rfl, tR rfl, tR rfl, tR rfl, tR rfl, tR rfl, tR rfl, tR rfl, tR rfl, tR rfl, tR rfl, tR rfl, tR rfl, tR rfl, tR rfl, tR rfl, tR rfl, trivial⟩ ⟨hR rfl, hW rfl, hW rfl, hR rfl, hW rfl, trivial⟩, hi99, Nat.lt_succ_self _⟩
  cases hm
  cases hi99
  have hm := hk97
  cases hm
  exact RetY.le (leD.refl _)
  replace hm := opt_some hm
  obtain ⟨ev115, he, hk116⟩ := bd_some hm
  refine LoopY.ofL (m_moon_Moved_L1 x77 x81) (fun (out105, v106) => ⟨[(0, .agg [lD 9 s.Sheets TSheet.c, lD 3 s.Roofs TRoof.c, lD 6 s.Sightings TSighting.c]), (1, DI source), (2, DI night), (3, DI known), (4, .own 0 0), (5, .ptr [DI source] 0), (8, .v (.slice none 0 0)), (9, DI 0), (10, DI x1), (11, .own 7 0), (12, .v (.pointer none)), (13, DI x77), (14, .ptr [DI p83.Sheet.Source, DI p83.Sheet.Night, DI p83.Sheet.Known, DI p83.Sheet.Until, lD 5 p83.Sheet.Rows TRow.c, DI p83.Sheet.Off.Num, DI p83.Sheet.Off.Den, DI p83.Sheet.Light.Lo, DI p83.Sheet.Light.Hi, lD 3 p83.roofs TRoof.c, lD 6 p83.sightings TSighting.c, DI p83.slip.Lo.Num, DI p83.slip.Lo.Den, DB p83.slip.Open, DI p83.slip.Hi.Num, DI p83.slip.Hi.Den] 0), (15, DI x81), (16, .row 8 1), (21, DB (x1 != 0)), (30, DB (!x7)), (58, DB ((x72.length : Int) == (s.Sightings.length : Int))), (73, DI v106)], [(0, .blk [lD 9 s.Sheets TSheet.c, lD 3 s.Roofs TRoof.c, lD 6 s.Sightings TSighting.c] 32), (7, .blk [lD 9 x70 TSheet.c, lD 3 x35 TRoof.c, lD 6 x72 TSighting.c] 32), (8, rE 1 out105 cI 3)], 9⟩) ([], 0) (SubY.of 8 rfl ⟨tR rfl, tR rfl, tR rfl, tR rfl, tR rfl, tR rfl, tR rfl, tR rfl, tR rfl, tR rfl, tR rfl, tR rfl, tR rfl, tR rfl, tR rfl, tR rfl, tR rfl, tR rfl, tR rfl, trivial⟩ ⟨hR rfl, hR rfl, ⟨rfl, rfl⟩, trivial⟩) he ?_
  rintro fu117 ⟨out105, v106⟩ b hm hi118
  revert hm
  refine VIf.b (fun h119 hm => ?_) (fun h119 hm => ?_)
  revert hm
  refine VIf.b (fun h120 hm => ?_) (fun h120 hm => ?_)
  refine ⟨([v106] : List Int).flatMap cI, ([v106] : List Int).length, ⟨rfl, rfl⟩, ?_⟩
  obtain ⟨hg, hm⟩ := gd_some hm
  refine ⟨hg, _, _, flat_app (c := cI) (l := (out105 : List Int)) (r := (([v106] : List Int) : List Int)), ?_⟩
  cases hm
  exact ⟨(_, ((out105 ++ ([v106] : List Int)), (W (v106 + 1)))), SubY.of 9 rfl ⟨tR rfl, tR rfl, tR rfl, tR rfl, tR rfl, tR rfl, tR rfl, tR rfl, tR rfl, tR rfl, tR rfl, tR rfl, tR rfl, tR rfl, tR rfl, tR rfl, tR rfl, tR rfl, tR rfl, trivial⟩ ⟨hR rfl, hR rfl, hW rfl, trivial⟩, hi118, Nat.lt_succ_self _⟩
  revert hm
  refine VIf.b (fun h121 hm => ?_) (fun h121 hm => ?_)
  cases hm
  cases hm
  exact ⟨(_, (out105, (W (v106 + 1)))), SubY.of 9 rfl ⟨tR rfl, tR rfl, tR rfl, tR rfl, tR rfl, tR rfl, tR rfl, tR rfl, tR rfl, tR rfl, tR rfl, tR rfl, tR rfl, tR rfl, tR rfl, tR rfl, tR rfl, tR rfl, tR rfl, trivial⟩ ⟨hR rfl, hR rfl, hW rfl, trivial⟩, hi118, Nat.lt_succ_self _⟩
  cases hm
  cases hi118
  have hm := hk116
  cases hm
  exact RetY.le (leD.refl _)
  replace hm := opt_some hm
  obtain ⟨⟨x122, x123⟩, hx124, hm⟩ := bd_some hm
  refine CallOwn.det ((d_moon_clearly ((⟨x70, x35, x72⟩ : TSky)) night known [] _ hx124).le ⟨leD.refl _, leD.refl _, leD.refl _, leD.nil, trivial⟩) ?_
  rcases x122 with _ | p125
  replace hm := opt_none hm
  obtain ⟨ev144, he, hk145⟩ := bd_some hm
  refine LoopY.ofL (m_moon_Moved_L3 x77 p79 x123) (fun (out130, v131) => ⟨[(0, .agg [lD 9 s.Sheets TSheet.c, lD 3 s.Roofs TRoof.c, lD 6 s.Sightings TSighting.c]), (1, DI source), (2, DI night), (3, DI known), (4, .own 0 0), (5, .ptr [DI source] 0), (8, .v (.slice none 0 0)), (9, DI 0), (10, DI x1), (11, .own 7 0), (12, .ptr [DI p79.Sheet.Source, DI p79.Sheet.Night, DI p79.Sheet.Known, DI p79.Sheet.Until, lD 5 p79.Sheet.Rows TRow.c, DI p79.Sheet.Off.Num, DI p79.Sheet.Off.Den, DI p79.Sheet.Light.Lo, DI p79.Sheet.Light.Hi, lD 3 p79.roofs TRoof.c, lD 6 p79.sightings TSighting.c, DI p79.slip.Lo.Num, DI p79.slip.Lo.Den, DB p79.slip.Open, DI p79.slip.Hi.Num, DI p79.slip.Hi.Den] 0), (13, DI x77), (14, .v (.pointer none)), (15, DI x123), (16, .row 8 1), (21, DB (x1 != 0)), (30, DB (!x7)), (58, DB ((x72.length : Int) == (s.Sightings.length : Int))), (73, DI v131)], [(0, .blk [lD 9 s.Sheets TSheet.c, lD 3 s.Roofs TRoof.c, lD 6 s.Sightings TSighting.c] 32), (4, rE 6 x72 TSighting.c 43), (6, rE 9 x70 TSheet.c 41), (7, .blk [.row 6 9, lD 3 x35 TRoof.c, .row 4 6] 32), (8, rE 1 out130 cI 3)], 9⟩) ([], 0) (SubY.of 8 rfl ⟨tR rfl, tR rfl, tR rfl, tR rfl, tR rfl, tR rfl, tR rfl, tR rfl, tR rfl, tR rfl, tR rfl, tR rfl, tR rfl, tR rfl, tR rfl, tR rfl, tR rfl, tR rfl, tR rfl, trivial⟩ ⟨hR rfl, hW rfl, hW rfl, hR rfl, ⟨rfl, rfl⟩, trivial⟩) he ?_
  rintro fu146 ⟨out130, v131⟩ b hm hi147
  revert hm
  refine VIf.b (fun h148 hm => ?_) (fun h148 hm => ?_)
  revert hm
  refine VIf.b (fun h149 hm => ?_) (fun h149 hm => ?_)
  refine ⟨([v131] : List Int).flatMap cI, ([v131] : List Int).length, ⟨rfl, rfl⟩, ?_⟩
  obtain ⟨hg, hm⟩ := gd_some hm
  refine ⟨hg, _, _, flat_app (c := cI) (l := (out130 : List Int)) (r := (([v131] : List Int) : List Int)), ?_⟩
  cases hm
  exact ⟨(_, ((out130 ++ ([v131] : List Int)), (W (v131 + 1)))), SubY.of 9 rfl ⟨tR rfl, tR rfl, tR rfl, tR rfl, tR rfl, tR rfl, tR rfl, tR rfl, tR rfl, tR rfl, tR rfl, tR rfl, tR rfl, tR rfl, tR rfl, tR rfl, tR rfl, tR rfl, tR rfl, trivial⟩ ⟨hR rfl, hW rfl, hW rfl, hR rfl, hW rfl, trivial⟩, hi147, Nat.lt_succ_self _⟩
  revert hm
  refine VIf.b (fun h150 hm => ?_) (fun h150 hm => ?_)
  obtain ⟨x151, hx152, hm⟩ := bd_some hm
  refine CallY.det (d_moon_known_above p79 v131 _ hx152) ?_
  cases hm
  cases hm
  exact ⟨(_, (out130, (W (v131 + 1)))), SubY.of 9 rfl ⟨tR rfl, tR rfl, tR rfl, tR rfl, tR rfl, tR rfl, tR rfl, tR rfl, tR rfl, tR rfl, tR rfl, tR rfl, tR rfl, tR rfl, tR rfl, tR rfl, tR rfl, tR rfl, tR rfl, trivial⟩ ⟨hR rfl, hW rfl, hW rfl, hR rfl, hW rfl, trivial⟩, hi147, Nat.lt_succ_self _⟩
  cases hm
  cases hi147
  have hm := hk145
  cases hm
  exact RetY.le (leD.refl _)
  replace hm := opt_some hm
  obtain ⟨ev182, he, hk183⟩ := bd_some hm
  refine LoopY.ofL (m_moon_Moved_L4 x77 p79 x123 p125) (fun (out160, v161, out162) => ⟨[(0, .agg [lD 9 s.Sheets TSheet.c, lD 3 s.Roofs TRoof.c, lD 6 s.Sightings TSighting.c]), (1, DI source), (2, DI night), (3, DI known), (4, .own 0 0), (5, .ptr [DI source] 0), (8, .v (.slice none 0 0)), (9, DI 0), (10, DI x1), (11, .own 7 0), (12, .ptr [DI p79.Sheet.Source, DI p79.Sheet.Night, DI p79.Sheet.Known, DI p79.Sheet.Until, lD 5 p79.Sheet.Rows TRow.c, DI p79.Sheet.Off.Num, DI p79.Sheet.Off.Den, DI p79.Sheet.Light.Lo, DI p79.Sheet.Light.Hi, lD 3 p79.roofs TRoof.c, lD 6 p79.sightings TSighting.c, DI p79.slip.Lo.Num, DI p79.slip.Lo.Den, DB p79.slip.Open, DI p79.slip.Hi.Num, DI p79.slip.Hi.Den] 0), (13, DI x77), (14, .ptr [DI p125.Sheet.Source, DI p125.Sheet.Night, DI p125.Sheet.Known, DI p125.Sheet.Until, lD 5 p125.Sheet.Rows TRow.c, DI p125.Sheet.Off.Num, DI p125.Sheet.Off.Den, DI p125.Sheet.Light.Lo, DI p125.Sheet.Light.Hi, lD 3 p125.roofs TRoof.c, lD 6 p125.sightings TSighting.c, DI p125.slip.Lo.Num, DI p125.slip.Lo.Den, DB p125.slip.Open, DI p125.slip.Hi.Num, DI p125.slip.Hi.Den] 0), (15, DI x123), (16, .row 9 1), (21, DB (x1 != 0)), (30, DB (!x7)), (58, DB ((x72.length : Int) == (s.Sightings.length : Int))), (73, DI v161)], [(0, .blk [lD 9 s.Sheets TSheet.c, lD 3 s.Roofs TRoof.c, lD 6 s.Sightings TSighting.c] 32), (7, .blk [lD 9 x70 TSheet.c, lD 3 x35 TRoof.c, lD 6 x72 TSighting.c] 32), (8, rE 1 out160 cI 3), (9, rE 1 out162 cI 3)], 10⟩) ([], 0, []) (SubY.of 8 rfl ⟨tR rfl, tR rfl, tR rfl, tR rfl, tR rfl, tR rfl, tR rfl, tR rfl, tR rfl, tR rfl, tR rfl, tR rfl, tR rfl, tR rfl, tR rfl, tR rfl, tR rfl, tR rfl, tR rfl, trivial⟩ ⟨hR rfl, hR rfl, ⟨rfl, rfl⟩, ⟨rfl, rfl⟩, trivial⟩) he ?_
  rintro fu184 ⟨out160, v161, out162⟩ b hm hi185
  revert hm
  refine VIf.b (fun h186 hm => ?_) (fun h186 hm => ?_)
  revert hm
  refine VIf.b (fun h187 hm => ?_) (fun h187 hm => ?_)
  refine ⟨([v161] : List Int).flatMap cI, ([v161] : List Int).length, ⟨rfl, rfl⟩, ?_⟩
  obtain ⟨hg, hm⟩ := gd_some hm
  refine ⟨hg, _, _, flat_app (c := cI) (l := (out162 : List Int)) (r := (([v161] : List Int) : List Int)), ?_⟩
  cases hm
  exact ⟨(_, (out160, (W (v161 + 1)), (out162 ++ ([v161] : List Int)))), SubY.of 10 rfl ⟨tR rfl, tR rfl, tR rfl, tR rfl, tR rfl, tR rfl, tR rfl, tR rfl, tR rfl, tR rfl, tR rfl, tR rfl, tR rfl, tR rfl, tR rfl, tR rfl, tR rfl, tR rfl, tR rfl, trivial⟩ ⟨hR rfl, hR rfl, hW rfl, hW rfl, trivial⟩, hi185, Nat.lt_succ_self _⟩
  revert hm
  refine VIf.b (fun h188 hm => ?_) (fun h188 hm => ?_)
  obtain ⟨x189, hx190, hm⟩ := bd_some hm
  refine CallY.det (d_moon_known_above p79 v161 _ hx190) ?_
  obtain ⟨x191, hx192, hm⟩ := bd_some hm
  refine CallY.det (d_moon_known_above p125 v161 _ hx192) ?_
  revert hm
  refine VIf.b (fun h193 hm => ?_) (fun h193 hm => ?_)
  refine ⟨([v161] : List Int).flatMap cI, ([v161] : List Int).length, ⟨rfl, rfl⟩, ?_⟩
  obtain ⟨hg, hm⟩ := gd_some hm
  refine ⟨hg, _, _, flat_app (c := cI) (l := (out162 : List Int)) (r := (([v161] : List Int) : List Int)), ?_⟩
  cases hm
  exact ⟨(_, (out160, (W (v161 + 1)), (out162 ++ ([v161] : List Int)))), SubY.of 10 rfl ⟨tR rfl, tR rfl, tR rfl, tR rfl, tR rfl, tR rfl, tR rfl, tR rfl, tR rfl, tR rfl, tR rfl, tR rfl, tR rfl, tR rfl, tR rfl, tR rfl, tR rfl, tR rfl, tR rfl, trivial⟩ ⟨hR rfl, hR rfl, hW rfl, hW rfl, trivial⟩, hi185, Nat.lt_succ_self _⟩
  cases hm
  exact ⟨(_, (out160, (W (v161 + 1)), out162)), SubY.of 10 rfl ⟨tR rfl, tR rfl, tR rfl, tR rfl, tR rfl, tR rfl, tR rfl, tR rfl, tR rfl, tR rfl, tR rfl, tR rfl, tR rfl, tR rfl, tR rfl, tR rfl, tR rfl, tR rfl, tR rfl, trivial⟩ ⟨hR rfl, hR rfl, hW rfl, hW rfl, trivial⟩, hi185, Nat.lt_succ_self _⟩
  cases hm
  exact ⟨(_, (out160, (W (v161 + 1)), out162)), SubY.of 10 rfl ⟨tR rfl, tR rfl, tR rfl, tR rfl, tR rfl, tR rfl, tR rfl, tR rfl, tR rfl, tR rfl, tR rfl, tR rfl, tR rfl, tR rfl, tR rfl, tR rfl, tR rfl, tR rfl, tR rfl, trivial⟩ ⟨hR rfl, hR rfl, hW rfl, hW rfl, trivial⟩, hi185, Nat.lt_succ_self _⟩
  cases hm
  cases hi185
  have hm := hk183
  cases hm
  exact RetY.le (leD.refl _)
  obtain ⟨⟨x194, x195⟩, hx196, hm⟩ := bd_some hm
  refine CallY.det ((d_moon_clearly s night known [] _ hx196).le ⟨leD.refl _, leD.refl _, leD.refl _, leD.nil, trivial⟩) ?_
  rcases x194 with _ | p197
  replace hm := opt_none hm
  obtain ⟨⟨x198, x199⟩, hx200, hm⟩ := bd_some hm
  refine CallOwn.det ((d_moon_clearly ((⟨x70, x35, x72⟩ : TSky)) night known [] _ hx200).le ⟨leD.refl _, leD.refl _, leD.refl _, leD.nil, trivial⟩) ?_
  rcases x198 with _ | p201
  replace hm := opt_none hm
  obtain ⟨ev214, he, hk215⟩ := bd_some hm
  refine LoopY.ofL (m_moon_Moved_L1 x195 x199) (fun (out204, v205) => ⟨[(0, .agg [lD 9 s.Sheets TSheet.c, lD 3 s.Roofs TRoof.c, lD 6 s.Sightings TSighting.c]), (1, DI source), (2, DI night), (3, DI known), (4, .own 0 0), (5, .ptr [DI source] 0), (8, .v (.slice none 0 0)), (9, DI 0), (10, DI x1), (11, .own 7 0), (12, .v (.pointer none)), (13, DI x195), (14, .v (.pointer none)), (15, DI x199), (16, .row 8 1), (21, DB (x1 != 0)), (30, DB (!x7)), (58, DB false), (73, DI v205)], [(0, .blk [lD 9 s.Sheets TSheet.c, lD 3 s.Roofs TRoof.c, lD 6 s.Sightings TSighting.c] 32), (4, rE 6 x72 TSighting.c 43), (6, rE 9 x70 TSheet.c 41), (7, .blk [.row 6 9, lD 3 x35 TRoof.c, .row 4 6] 32), (8, rE 1 out204 cI 3)], 9⟩) ([], 0) (SubY.of 8 rfl ⟨tR rfl, tR rfl, tR rfl, tR rfl, tR rfl, tR rfl, tR rfl, tR rfl, tR rfl, tR rfl, tR rfl, tR rfl, tR rfl, tR rfl, tR rfl, tR rfl, tR rfl, tR rfl, tR rfl, trivial⟩ ⟨hR rfl, hW rfl, hW rfl, hR rfl, ⟨rfl, rfl⟩, trivial⟩) he ?_
  rintro fu216 ⟨out204, v205⟩ b hm hi217
  revert hm
  refine VIf.b (fun h218 hm => ?_) (fun h218 hm => ?_)
  revert hm
  refine VIf.b (fun h219 hm => ?_) (fun h219 hm => ?_)
  refine ⟨([v205] : List Int).flatMap cI, ([v205] : List Int).length, ⟨rfl, rfl⟩, ?_⟩
  obtain ⟨hg, hm⟩ := gd_some hm
  refine ⟨hg, _, _, flat_app (c := cI) (l := (out204 : List Int)) (r := (([v205] : List Int) : List Int)), ?_⟩
  cases hm
  exact ⟨(_, ((out204 ++ ([v205] : List Int)), (W (v205 + 1)))), SubY.of 9 rfl ⟨tR rfl, tR rfl, tR rfl, tR rfl, tR rfl, tR rfl, tR rfl, tR rfl, tR rfl, tR rfl, tR rfl, tR rfl, tR rfl, tR rfl, tR rfl, tR rfl, tR rfl, tR rfl, tR rfl, trivial⟩ ⟨hR rfl, hW rfl, hW rfl, hR rfl, hW rfl, trivial⟩, hi217, Nat.lt_succ_self _⟩
  revert hm
  refine VIf.b (fun h220 hm => ?_) (fun h220 hm => ?_)
  cases hm
  cases hm
  exact ⟨(_, (out204, (W (v205 + 1)))), SubY.of 9 rfl ⟨tR rfl, tR rfl, tR rfl, tR rfl, tR rfl, tR rfl, tR rfl, tR rfl, tR rfl, tR rfl, tR rfl, tR rfl, tR rfl, tR rfl, tR rfl, tR rfl, tR rfl, tR rfl, tR rfl, trivial⟩ ⟨hR rfl, hW rfl, hW rfl, hR rfl, hW rfl, trivial⟩, hi217, Nat.lt_succ_self _⟩
  cases hm
  cases hi217
  have hm := hk215
  cases hm
  exact RetY.le (leD.refl _)
  replace hm := opt_some hm
  obtain ⟨ev233, he, hk234⟩ := bd_some hm
  refine LoopY.ofL (m_moon_Moved_L1 x195 x199) (fun (out223, v224) => ⟨[(0, .agg [lD 9 s.Sheets TSheet.c, lD 3 s.Roofs TRoof.c, lD 6 s.Sightings TSighting.c]), (1, DI source), (2, DI night), (3, DI known), (4, .own 0 0), (5, .ptr [DI source] 0), (8, .v (.slice none 0 0)), (9, DI 0), (10, DI x1), (11, .own 7 0), (12, .v (.pointer none)), (13, DI x195), (14, .ptr [DI p201.Sheet.Source, DI p201.Sheet.Night, DI p201.Sheet.Known, DI p201.Sheet.Until, lD 5 p201.Sheet.Rows TRow.c, DI p201.Sheet.Off.Num, DI p201.Sheet.Off.Den, DI p201.Sheet.Light.Lo, DI p201.Sheet.Light.Hi, lD 3 p201.roofs TRoof.c, lD 6 p201.sightings TSighting.c, DI p201.slip.Lo.Num, DI p201.slip.Lo.Den, DB p201.slip.Open, DI p201.slip.Hi.Num, DI p201.slip.Hi.Den] 0), (15, DI x199), (16, .row 8 1), (21, DB (x1 != 0)), (30, DB (!x7)), (58, DB false), (73, DI v224)], [(0, .blk [lD 9 s.Sheets TSheet.c, lD 3 s.Roofs TRoof.c, lD 6 s.Sightings TSighting.c] 32), (7, .blk [lD 9 x70 TSheet.c, lD 3 x35 TRoof.c, lD 6 x72 TSighting.c] 32), (8, rE 1 out223 cI 3)], 9⟩) ([], 0) (SubY.of 8 rfl ⟨tR rfl, tR rfl, tR rfl, tR rfl, tR rfl, tR rfl, tR rfl, tR rfl, tR rfl, tR rfl, tR rfl, tR rfl, tR rfl, tR rfl, tR rfl, tR rfl, tR rfl, tR rfl, tR rfl, trivial⟩ ⟨hR rfl, hR rfl, ⟨rfl, rfl⟩, trivial⟩) he ?_
  rintro fu235 ⟨out223, v224⟩ b hm hi236
  revert hm
  refine VIf.b (fun h237 hm => ?_) (fun h237 hm => ?_)
  revert hm
  refine VIf.b (fun h238 hm => ?_) (fun h238 hm => ?_)
  refine ⟨([v224] : List Int).flatMap cI, ([v224] : List Int).length, ⟨rfl, rfl⟩, ?_⟩
  obtain ⟨hg, hm⟩ := gd_some hm
  refine ⟨hg, _, _, flat_app (c := cI) (l := (out223 : List Int)) (r := (([v224] : List Int) : List Int)), ?_⟩
  cases hm
  exact ⟨(_, ((out223 ++ ([v224] : List Int)), (W (v224 + 1)))), SubY.of 9 rfl ⟨tR rfl, tR rfl, tR rfl, tR rfl, tR rfl, tR rfl, tR rfl, tR rfl, tR rfl, tR rfl, tR rfl, tR rfl, tR rfl, tR rfl, tR rfl, tR rfl, tR rfl, tR rfl, tR rfl, trivial⟩ ⟨hR rfl, hR rfl, hW rfl, trivial⟩, hi236, Nat.lt_succ_self _⟩
  revert hm
  refine VIf.b (fun h239 hm => ?_) (fun h239 hm => ?_)
  cases hm
  cases hm
  exact ⟨(_, (out223, (W (v224 + 1)))), SubY.of 9 rfl ⟨tR rfl, tR rfl, tR rfl, tR rfl, tR rfl, tR rfl, tR rfl, tR rfl, tR rfl, tR rfl, tR rfl, tR rfl, tR rfl, tR rfl, tR rfl, tR rfl, tR rfl, tR rfl, tR rfl, trivial⟩ ⟨hR rfl, hR rfl, hW rfl, trivial⟩, hi236, Nat.lt_succ_self _⟩
  cases hm
  cases hi236
  have hm := hk234
  cases hm
  exact RetY.le (leD.refl _)
  replace hm := opt_some hm
  obtain ⟨⟨x240, x241⟩, hx242, hm⟩ := bd_some hm
  refine CallOwn.det ((d_moon_clearly ((⟨x70, x35, x72⟩ : TSky)) night known [] _ hx242).le ⟨leD.refl _, leD.refl _, leD.refl _, leD.nil, trivial⟩) ?_
  rcases x240 with _ | p243
  replace hm := opt_none hm
  obtain ⟨ev262, he, hk263⟩ := bd_some hm
  refine LoopY.ofL (m_moon_Moved_L3 x195 p197 x241) (fun (out248, v249) => ⟨[(0, .agg [lD 9 s.Sheets TSheet.c, lD 3 s.Roofs TRoof.c, lD 6 s.Sightings TSighting.c]), (1, DI source), (2, DI night), (3, DI known), (4, .own 0 0), (5, .ptr [DI source] 0), (8, .v (.slice none 0 0)), (9, DI 0), (10, DI x1), (11, .own 7 0), (12, .ptr [DI p197.Sheet.Source, DI p197.Sheet.Night, DI p197.Sheet.Known, DI p197.Sheet.Until, lD 5 p197.Sheet.Rows TRow.c, DI p197.Sheet.Off.Num, DI p197.Sheet.Off.Den, DI p197.Sheet.Light.Lo, DI p197.Sheet.Light.Hi, lD 3 p197.roofs TRoof.c, lD 6 p197.sightings TSighting.c, DI p197.slip.Lo.Num, DI p197.slip.Lo.Den, DB p197.slip.Open, DI p197.slip.Hi.Num, DI p197.slip.Hi.Den] 0), (13, DI x195), (14, .v (.pointer none)), (15, DI x241), (16, .row 8 1), (21, DB (x1 != 0)), (30, DB (!x7)), (58, DB false), (73, DI v249)], [(0, .blk [lD 9 s.Sheets TSheet.c, lD 3 s.Roofs TRoof.c, lD 6 s.Sightings TSighting.c] 32), (4, rE 6 x72 TSighting.c 43), (6, rE 9 x70 TSheet.c 41), (7, .blk [.row 6 9, lD 3 x35 TRoof.c, .row 4 6] 32), (8, rE 1 out248 cI 3)], 9⟩) ([], 0) (SubY.of 8 rfl ⟨tR rfl, tR rfl, tR rfl, tR rfl, tR rfl, tR rfl, tR rfl, tR rfl, tR rfl, tR rfl, tR rfl, tR rfl, tR rfl, tR rfl, tR rfl, tR rfl, tR rfl, tR rfl, tR rfl, trivial⟩ ⟨hR rfl, hW rfl, hW rfl, hR rfl, ⟨rfl, rfl⟩, trivial⟩) he ?_
  rintro fu264 ⟨out248, v249⟩ b hm hi265
  revert hm
  refine VIf.b (fun h266 hm => ?_) (fun h266 hm => ?_)
  revert hm
  refine VIf.b (fun h267 hm => ?_) (fun h267 hm => ?_)
  refine ⟨([v249] : List Int).flatMap cI, ([v249] : List Int).length, ⟨rfl, rfl⟩, ?_⟩
  obtain ⟨hg, hm⟩ := gd_some hm
  refine ⟨hg, _, _, flat_app (c := cI) (l := (out248 : List Int)) (r := (([v249] : List Int) : List Int)), ?_⟩
  cases hm
  exact ⟨(_, ((out248 ++ ([v249] : List Int)), (W (v249 + 1)))), SubY.of 9 rfl ⟨tR rfl, tR rfl, tR rfl, tR rfl, tR rfl, tR rfl, tR rfl, tR rfl, tR rfl, tR rfl, tR rfl, tR rfl, tR rfl, tR rfl, tR rfl, tR rfl, tR rfl, tR rfl, tR rfl, trivial⟩ ⟨hR rfl, hW rfl, hW rfl, hR rfl, hW rfl, trivial⟩, hi265, Nat.lt_succ_self _⟩
  revert hm
  refine VIf.b (fun h268 hm => ?_) (fun h268 hm => ?_)
  obtain ⟨x269, hx270, hm⟩ := bd_some hm
  refine CallY.det (d_moon_known_above p197 v249 _ hx270) ?_
  cases hm
  cases hm
  exact ⟨(_, (out248, (W (v249 + 1)))), SubY.of 9 rfl ⟨tR rfl, tR rfl, tR rfl, tR rfl, tR rfl, tR rfl, tR rfl, tR rfl, tR rfl, tR rfl, tR rfl, tR rfl, tR rfl, tR rfl, tR rfl, tR rfl, tR rfl, tR rfl, tR rfl, trivial⟩ ⟨hR rfl, hW rfl, hW rfl, hR rfl, hW rfl, trivial⟩, hi265, Nat.lt_succ_self _⟩
  cases hm
  cases hi265
  have hm := hk263
  cases hm
  exact RetY.le (leD.refl _)
  replace hm := opt_some hm
  obtain ⟨ev300, he, hk301⟩ := bd_some hm
  refine LoopY.ofL (m_moon_Moved_L4 x195 p197 x241 p243) (fun (out278, v279, out280) => ⟨[(0, .agg [lD 9 s.Sheets TSheet.c, lD 3 s.Roofs TRoof.c, lD 6 s.Sightings TSighting.c]), (1, DI source), (2, DI night), (3, DI known), (4, .own 0 0), (5, .ptr [DI source] 0), (8, .v (.slice none 0 0)), (9, DI 0), (10, DI x1), (11, .own 7 0), (12, .ptr [DI p197.Sheet.Source, DI p197.Sheet.Night, DI p197.Sheet.Known, DI p197.Sheet.Until, lD 5 p197.Sheet.Rows TRow.c, DI p197.Sheet.Off.Num, DI p197.Sheet.Off.Den, DI p197.Sheet.Light.Lo, DI p197.Sheet.Light.Hi, lD 3 p197.roofs TRoof.c, lD 6 p197.sightings TSighting.c, DI p197.slip.Lo.Num, DI p197.slip.Lo.Den, DB p197.slip.Open, DI p197.slip.Hi.Num, DI p197.slip.Hi.Den] 0), (13, DI x195), (14, .ptr [DI p243.Sheet.Source, DI p243.Sheet.Night, DI p243.Sheet.Known, DI p243.Sheet.Until, lD 5 p243.Sheet.Rows TRow.c, DI p243.Sheet.Off.Num, DI p243.Sheet.Off.Den, DI p243.Sheet.Light.Lo, DI p243.Sheet.Light.Hi, lD 3 p243.roofs TRoof.c, lD 6 p243.sightings TSighting.c, DI p243.slip.Lo.Num, DI p243.slip.Lo.Den, DB p243.slip.Open, DI p243.slip.Hi.Num, DI p243.slip.Hi.Den] 0), (15, DI x241), (16, .row 9 1), (21, DB (x1 != 0)), (30, DB (!x7)), (58, DB false), (73, DI v279)], [(0, .blk [lD 9 s.Sheets TSheet.c, lD 3 s.Roofs TRoof.c, lD 6 s.Sightings TSighting.c] 32), (7, .blk [lD 9 x70 TSheet.c, lD 3 x35 TRoof.c, lD 6 x72 TSighting.c] 32), (8, rE 1 out278 cI 3), (9, rE 1 out280 cI 3)], 10⟩) ([], 0, []) (SubY.of 8 rfl ⟨tR rfl, tR rfl, tR rfl, tR rfl, tR rfl, tR rfl, tR rfl, tR rfl, tR rfl, tR rfl, tR rfl, tR rfl, tR rfl, tR rfl, tR rfl, tR rfl, tR rfl, tR rfl, tR rfl, trivial⟩ ⟨hR rfl, hR rfl, ⟨rfl, rfl⟩, ⟨rfl, rfl⟩, trivial⟩) he ?_
  rintro fu302 ⟨out278, v279, out280⟩ b hm hi303
  revert hm
  refine VIf.b (fun h304 hm => ?_) (fun h304 hm => ?_)
  revert hm
  refine VIf.b (fun h305 hm => ?_) (fun h305 hm => ?_)
  refine ⟨([v279] : List Int).flatMap cI, ([v279] : List Int).length, ⟨rfl, rfl⟩, ?_⟩
  obtain ⟨hg, hm⟩ := gd_some hm
  refine ⟨hg, _, _, flat_app (c := cI) (l := (out280 : List Int)) (r := (([v279] : List Int) : List Int)), ?_⟩
  cases hm
  exact ⟨(_, (out278, (W (v279 + 1)), (out280 ++ ([v279] : List Int)))), SubY.of 10 rfl ⟨tR rfl, tR rfl, tR rfl, tR rfl, tR rfl, tR rfl, tR rfl, tR rfl, tR rfl, tR rfl, tR rfl, tR rfl, tR rfl, tR rfl, tR rfl, tR rfl, tR rfl, tR rfl, tR rfl, trivial⟩ ⟨hR rfl, hR rfl, hW rfl, hW rfl, trivial⟩, hi303, Nat.lt_succ_self _⟩
  revert hm
  refine VIf.b (fun h306 hm => ?_) (fun h306 hm => ?_)
  obtain ⟨x307, hx308, hm⟩ := bd_some hm
  refine CallY.det (d_moon_known_above p197 v279 _ hx308) ?_
  obtain ⟨x309, hx310, hm⟩ := bd_some hm
  refine CallY.det (d_moon_known_above p243 v279 _ hx310) ?_
  revert hm
  refine VIf.b (fun h311 hm => ?_) (fun h311 hm => ?_)
  refine ⟨([v279] : List Int).flatMap cI, ([v279] : List Int).length, ⟨rfl, rfl⟩, ?_⟩
  obtain ⟨hg, hm⟩ := gd_some hm
  refine ⟨hg, _, _, flat_app (c := cI) (l := (out280 : List Int)) (r := (([v279] : List Int) : List Int)), ?_⟩
  cases hm
  exact ⟨(_, (out278, (W (v279 + 1)), (out280 ++ ([v279] : List Int)))), SubY.of 10 rfl ⟨tR rfl, tR rfl, tR rfl, tR rfl, tR rfl, tR rfl, tR rfl, tR rfl, tR rfl, tR rfl, tR rfl, tR rfl, tR rfl, tR rfl, tR rfl, tR rfl, tR rfl, tR rfl, tR rfl, trivial⟩ ⟨hR rfl, hR rfl, hW rfl, hW rfl, trivial⟩, hi303, Nat.lt_succ_self _⟩
  cases hm
  exact ⟨(_, (out278, (W (v279 + 1)), out280)), SubY.of 10 rfl ⟨tR rfl, tR rfl, tR rfl, tR rfl, tR rfl, tR rfl, tR rfl, tR rfl, tR rfl, tR rfl, tR rfl, tR rfl, tR rfl, tR rfl, tR rfl, tR rfl, tR rfl, tR rfl, tR rfl, trivial⟩ ⟨hR rfl, hR rfl, hW rfl, hW rfl, trivial⟩, hi303, Nat.lt_succ_self _⟩
  cases hm
  exact ⟨(_, (out278, (W (v279 + 1)), out280)), SubY.of 10 rfl ⟨tR rfl, tR rfl, tR rfl, tR rfl, tR rfl, tR rfl, tR rfl, tR rfl, tR rfl, tR rfl, tR rfl, tR rfl, tR rfl, tR rfl, tR rfl, tR rfl, tR rfl, tR rfl, tR rfl, trivial⟩ ⟨hR rfl, hR rfl, hW rfl, hW rfl, trivial⟩, hi303, Nat.lt_succ_self _⟩
  cases hm
  cases hi303
  have hm := hk301
  cases hm
  exact RetY.le (leD.refl _)

def m_R02_told_L1 : (Int × (List Int)) → Option (Sum (Int × (List Int)) (Int × (List Int))) := fun (t10, v11) =>
  if (decide (t10 < (v11.length : Int))) = true then
    Option.bind (idx v11 t10) fun e18 =>
    Option.bind (idx v11 t10) fun e20 =>
    some (.inl ((W (t10 + 1)), (v11.set t10.toNat 25)))
  else
    some (.inr (t10, v11))
def m_R02_told_L2 (s : TSky) (x33 : TSlip) (x34 : TSheet) (x35 : Int) : (Int × (List Int)) → Option (Sum (Int × (List Int)) (Int × (List Int))) := fun (t51, v52) =>
  if (decide (t51 < (v52.length : Int))) = true then
    if (x35 != 0) = true then
      Option.bind (idx v52 t51) fun e69 =>
      Option.bind (idx v52 t51) fun e71 =>
      some (.inl ((W (t51 + 1)), (v52.set t51.toNat x35)))
    else
      Option.bind (m_R02_margin x34 s.Roofs t51) fun x73 =>
      Option.bind (m_R02_above x33 x73) fun x75 =>
      Option.bind (idx v52 t51) fun e77 =>
      Option.bind (idx v52 t51) fun e79 =>
      some (.inl ((W (t51 + 1)), (v52.set t51.toNat x75)))
  else
    some (.inr (t51, v52))
def m_R02_told (s : TSky) (at_ : (Int × Int)) : Option (List Int) :=
  Option.bind (some (List.replicate 1440 0)) fun mk1 =>
  Option.bind (m_R02_inForce s at_.1 at_.2) fun x2 =>
  if (decide (x2 < 0)) = true then
    Option.bind (loopF m_R02_told_L1 (0, mk1)) fun (t22, v23) =>
    some v23
  else
    Option.bind (m_R02_slipOf s at_) fun ⟨x33, x34, x35⟩ =>
    Option.bind (loopF (m_R02_told_L2 s x33 x34 x35) (0, mk1)) fun (t81, v82) =>
    some v82
theorem d_R02_told (s : TSky) (at_ : (Int × Int)) (r : (List Int)) (hm : m_R02_told s at_ = some r) : Does Try.prog 106 [.agg (TSky.c s), .agg [DI at_.1, DI at_.2]] (fun x => x = lD 1 r cI) := by
  refine does_zy (X := ⟨Try.prog, tt, Try.f106.ntmps, pl106, [], [], [], [99], []⟩) pok _ Try.func106 rfl rfl (Nat.le_of_ble_eq_true rfl) ?_
  obtain ⟨mk1, hy, hm⟩ := bd_some hm
  refine ⟨by decide, _, _, rep_rowx (c := cI) (fun _ => rfl) (x := 0) hy rfl, ?_⟩
  clear hy
  refine ⟨by decide, ?_⟩
  refine ⟨by decide, ?_⟩
  obtain ⟨x2, hx3, hm⟩ := bd_some hm
  refine CallY.det (d_R02_inForce s at_.1 at_.2 _ hx3) ?_
  revert hm
  refine VIf.b (fun h4 hm => ?_) (fun h4 hm => ?_)
  obtain ⟨ev24, he, hk25⟩ := bd_some hm
  refine LoopY.ofL m_R02_told_L1 (fun (t10, v11) => ⟨[(0, .agg [lD 9 s.Sheets TSheet.c, lD 3 s.Roofs TRoof.c, lD 6 s.Sightings TSighting.c]), (1, .agg [DI at_.1, DI at_.2]), (2, .own 0 0), (3, .own 1 0), (4, .v (.slice none 0 0)), (5, .row 2 1), (6, DI t10), (18, DB (decide (x2 < 0)))], [(0, .blk [lD 9 s.Sheets TSheet.c, lD 3 s.Roofs TRoof.c, lD 6 s.Sightings TSighting.c] 32), (1, .blk [DI at_.1, DI at_.2] 95), (2, rE 1 v11 cI 3)], 3⟩) (0, mk1) (SubY.of 3 rfl ⟨tR rfl, tR rfl, tR rfl, tR rfl, tR rfl, tR rfl, tR rfl, tR rfl, trivial⟩ ⟨hR rfl, hR rfl, hW rfl, trivial⟩) he ?_
  rintro fu26 ⟨t10, v11⟩ b hm hi27
  revert hm
  refine VIf.b (fun h28 hm => ?_) (fun h28 hm => ?_)
  obtain ⟨e29, hx30, hm⟩ := bd_some hm
  refine ⟨idx_bd hx30, ?_⟩
  obtain ⟨e31, hx32, hm⟩ := bd_some hm
  refine ⟨_, el_row (fun _ => rfl) hx32, _, set_row (y := 25) (fun _ => rfl) hx32, ?_⟩
  cases hm
  exact ⟨(_, ((W (t10 + 1)), (v11.set t10.toNat 25))), SubY.of 3 rfl ⟨tR rfl, tR rfl, tR rfl, tR rfl, tR rfl, tR rfl, tR rfl, tR rfl, trivial⟩ ⟨hR rfl, hR rfl, hW rfl, trivial⟩, hi27, Nat.lt_succ_self _⟩
  cases hm
  cases hi27
  have hm := hk25
  cases hm
  exact RetY.le (leD.refl _)
  obtain ⟨⟨x33, x34, x35⟩, hx36, hm⟩ := bd_some hm
  refine CallY.det (d_R02_slipOf s at_ _ hx36) ?_
  obtain ⟨ev83, he, hk84⟩ := bd_some hm
  refine LoopY.ofL (m_R02_told_L2 s x33 x34 x35) (fun (t51, v52) => ⟨[(0, .agg [lD 9 s.Sheets TSheet.c, lD 3 s.Roofs TRoof.c, lD 6 s.Sightings TSighting.c]), (1, .agg [DI at_.1, DI at_.2]), (2, .own 0 0), (3, .own 1 0), (4, .v (.slice none 0 0)), (5, .row 2 1), (7, .own 3 0), (8, .own 4 0), (9, DI x35), (10, DI t51), (18, DB (decide (x2 < 0)))], [(0, .blk [lD 9 s.Sheets TSheet.c, lD 3 s.Roofs TRoof.c, lD 6 s.Sightings TSighting.c] 32), (1, .blk [DI at_.1, DI at_.2] 95), (2, rE 1 v52 cI 3), (3, .blk [DI x33.Lo.Num, DI x33.Lo.Den, DB x33.Open, DI x33.Hi.Num, DI x33.Hi.Den] 48), (4, .blk [DI x34.Source, DI x34.Night, DI x34.Known, DI x34.Until, lD 5 x34.Rows TRow.c, DI x34.Off.Num, DI x34.Off.Den, DI x34.Light.Lo, DI x34.Light.Hi] 41)], 5⟩) (0, mk1) (SubY.of 5 rfl ⟨tR rfl, tR rfl, tR rfl, tR rfl, tR rfl, tR rfl, tR rfl, tR rfl, tR rfl, tR rfl, tR rfl, trivial⟩ ⟨hR rfl, hR rfl, hW rfl, hR rfl, hR rfl, trivial⟩) he ?_
  rintro fu85 ⟨t51, v52⟩ b hm hi86
  revert hm
  refine VIf.b (fun h87 hm => ?_) (fun h87 hm => ?_)
  revert hm
  refine VIf.b (fun h88 hm => ?_) (fun h88 hm => ?_)
  obtain ⟨e89, hx90, hm⟩ := bd_some hm
  refine ⟨idx_bd hx90, ?_⟩
  obtain ⟨e91, hx92, hm⟩ := bd_some hm
  refine ⟨_, el_row (fun _ => rfl) hx92, _, set_row (y := x35) (fun _ => rfl) hx92, ?_⟩
  cases hm
  exact ⟨(_, ((W (t51 + 1)), (v52.set t51.toNat x35))), SubY.of 5 rfl ⟨tR rfl, tR rfl, tR rfl, tR rfl, tR rfl, tR rfl, tR rfl, tR rfl, tR rfl, tR rfl, tR rfl, trivial⟩ ⟨hR rfl, hR rfl, hW rfl, hR rfl, hR rfl, trivial⟩, hi86, Nat.lt_succ_self _⟩
  refine ⟨rfl, ?_⟩
  obtain ⟨x93, hx94, hm⟩ := bd_some hm
  refine CallY.det (d_R02_margin x34 s.Roofs t51 _ hx94) ?_
  obtain ⟨x95, hx96, hm⟩ := bd_some hm
  refine CallY.det (d_R02_above x33 x93 _ hx96) ?_
  obtain ⟨e97, hx98, hm⟩ := bd_some hm
  refine ⟨idx_bd hx98, ?_⟩
  obtain ⟨e99, hx100, hm⟩ := bd_some hm
  refine ⟨_, el_row (fun _ => rfl) hx100, _, set_row (y := x95) (fun _ => rfl) hx100, ?_⟩
  cases hm
  exact ⟨(_, ((W (t51 + 1)), (v52.set t51.toNat x95))), SubY.of 5 rfl ⟨tR rfl, tR rfl, tR rfl, tR rfl, tR rfl, tR rfl, tR rfl, tR rfl, tR rfl, tR rfl, tR rfl, trivial⟩ ⟨hR rfl, hR rfl, hW rfl, hR rfl, hR rfl, trivial⟩, hi86, Nat.lt_succ_self _⟩
  cases hm
  cases hi86
  have hm := hk84
  cases hm
  exact RetY.le (leD.refl _)

def m_R02_Moved_L1 (s : TSky) (source : Int) : (Int × (List TSheet)) → Option (Sum (Int × (List TSheet)) (Int × (List TSheet))) := fun (i16, v17) =>
  if (decide (i16 < (s.Sheets.length : Int))) = true then
    Option.bind (idx s.Sheets i16) fun e25 =>
    if (e25.Source != source) = true then
      Option.bind (idx s.Sheets i16) fun e28 =>
      gd ((v17.length + ([e28] : List TSheet).length) * 88 ≤ 140737488355328 ∧ v17.length + ([e28] : List TSheet).length ≤ 9223372036854775807) <|
      some (.inl ((W (i16 + 1)), (v17 ++ ([e28] : List TSheet))))
    else
      some (.inl ((W (i16 + 1)), v17))
  else
    some (.inr (i16, v17))
def m_R02_Moved_L2 (s : TSky) (source : Int) : (Int × (List TSighting)) → Option (Sum (Int × (List TSighting)) (Int × (List TSighting))) := fun (i38, v39) =>
  if (decide (i38 < (s.Sightings.length : Int))) = true then
    Option.bind (idx s.Sightings i38) fun e47 =>
    if (e47.Source != source) = true then
      Option.bind (idx s.Sightings i38) fun e50 =>
      gd ((v39.length + ([e50] : List TSighting).length) * 48 ≤ 140737488355328 ∧ v39.length + ([e50] : List TSighting).length ≤ 9223372036854775807) <|
      some (.inl ((W (i38 + 1)), (v39 ++ ([e50] : List TSighting))))
    else
      some (.inl ((W (i38 + 1)), v39))
  else
    some (.inr (i38, v39))
def m_R02_Moved_L3 (x56 : (List Int)) (x58 : (List Int)) : ((List Int) × Int) → Option (Sum ((List Int) × Int) ((List Int) × Int)) := fun (out66, t67) =>
  if (decide (t67 < (x56.length : Int))) = true then
    Option.bind (idx x56 t67) fun e75 =>
    Option.bind (idx x58 t67) fun e77 =>
    if (e75 != e77) = true then
      gd ((out66.length + ([t67] : List Int).length) * 8 ≤ 140737488355328 ∧ out66.length + ([t67] : List Int).length ≤ 9223372036854775807) <|
      some (.inl ((out66 ++ ([t67] : List Int)), (W (t67 + 1))))
    else
      some (.inl (out66, (W (t67 + 1))))
  else
    some (.inr (out66, t67))
def m_R02_Moved (s : TSky) (source : Int) (at_ : (Int × Int)) : Option ((List Int) × Int) :=
  Option.bind (m_R02_Check s) fun x1 =>
  if (x1 != 0) = true then
    some ([], 24)
  else
    Option.bind (m_R02_isNight at_.1) fun x4 =>
    if (!x4) = true then
      some ([], 6)
    else
      Option.bind (m_R02_isNight at_.2) fun x7 =>
      if (!x7) = true then
        some ([], 6)
      else
        Option.bind (loopF (m_R02_Moved_L1 s source) (0, [])) fun (i30, v31) =>
        Option.bind (loopF (m_R02_Moved_L2 s source) (0, [])) fun (i52, v53) =>
        if ((v31.length : Int) == (s.Sheets.length : Int)) = true then
          if ((v53.length : Int) == (s.Sightings.length : Int)) = true then
            some ([], 3)
          else
            Option.bind (m_R02_told s at_) fun x56 =>
            Option.bind (m_R02_told (⟨v31, s.Roofs, v53⟩ : TSky) at_) fun x58 =>
            Option.bind (loopF (m_R02_Moved_L3 x56 x58) ([], 0)) fun (out80, t81) =>
            some (out80, 0)
        else
          Option.bind (m_R02_told s at_) fun x92 =>
          Option.bind (m_R02_told (⟨v31, s.Roofs, v53⟩ : TSky) at_) fun x94 =>
          Option.bind (loopF (m_R02_Moved_L3 x92 x94) ([], 0)) fun (out116, t117) =>
          some (out116, 0)
theorem d_R02_Moved (s : TSky) (source : Int) (at_ : (Int × Int)) (r : ((List Int) × Int)) (hm : m_R02_Moved s source at_ = some r) : Does Try.prog 52 [.agg (TSky.c s), DI source, .agg [DI at_.1, DI at_.2]] (fun x => x = .tup [lD 1 r.1 cI, DI r.2]) := by
  refine does_zy (X := ⟨Try.prog, tt, Try.f52.ntmps, pl52, [], [], [], [99], []⟩) pok _ Try.func52 rfl rfl (Nat.le_of_ble_eq_true rfl) ?_
  obtain ⟨x1, hx2, hm⟩ := bd_some hm
  refine CallY.det (d_R02_Check s _ hx2) ?_
  revert hm
  refine VIf.b (fun h3 hm => ?_) (fun h3 hm => ?_)
  cases hm
  exact RetY.le (⟨_, rfl, ⟨leD.nil, leD.refl _, trivial⟩⟩)
  refine ⟨by decide, ?_⟩
  obtain ⟨x4, hx5, hm⟩ := bd_some hm
  refine CallY.det (d_R02_isNight at_.1 _ hx5) ?_
  revert hm
  refine VIf.b (fun h6 hm => ?_) (fun h6 hm => ?_)
  cases hm
  exact RetY.le (⟨_, rfl, ⟨leD.nil, leD.refl _, trivial⟩⟩)
  refine ⟨by decide, ?_⟩
  obtain ⟨x7, hx8, hm⟩ := bd_some hm
  refine CallY.det (d_R02_isNight at_.2 _ hx8) ?_
  revert hm
  refine VIf.b (fun h9 hm => ?_) (fun h9 hm => ?_)
  cases hm
  exact RetY.le (⟨_, rfl, ⟨leD.nil, leD.refl _, trivial⟩⟩)
  obtain ⟨ev212, he, hk213⟩ := bd_some hm
  refine LoopY.ofL (m_R02_Moved_L1 s source) (fun (i16, v17) => ⟨[(0, .agg [lD 9 s.Sheets TSheet.c, lD 3 s.Roofs TRoof.c, lD 6 s.Sightings TSighting.c]), (1, DI source), (2, .agg [DI at_.1, DI at_.2]), (3, .own 0 0), (5, .own 1 0), (6, .v (.slice none 0 0)), (7, DI 0), (8, .own 2 0), (9, DI i16), (17, DB (x1 != 0)), (27, DB (!x7))], [(0, .blk [lD 9 s.Sheets TSheet.c, lD 3 s.Roofs TRoof.c, lD 6 s.Sightings TSighting.c] 32), (1, .blk [DI at_.1, DI at_.2] 95), (2, .blk [.row 3 9, lD 3 s.Roofs TRoof.c, .v (.slice none 0 0)] 32), (3, rE 9 v17 TSheet.c 41)], 4⟩) (0, []) (SubY.of 3 rfl ⟨tR rfl, tR rfl, tR rfl, tR rfl, tR rfl, tR rfl, tR rfl, tR rfl, tR rfl, tR rfl, tR rfl, trivial⟩ ⟨hR rfl, hR rfl, hR rfl, ⟨rfl, rfl⟩, trivial⟩) he ?_
  rintro fu214 ⟨i16, v17⟩ b hm hi215
  revert hm
  refine VIf.b (fun h216 hm => ?_) (fun h216 hm => ?_)
  obtain ⟨e217, hx218, hm⟩ := bd_some hm
  refine ⟨_, el_idx (fun _ => rfl) hx218, ?_⟩
  revert hm
  refine VIf.b (fun h219 hm => ?_) (fun h219 hm => ?_)
  refine ⟨rfl, ?_⟩
  obtain ⟨e220, hx221, hm⟩ := bd_some hm
  refine ⟨_, el_idx (fun _ => rfl) hx221, ?_⟩
  refine ⟨([e220] : List TSheet).flatMap TSheet.c, ([e220] : List TSheet).length, ⟨rfl, rfl⟩, ?_⟩
  obtain ⟨hg, hm⟩ := gd_some hm
  refine ⟨hg, _, _, flat_app (c := TSheet.c) (l := (v17 : List TSheet)) (r := (([e220] : List TSheet) : List TSheet)), ?_⟩
  cases hm
  exact ⟨(_, ((W (i16 + 1)), (v17 ++ ([e220] : List TSheet)))), SubY.of 4 rfl ⟨tR rfl, tR rfl, tR rfl, tR rfl, tR rfl, tR rfl, tR rfl, tR rfl, tR rfl, tR rfl, tR rfl, trivial⟩ ⟨hR rfl, hR rfl, hR rfl, hW rfl, trivial⟩, hi215, Nat.lt_succ_self _⟩
  cases hm
  exact ⟨(_, ((W (i16 + 1)), v17)), SubY.of 4 rfl ⟨tR rfl, tR rfl, tR rfl, tR rfl, tR rfl, tR rfl, tR rfl, tR rfl, tR rfl, tR rfl, tR rfl, trivial⟩ ⟨hR rfl, hR rfl, hR rfl, hW rfl, trivial⟩, hi215, Nat.lt_succ_self _⟩
  cases hm
  cases hi215
  have hm := hk213
  obtain ⟨ev318, he, hk319⟩ := bd_some hm
  refine LoopY.ofL (m_R02_Moved_L2 s source) (fun (i228, v229) => ⟨[(0, .agg [lD 9 s.Sheets TSheet.c, lD 3 s.Roofs TRoof.c, lD 6 s.Sightings TSighting.c]), (1, DI source), (2, .agg [DI at_.1, DI at_.2]), (3, .own 0 0), (5, .own 1 0), (6, .v (.slice none 0 0)), (7, DI 0), (8, .own 2 0), (9, DI i16), (10, DI i228), (17, DB (x1 != 0)), (27, DB (!x7)), (35, DB (decide (i16 < (s.Sheets.length : Int))))], [(0, .blk [lD 9 s.Sheets TSheet.c, lD 3 s.Roofs TRoof.c, lD 6 s.Sightings TSighting.c] 32), (1, .blk [DI at_.1, DI at_.2] 95), (2, .blk [.row 3 9, lD 3 s.Roofs TRoof.c, .row 4 6] 32), (3, rE 9 v17 TSheet.c 41), (4, rE 6 v229 TSighting.c 43)], 5⟩) (0, []) (SubY.of 4 rfl ⟨tR rfl, tR rfl, tR rfl, tR rfl, tR rfl, tR rfl, tR rfl, tR rfl, tR rfl, tR rfl, tR rfl, tR rfl, tR rfl, trivial⟩ ⟨hR rfl, hR rfl, hR rfl, hW rfl, ⟨rfl, rfl⟩, trivial⟩) he ?_
  rintro fu320 ⟨i228, v229⟩ b hm hi321
  revert hm
  refine VIf.b (fun h322 hm => ?_) (fun h322 hm => ?_)
  obtain ⟨e323, hx324, hm⟩ := bd_some hm
  refine ⟨_, el_idx (fun _ => rfl) hx324, ?_⟩
  revert hm
  refine VIf.b (fun h325 hm => ?_) (fun h325 hm => ?_)
  refine ⟨rfl, ?_⟩
  obtain ⟨e326, hx327, hm⟩ := bd_some hm
  refine ⟨_, el_idx (fun _ => rfl) hx327, ?_⟩
  refine ⟨([e326] : List TSighting).flatMap TSighting.c, ([e326] : List TSighting).length, ⟨rfl, rfl⟩, ?_⟩
  obtain ⟨hg, hm⟩ := gd_some hm
  refine ⟨hg, _, _, flat_app (c := TSighting.c) (l := (v229 : List TSighting)) (r := (([e326] : List TSighting) : List TSighting)), ?_⟩
  cases hm
  exact ⟨(_, ((W (i228 + 1)), (v229 ++ ([e326] : List TSighting)))), SubY.of 5 rfl ⟨tR rfl, tR rfl, tR rfl, tR rfl, tR rfl, tR rfl, tR rfl, tR rfl, tR rfl, tR rfl, tR rfl, tR rfl, tR rfl, trivial⟩ ⟨hR rfl, hR rfl, hR rfl, hW rfl, hW rfl, trivial⟩, hi321, Nat.lt_succ_self _⟩
  cases hm
  exact ⟨(_, ((W (i228 + 1)), v229)), SubY.of 5 rfl ⟨tR rfl, tR rfl, tR rfl, tR rfl, tR rfl, tR rfl, tR rfl, tR rfl, tR rfl, tR rfl, tR rfl, tR rfl, tR rfl, trivial⟩ ⟨hR rfl, hR rfl, hR rfl, hW rfl, hW rfl, trivial⟩, hi321, Nat.lt_succ_self _⟩
  cases hm
  cases hi321
  have hm := hk319
  revert hm
  refine VIf.b (fun h328 hm => ?_) (fun h328 hm => ?_)
  revert hm
  refine VIf.b (fun h329 hm => ?_) (fun h329 hm => ?_)
  cases hm
  exact RetY.le (⟨_, rfl, ⟨leD.nil, leD.refl _, trivial⟩⟩)
  obtain ⟨x330, hx331, hm⟩ := bd_some hm
  refine CallY.det (d_R02_told s at_ _ hx331) ?_
  obtain ⟨x332, hx333, hm⟩ := bd_some hm
  refine CallOwn.det (d_R02_told ((⟨v17, s.Roofs, v229⟩ : TSky)) at_ _ hx333) ?_
  obtain ⟨ev356, he, hk357⟩ := bd_some hm
  refine LoopY.ofL (m_R02_Moved_L3 x330 x332) (fun (out340, t341) => ⟨[(0, .agg [lD 9 s.Sheets TSheet.c, lD 3 s.Roofs TRoof.c, lD 6 s.Sightings TSighting.c]), (1, DI source), (2, .agg [DI at_.1, DI at_.2]), (3, .own 0 0), (5, .own 1 0), (6, .v (.slice none 0 0)), (7, DI 0), (8, .own 2 0), (9, DI i16), (10, DI i228), (11, lD 1 x330 cI), (12, lD 1 x332 cI), (13, .row 5 1), (14, DI t341), (17, DB (x1 != 0)), (27, DB (!x7)), (35, DB (decide (i16 < (s.Sheets.length : Int)))), (60, DB (decide (i228 < (s.Sightings.length : Int)))), (96, DB ((v229.length : Int) == (s.Sightings.length : Int)))], [(0, .blk [lD 9 s.Sheets TSheet.c, lD 3 s.Roofs TRoof.c, lD 6 s.Sightings TSighting.c] 32), (1, .blk [DI at_.1, DI at_.2] 95), (2, .blk [lD 9 v17 TSheet.c, lD 3 s.Roofs TRoof.c, lD 6 v229 TSighting.c] 32), (5, rE 1 out340 cI 3)], 6⟩) ([], 0) (SubY.of 5 rfl ⟨tR rfl, tR rfl, tR rfl, tR rfl, tR rfl, tR rfl, tR rfl, tR rfl, tR rfl, tR rfl, tR rfl, tR rfl, tR rfl, tR rfl, tR rfl, tR rfl, tR rfl, tR rfl, tR rfl, trivial⟩ ⟨hR rfl, hR rfl, hR rfl, ⟨rfl, rfl⟩, trivial⟩) he ?_
  rintro fu358 ⟨out340, t341⟩ b hm hi359
  revert hm
  refine VIf.b (fun h360 hm => ?_) (fun h360 hm => ?_)
  refine ⟨rfl, ?_⟩
  obtain ⟨e361, hx362, hm⟩ := bd_some hm
  refine ⟨_, el_idx (fun _ => rfl) hx362, ?_⟩
  obtain ⟨e363, hx364, hm⟩ := bd_some hm
  refine ⟨_, el_idx (fun _ => rfl) hx364, ?_⟩
  revert hm
  refine VIf.b (fun h365 hm => ?_) (fun h365 hm => ?_)
  refine ⟨([t341] : List Int).flatMap cI, ([t341] : List Int).length, ⟨rfl, rfl⟩, ?_⟩
  obtain ⟨hg, hm⟩ := gd_some hm
  refine ⟨hg, _, _, flat_app (c := cI) (l := (out340 : List Int)) (r := (([t341] : List Int) : List Int)), ?_⟩
  cases hm
  exact ⟨(_, ((out340 ++ ([t341] : List Int)), (W (t341 + 1)))), SubY.of 6 rfl ⟨tR rfl, tR rfl, tR rfl, tR rfl, tR rfl, tR rfl, tR rfl, tR rfl, tR rfl, tR rfl, tR rfl, tR rfl, tR rfl, tR rfl, tR rfl, tR rfl, tR rfl, tR rfl, tR rfl, trivial⟩ ⟨hR rfl, hR rfl, hR rfl, hW rfl, trivial⟩, hi359, Nat.lt_succ_self _⟩
  cases hm
  exact ⟨(_, (out340, (W (t341 + 1)))), SubY.of 6 rfl ⟨tR rfl, tR rfl, tR rfl, tR rfl, tR rfl, tR rfl, tR rfl, tR rfl, tR rfl, tR rfl, tR rfl, tR rfl, tR rfl, tR rfl, tR rfl, tR rfl, tR rfl, tR rfl, tR rfl, trivial⟩ ⟨hR rfl, hR rfl, hR rfl, hW rfl, trivial⟩, hi359, Nat.lt_succ_self _⟩
  cases hm
  cases hi359
  have hm := hk357
  cases hm
  exact RetY.le (leD.refl _)
  obtain ⟨x366, hx367, hm⟩ := bd_some hm
  refine CallY.det (d_R02_told s at_ _ hx367) ?_
  obtain ⟨x368, hx369, hm⟩ := bd_some hm
  refine CallOwn.det (d_R02_told ((⟨v17, s.Roofs, v229⟩ : TSky)) at_ _ hx369) ?_
  obtain ⟨ev392, he, hk393⟩ := bd_some hm
  refine LoopY.ofL (m_R02_Moved_L3 x366 x368) (fun (out376, t377) => ⟨[(0, .agg [lD 9 s.Sheets TSheet.c, lD 3 s.Roofs TRoof.c, lD 6 s.Sightings TSighting.c]), (1, DI source), (2, .agg [DI at_.1, DI at_.2]), (3, .own 0 0), (5, .own 1 0), (6, .v (.slice none 0 0)), (7, DI 0), (8, .own 2 0), (9, DI i16), (10, DI i228), (11, lD 1 x366 cI), (12, lD 1 x368 cI), (13, .row 5 1), (14, DI t377), (17, DB (x1 != 0)), (27, DB (!x7)), (35, DB (decide (i16 < (s.Sheets.length : Int)))), (60, DB (decide (i228 < (s.Sightings.length : Int)))), (96, DB false)], [(0, .blk [lD 9 s.Sheets TSheet.c, lD 3 s.Roofs TRoof.c, lD 6 s.Sightings TSighting.c] 32), (1, .blk [DI at_.1, DI at_.2] 95), (2, .blk [lD 9 v17 TSheet.c, lD 3 s.Roofs TRoof.c, lD 6 v229 TSighting.c] 32), (5, rE 1 out376 cI 3)], 6⟩) ([], 0) (SubY.of 5 rfl ⟨tR rfl, tR rfl, tR rfl, tR rfl, tR rfl, tR rfl, tR rfl, tR rfl, tR rfl, tR rfl, tR rfl, tR rfl, tR rfl, tR rfl, tR rfl, tR rfl, tR rfl, tR rfl, tR rfl, trivial⟩ ⟨hR rfl, hR rfl, hR rfl, ⟨rfl, rfl⟩, trivial⟩) he ?_
  rintro fu394 ⟨out376, t377⟩ b hm hi395
  revert hm
  refine VIf.b (fun h396 hm => ?_) (fun h396 hm => ?_)
  refine ⟨rfl, ?_⟩
  obtain ⟨e397, hx398, hm⟩ := bd_some hm
  refine ⟨_, el_idx (fun _ => rfl) hx398, ?_⟩
  obtain ⟨e399, hx400, hm⟩ := bd_some hm
  refine ⟨_, el_idx (fun _ => rfl) hx400, ?_⟩
  revert hm
  refine VIf.b (fun h401 hm => ?_) (fun h401 hm => ?_)
  refine ⟨([t377] : List Int).flatMap cI, ([t377] : List Int).length, ⟨rfl, rfl⟩, ?_⟩
  obtain ⟨hg, hm⟩ := gd_some hm
  refine ⟨hg, _, _, flat_app (c := cI) (l := (out376 : List Int)) (r := (([t377] : List Int) : List Int)), ?_⟩
  cases hm
  exact ⟨(_, ((out376 ++ ([t377] : List Int)), (W (t377 + 1)))), SubY.of 6 rfl ⟨tR rfl, tR rfl, tR rfl, tR rfl, tR rfl, tR rfl, tR rfl, tR rfl, tR rfl, tR rfl, tR rfl, tR rfl, tR rfl, tR rfl, tR rfl, tR rfl, tR rfl, tR rfl, tR rfl, trivial⟩ ⟨hR rfl, hR rfl, hR rfl, hW rfl, trivial⟩, hi395, Nat.lt_succ_self _⟩
  cases hm
  exact ⟨(_, (out376, (W (t377 + 1)))), SubY.of 6 rfl ⟨tR rfl, tR rfl, tR rfl, tR rfl, tR rfl, tR rfl, tR rfl, tR rfl, tR rfl, tR rfl, tR rfl, tR rfl, tR rfl, tR rfl, tR rfl, tR rfl, tR rfl, tR rfl, tR rfl, trivial⟩ ⟨hR rfl, hR rfl, hR rfl, hW rfl, trivial⟩, hi395, Nat.lt_succ_self _⟩
  cases hm
  cases hi395
  have hm := hk393
  cases hm
  exact RetY.le (leD.refl _)

def m_L02_MoonMoves (s : TSky) (source : Int) (at_ : (Int × Int)) : Option Bool :=
  Option.bind (m_moon_Moved s source at_.1 at_.2) fun ⟨x1, x2⟩ =>
  Option.bind (m_R02_Moved s source at_) fun ⟨x4, x5⟩ =>
  Option.bind (m_R02_Same x1 x4) fun x7 =>
  if x7 = true then
    if (x2 == x5) = true then
      Option.bind (m_L02_sane ) fun x11 =>
      some x11
    else
      some false
  else
    some false
theorem d_L02_MoonMoves (s : TSky) (source : Int) (at_ : (Int × Int)) (r : Bool) (hm : m_L02_MoonMoves s source at_ = some r) : Does Try.prog 9 [.agg (TSky.c s), DI source, .agg [DI at_.1, DI at_.2]] (fun x => x = DB r) := by
  refine does_zy (X := ⟨Try.prog, tt, Try.f9.ntmps, [], [], [], [], [99], []⟩) pok _ Try.func9 rfl rfl (Nat.le_of_ble_eq_true rfl) ?_
  refine ⟨by decide, ?_⟩
  refine ⟨by decide, ?_⟩
  obtain ⟨⟨x1, x2⟩, hx3, hm⟩ := bd_some hm
  refine CallY.det (d_moon_Moved s source at_.1 at_.2 _ hx3) ?_
  obtain ⟨⟨x4, x5⟩, hx6, hm⟩ := bd_some hm
  refine CallY.det (d_R02_Moved s source at_ _ hx6) ?_
  obtain ⟨x7, hx8, hm⟩ := bd_some hm
  refine CallY.det (d_R02_Same x1 x4 _ hx8) ?_
  revert hm
  refine VIf.b (fun h9 hm => ?_) (fun h9 hm => ?_)
  revert hm
  refine VIf.b (fun h10 hm => ?_) (fun h10 hm => ?_)
  obtain ⟨x11, hx12, hm⟩ := bd_some hm
  refine CallY.det (d_L02_sane  _ hx12) ?_
  cases hm
  exact RetY.le (leD.refl _)
  cases hm
  exact RetY.le (leD.refl _)
  cases hm
  exact RetY.le (leD.refl _)

end Go.Proofs.Ytdhjccionnbljaa
