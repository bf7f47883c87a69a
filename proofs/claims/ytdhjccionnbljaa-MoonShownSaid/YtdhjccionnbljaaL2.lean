/- Functions of the program as pure Lean functions, and that calls do what these say. Printed by a program out of the given form. -/
import Derived.Test.YtdhjccionnbljaaL1
set_option linter.unusedVariables false
set_option linter.unusedSimpArgs false
namespace Go.Proofs.Ytdhjccionnbljaa
open Go Go.RowKit Go.Sx
set_option maxRecDepth 100000
set_option maxHeartbeats 2000000
def m_moon_has (s : TSlip) (d : TFrac) : Option Bool :=
  Option.bind (m_moon_compare d s.Lo) fun x1 =>
  if (decide (x1 > 0)) = true then
    Option.bind (m_moon_compare d s.Hi) fun x4 =>
    some (decide (x4 ≤ 0))
  else
    if (x1 == 0) = true then
      if (!s.Open) = true then
        Option.bind (m_moon_compare d s.Hi) fun x8 =>
        some (decide (x8 ≤ 0))
      else
        some false
    else
      some false
theorem d_moon_has (s : TSlip) (d : TFrac) (r : Bool) (hm : m_moon_has s d = some r) : Does Try.prog 74 [.agg (TSlip.c s), .agg (TFrac.c d)] (fun x => x = DB r) := by
  refine does_y (X := ⟨Try.prog, tt, Try.f74.ntmps, [], [], [], [], [99], []⟩) pok _ Try.func74 rfl rfl (Nat.le_of_ble_eq_true rfl) ?_
  obtain ⟨x1, hx2, hm⟩ := bd_some hm
  refine CallY.det (d_moon_compare d s.Lo _ hx2) ?_
  revert hm
  refine VIf.b (fun h3 hm => ?_) (fun h3 hm => ?_)
  obtain ⟨x4, hx5, hm⟩ := bd_some hm
  refine CallY.det (d_moon_compare d s.Hi _ hx5) ?_
  cases hm
  exact RetY.le (leD.refl _)
  revert hm
  refine VIf.b (fun h6 hm => ?_) (fun h6 hm => ?_)
  revert hm
  refine VIf.b (fun h7 hm => ?_) (fun h7 hm => ?_)
  obtain ⟨x8, hx9, hm⟩ := bd_some hm
  refine CallY.det (d_moon_compare d s.Hi _ hx9) ?_
  cases hm
  exact RetY.le (leD.refl _)
  cases hm
  exact RetY.le (leD.refl _)
  cases hm
  exact RetY.le (leD.refl _)

def m_moon_CheckSlip (s : TSky) (night : Int) (known : Int) (off : TFrac) : Option Int :=
  Option.bind (m_moon_look s night known []) fun ⟨x1, x2⟩ =>
  optM x1 (
    if (x2 != 0) = true then
      some x2
    else
      Option.bind (m_moon_isFrac off 20000000) fun x6 =>
      if (!x6) = true then
        some 20
      else
        none) fun p4 =>
  if (x2 != 0) = true then
    some x2
  else
    Option.bind (m_moon_isFrac off 20000000) fun x10 =>
    if (!x10) = true then
      some 20
    else
      Option.bind (m_moon_has p4.slip off) fun x13 =>
      if (!x13) = true then
        some 28
      else
        some 0
theorem d_moon_CheckSlip (s : TSky) (night : Int) (known : Int) (off : TFrac) (r : Int) (hm : m_moon_CheckSlip s night known off = some r) : Does Try.prog 29 [.agg (TSky.c s), DI night, DI known, .agg (TFrac.c off)] (fun x => x = DI r) := by
  refine does_y (X := ⟨Try.prog, tt, Try.f29.ntmps, pl29, [], [], [], [99], []⟩) pok _ Try.func29 rfl rfl (Nat.le_of_ble_eq_true rfl) ?_
  obtain ⟨⟨x1, x2⟩, hx3, hm⟩ := bd_some hm
  refine CallY.det ((d_moon_look s night known [] _ hx3).le ⟨leD.refl _, leD.refl _, leD.refl _, leD.nil, trivial⟩) ?_
  rcases x1 with _ | p4
  replace hm := opt_none hm
  revert hm
  refine VIf.b (fun h5 hm => ?_) (fun h5 hm => ?_)
  cases hm
  exact RetY.le (leD.refl _)
  obtain ⟨x6, hx7, hm⟩ := bd_some hm
  refine CallY.det (d_moon_isFrac off 20000000 _ hx7) ?_
  revert hm
  refine VIf.b (fun h8 hm => ?_) (fun h8 hm => ?_)
  cases hm
  exact RetY.le (leD.refl _)
  refine ⟨rfl, ?_⟩
  cases hm
  replace hm := opt_some hm
  revert hm
  refine VIf.b (fun h9 hm => ?_) (fun h9 hm => ?_)
  cases hm
  exact RetY.le (leD.refl _)
  obtain ⟨x10, hx11, hm⟩ := bd_some hm
  refine CallY.det (d_moon_isFrac off 20000000 _ hx11) ?_
  revert hm
  refine VIf.b (fun h12 hm => ?_) (fun h12 hm => ?_)
  cases hm
  exact RetY.le (leD.refl _)
  refine ⟨rfl, ?_⟩
  obtain ⟨x13, hx14, hm⟩ := bd_some hm
  refine CallY.det (d_moon_has p4.slip off _ hx14) ?_
  revert hm
  refine VIf.b (fun h15 hm => ?_) (fun h15 hm => ?_)
  cases hm
  exact RetY.le (leD.refl _)
  cases hm
  exact RetY.le (leD.refl _)

def m_R02_Shines (s : TSky) (x : TSheet) (at_ : TMoon) : Option Bool :=
  Option.bind (m_R02_margin x s.Roofs at_.Minute) fun x1 =>
  Option.bind (m_R02_minus x1) fun x3 =>
  Option.bind (m_R02_sign at_.Off x3) fun x5 =>
  some (decide (x5 > 0))
theorem d_R02_Shines (s : TSky) (x : TSheet) (at_ : TMoon) (r : Bool) (hm : m_R02_Shines s x at_ = some r) : Does Try.prog 30 [.agg (TSky.c s), .agg (TSheet.c x), .agg (TMoon.c at_)] (fun x => x = DB r) := by
  refine does_y (X := ⟨Try.prog, tt, Try.f30.ntmps, pl30, [], [], [], [99], []⟩) pok _ Try.func30 rfl rfl (Nat.le_of_ble_eq_true rfl) ?_
  refine ⟨rfl, ?_⟩
  obtain ⟨x1, hx2, hm⟩ := bd_some hm
  refine CallY.det (d_R02_margin x s.Roofs at_.Minute _ hx2) ?_
  obtain ⟨x3, hx4, hm⟩ := bd_some hm
  refine CallY.det (d_R02_minus x1 _ hx4) ?_
  obtain ⟨x5, hx6, hm⟩ := bd_some hm
  refine CallY.det (d_R02_sign at_.Off x3 _ hx6) ?_
  cases hm
  exact RetY.le (leD.refl _)

def m_moon_Show (s : TSky) (night : Int) (known : Int) (minute : Int) (above : Bool) : Option (TFrac × Int) :=
  Option.bind (m_moon_clearly s night known ([minute] : List Int)) fun ⟨x1, x2⟩ =>
  optM x1 (
    if (x2 != 0) = true then
      some ((⟨0, 0⟩ : TFrac), x2)
    else
      none) fun p4 =>
  if (x2 != 0) = true then
    some ((⟨0, 0⟩ : TFrac), x2)
  else
    Option.bind (m_moon_known_edge p4 minute) fun x7 =>
    if above = true then
      Option.bind (m_moon_compare p4.slip.Hi x7) fun x10 =>
      if (decide (x10 ≤ 0)) = true then
        some ((⟨0, 0⟩ : TFrac), 3)
      else
        some (p4.slip.Hi, 0)
    else
      Option.bind (m_moon_compare x7 p4.slip.Hi) fun x13 =>
      if (decide (x13 > 0)) = true then
        Option.bind (m_moon_has p4.slip p4.slip.Hi) fun x16 =>
        if (!x16) = true then
          some ((⟨0, 0⟩ : TFrac), 3)
        else
          some (p4.slip.Hi, 0)
      else
        Option.bind (m_moon_has p4.slip x7) fun x19 =>
        if (!x19) = true then
          some ((⟨0, 0⟩ : TFrac), 3)
        else
          some (x7, 0)
theorem d_moon_Show (s : TSky) (night : Int) (known : Int) (minute : Int) (above : Bool) (r : (TFrac × Int)) (hm : m_moon_Show s night known minute above = some r) : Does Try.prog 48 [.agg (TSky.c s), DI night, DI known, DI minute, DB above] (fun x => x = .tup [.agg (TFrac.c r.1), DI r.2]) := by
  refine does_y (X := ⟨Try.prog, tt, Try.f48.ntmps, pl48, [], [], [], [99], []⟩) pok _ Try.func48 rfl rfl (Nat.le_of_ble_eq_true rfl) ?_
  refine ⟨([minute] : List Int).flatMap cI, ([minute] : List Int).length, ⟨rfl, rfl⟩, ?_⟩
  obtain ⟨⟨x1, x2⟩, hx3, hm⟩ := bd_some hm
  refine CallOwn.det (d_moon_clearly s night known (([minute] : List Int)) _ hx3) ?_
  rcases x1 with _ | p4
  replace hm := opt_none hm
  revert hm
  refine VIf.b (fun h5 hm => ?_) (fun h5 hm => ?_)
  cases hm
  exact RetY.le (leD.refl _)
  cases hm
  replace hm := opt_some hm
  revert hm
  refine VIf.b (fun h6 hm => ?_) (fun h6 hm => ?_)
  cases hm
  exact RetY.le (leD.refl _)
  obtain ⟨x7, hx8, hm⟩ := bd_some hm
  refine CallY.det (d_moon_known_edge p4 minute _ hx8) ?_
  revert hm
  refine VIf.b (fun h9 hm => ?_) (fun h9 hm => ?_)
  refine ⟨rfl, ?_⟩
  obtain ⟨x10, hx11, hm⟩ := bd_some hm
  refine CallY.det (d_moon_compare p4.slip.Hi x7 _ hx11) ?_
  revert hm
  refine VIf.b (fun h12 hm => ?_) (fun h12 hm => ?_)
  cases hm
  exact RetY.le (leD.refl _)
  cases hm
  exact RetY.le (leD.refl _)
  refine ⟨rfl, ?_⟩
  obtain ⟨x13, hx14, hm⟩ := bd_some hm
  refine CallY.det (d_moon_compare x7 p4.slip.Hi _ hx14) ?_
  revert hm
  refine VIf.b (fun h15 hm => ?_) (fun h15 hm => ?_)
  refine ⟨rfl, ?_⟩
  obtain ⟨x16, hx17, hm⟩ := bd_some hm
  refine CallY.det (d_moon_has p4.slip p4.slip.Hi _ hx17) ?_
  revert hm
  refine VIf.b (fun h18 hm => ?_) (fun h18 hm => ?_)
  cases hm
  exact RetY.le (leD.refl _)
  cases hm
  exact RetY.le (leD.refl _)
  refine ⟨rfl, ?_⟩
  obtain ⟨x19, hx20, hm⟩ := bd_some hm
  refine CallY.det (d_moon_has p4.slip x7 _ hx20) ?_
  revert hm
  refine VIf.b (fun h21 hm => ?_) (fun h21 hm => ?_)
  cases hm
  exact RetY.le (leD.refl _)
  cases hm
  exact RetY.le (leD.refl _)

def m_L02_MoonShown_L1 (x1 : Int) (x3 : TSky) (x4 : TSheet) (x10 : Int) (x14 : TSlip) : (Int × Int × Int) → Option (Sum (Int × Int × Int) (Sum (Int × Int × Int) Bool)) := fun (first171, low172, t173) =>
  if (decide (t173 ≥ x10)) = true then
    Option.bind (m_R02_Shines x3 x4 (⟨x14.Hi, t173⟩ : TMoon)) fun x317 =>
    if x317 = true then
      Option.bind (m_R02_Shines x3 x4 (⟨x14.Lo, t173⟩ : TMoon)) fun x320 =>
      if x320 = true then
        Option.bind (m_moon_Above x3 (W (5 + x1)) 20 t173) fun ⟨x323, x324⟩ =>
        Option.bind (m_moon_Show x3 (W (5 + x1)) 20 t173 true) fun ⟨x326, x327⟩ =>
        Option.bind (m_moon_Show x3 (W (5 + x1)) 20 t173 false) fun ⟨x329, x330⟩ =>
        if (x324 != 0) = true then
          some (.inr (.inr false))
        else
          if (!((x327 == 0) == (x323 != 0))) = true then
            some (.inr (.inr false))
          else
            if (!((x330 == 0) == (x323 != 1))) = true then
              some (.inr (.inr false))
            else
              if (x327 == 0) = true then
                Option.bind (m_moon_CheckSlip x3 (W (5 + x1)) 20 x326) fun x336 =>
                if (x336 != 0) = true then
                  some (.inr (.inr false))
                else
                  Option.bind (m_R02_Shines x3 x4 (⟨x326, t173⟩ : TMoon)) fun x339 =>
                  if (!x339) = true then
                    some (.inr (.inr false))
                  else
                    if (x330 == 0) = true then
                      Option.bind (m_moon_CheckSlip x3 (W (5 + x1)) 20 x329) fun x343 =>
                      if (x343 != 0) = true then
                        some (.inr (.inr false))
                      else
                        Option.bind (m_R02_Shines x3 x4 (⟨x329, t173⟩ : TMoon)) fun x346 =>
                        if x346 = true then
                          some (.inr (.inr false))
                        else
                          some (.inl (t173, t173, (W (t173 - 1))))
                    else
                      some (.inl (t173, t173, (W (t173 - 1))))
              else
                if (x330 == 0) = true then
                  Option.bind (m_moon_CheckSlip x3 (W (5 + x1)) 20 x329) fun x350 =>
                  if (x350 != 0) = true then
                    some (.inr (.inr false))
                  else
                    Option.bind (m_R02_Shines x3 x4 (⟨x329, t173⟩ : TMoon)) fun x353 =>
                    if x353 = true then
                      some (.inr (.inr false))
                    else
                      some (.inl (t173, t173, (W (t173 - 1))))
                else
                  some (.inl (t173, t173, (W (t173 - 1))))
      else
        Option.bind (m_moon_Above x3 (W (5 + x1)) 20 t173) fun ⟨x356, x357⟩ =>
        Option.bind (m_moon_Show x3 (W (5 + x1)) 20 t173 true) fun ⟨x359, x360⟩ =>
        Option.bind (m_moon_Show x3 (W (5 + x1)) 20 t173 false) fun ⟨x362, x363⟩ =>
        if (x357 != 0) = true then
          some (.inr (.inr false))
        else
          if (!((x360 == 0) == (x356 != 0))) = true then
            some (.inr (.inr false))
          else
            if (!((x363 == 0) == (x356 != 1))) = true then
              some (.inr (.inr false))
            else
              if (x360 == 0) = true then
                Option.bind (m_moon_CheckSlip x3 (W (5 + x1)) 20 x359) fun x369 =>
                if (x369 != 0) = true then
                  some (.inr (.inr false))
                else
                  Option.bind (m_R02_Shines x3 x4 (⟨x359, t173⟩ : TMoon)) fun x372 =>
                  if (!x372) = true then
                    some (.inr (.inr false))
                  else
                    if (x363 == 0) = true then
                      Option.bind (m_moon_CheckSlip x3 (W (5 + x1)) 20 x362) fun x376 =>
                      if (x376 != 0) = true then
                        some (.inr (.inr false))
                      else
                        Option.bind (m_R02_Shines x3 x4 (⟨x362, t173⟩ : TMoon)) fun x379 =>
                        if x379 = true then
                          some (.inr (.inr false))
                        else
                          some (.inl (t173, low172, (W (t173 - 1))))
                    else
                      some (.inl (t173, low172, (W (t173 - 1))))
              else
                if (x363 == 0) = true then
                  Option.bind (m_moon_CheckSlip x3 (W (5 + x1)) 20 x362) fun x383 =>
                  if (x383 != 0) = true then
                    some (.inr (.inr false))
                  else
                    Option.bind (m_R02_Shines x3 x4 (⟨x362, t173⟩ : TMoon)) fun x386 =>
                    if x386 = true then
                      some (.inr (.inr false))
                    else
                      some (.inl (t173, low172, (W (t173 - 1))))
                else
                  some (.inl (t173, low172, (W (t173 - 1))))
    else
      Option.bind (m_R02_Shines x3 x4 (⟨x14.Lo, t173⟩ : TMoon)) fun x389 =>
      if x389 = true then
        Option.bind (m_moon_Above x3 (W (5 + x1)) 20 t173) fun ⟨x392, x393⟩ =>
        Option.bind (m_moon_Show x3 (W (5 + x1)) 20 t173 true) fun ⟨x395, x396⟩ =>
        Option.bind (m_moon_Show x3 (W (5 + x1)) 20 t173 false) fun ⟨x398, x399⟩ =>
        if (x393 != 0) = true then
          some (.inr (.inr false))
        else
          if (!((x396 == 0) == (x392 != 0))) = true then
            some (.inr (.inr false))
          else
            if (!((x399 == 0) == (x392 != 1))) = true then
              some (.inr (.inr false))
            else
              if (x396 == 0) = true then
                Option.bind (m_moon_CheckSlip x3 (W (5 + x1)) 20 x395) fun x405 =>
                if (x405 != 0) = true then
                  some (.inr (.inr false))
                else
                  Option.bind (m_R02_Shines x3 x4 (⟨x395, t173⟩ : TMoon)) fun x408 =>
                  if (!x408) = true then
                    some (.inr (.inr false))
                  else
                    if (x399 == 0) = true then
                      Option.bind (m_moon_CheckSlip x3 (W (5 + x1)) 20 x398) fun x412 =>
                      if (x412 != 0) = true then
                        some (.inr (.inr false))
                      else
                        Option.bind (m_R02_Shines x3 x4 (⟨x398, t173⟩ : TMoon)) fun x415 =>
                        if x415 = true then
                          some (.inr (.inr false))
                        else
                          some (.inl (first171, t173, (W (t173 - 1))))
                    else
                      some (.inl (first171, t173, (W (t173 - 1))))
              else
                if (x399 == 0) = true then
                  Option.bind (m_moon_CheckSlip x3 (W (5 + x1)) 20 x398) fun x419 =>
                  if (x419 != 0) = true then
                    some (.inr (.inr false))
                  else
                    Option.bind (m_R02_Shines x3 x4 (⟨x398, t173⟩ : TMoon)) fun x422 =>
                    if x422 = true then
                      some (.inr (.inr false))
                    else
                      some (.inl (first171, t173, (W (t173 - 1))))
                else
                  some (.inl (first171, t173, (W (t173 - 1))))
      else
        Option.bind (m_moon_Above x3 (W (5 + x1)) 20 t173) fun ⟨x425, x426⟩ =>
        Option.bind (m_moon_Show x3 (W (5 + x1)) 20 t173 true) fun ⟨x428, x429⟩ =>
        Option.bind (m_moon_Show x3 (W (5 + x1)) 20 t173 false) fun ⟨x431, x432⟩ =>
        if (x426 != 0) = true then
          some (.inr (.inr false))
        else
          if (!((x429 == 0) == (x425 != 0))) = true then
            some (.inr (.inr false))
          else
            if (!((x432 == 0) == (x425 != 1))) = true then
              some (.inr (.inr false))
            else
              if (x429 == 0) = true then
                Option.bind (m_moon_CheckSlip x3 (W (5 + x1)) 20 x428) fun x438 =>
                if (x438 != 0) = true then
                  some (.inr (.inr false))
                else
                  Option.bind (m_R02_Shines x3 x4 (⟨x428, t173⟩ : TMoon)) fun x441 =>
                  if (!x441) = true then
                    some (.inr (.inr false))
                  else
                    if (x432 == 0) = true then
                      Option.bind (m_moon_CheckSlip x3 (W (5 + x1)) 20 x431) fun x445 =>
                      if (x445 != 0) = true then
                        some (.inr (.inr false))
                      else
                        Option.bind (m_R02_Shines x3 x4 (⟨x431, t173⟩ : TMoon)) fun x448 =>
                        if x448 = true then
                          some (.inr (.inr false))
                        else
                          some (.inl (first171, low172, (W (t173 - 1))))
                    else
                      some (.inl (first171, low172, (W (t173 - 1))))
              else
                if (x432 == 0) = true then
                  Option.bind (m_moon_CheckSlip x3 (W (5 + x1)) 20 x431) fun x452 =>
                  if (x452 != 0) = true then
                    some (.inr (.inr false))
                  else
                    Option.bind (m_R02_Shines x3 x4 (⟨x431, t173⟩ : TMoon)) fun x455 =>
                    if x455 = true then
                      some (.inr (.inr false))
                    else
                      some (.inl (first171, low172, (W (t173 - 1))))
                else
                  some (.inl (first171, low172, (W (t173 - 1))))
  else
    some (.inr (.inl (first171, low172, t173)))
def m_L02_MoonShown (r_ : TRaw) (n : (Int × Int × Int)) : Option Bool :=
  Option.bind (m_R02_Mod n.1 2) fun x1 =>
  Option.bind (m_L02_truth r_ (W (5 + x1))) fun ⟨x3, x4, x5⟩ =>
  if (!x5) = true then
    Option.bind (m_L02_sane ) fun x8 =>
    some x8
  else
    Option.bind (m_R02_Mod n.2.1 1300) fun x10 =>
    Option.bind (m_R02_Mod n.2.2 140) fun x12 =>
    Option.bind (m_moon_Slip x3 (W (5 + x1)) 20) fun ⟨x14, x15⟩ =>
    Option.bind (m_moon_Rises x3 (W (5 + x1)) 20 x10 (W (x10 + x12))) fun ⟨x17, x18⟩ =>
    if (x15 != 0) = true then
      some false
    else
      if (x18 != 0) = true then
        some false
      else
        Option.bind (m_moon_CheckSlip x3 (W (5 + x1)) 20 x14.Hi) fun x22 =>
        if (x22 != 0) = true then
          some false
        else
          if (!x14.Open) = true then
            Option.bind (m_moon_CheckSlip x3 (W (5 + x1)) 20 x14.Lo) fun x26 =>
            if (x26 != 0) = true then
              some false
            else
              Option.bind (loopF (m_L02_MoonShown_L1 x1 x3 x4 x10 x14) (1440, 1440, (W (x10 + x12)))) fun e =>
              match e with
              | .inl (first458, low459, t460) =>
                if (x17.Lo == first458) = true then
                  if x14.Open = true then
                    if (decide (x17.Hi ≤ low459)) = true then
                      Option.bind (m_L02_sane ) fun x464 =>
                      some x464
                    else
                      some false
                  else
                    if (x17.Hi == low459) = true then
                      if (decide (x17.Hi ≤ low459)) = true then
                        Option.bind (m_L02_sane ) fun x468 =>
                        some x468
                      else
                        some false
                    else
                      some false
                else
                  some false
              | .inr rr470 =>
                some rr470
          else
            Option.bind (loopF (m_L02_MoonShown_L1 x1 x3 x4 x10 x14) (1440, 1440, (W (x10 + x12)))) fun e =>
            match e with
            | .inl (first1055, low1056, t1057) =>
              if (x17.Lo == first1055) = true then
                if x14.Open = true then
                  if (decide (x17.Hi ≤ low1056)) = true then
                    Option.bind (m_L02_sane ) fun x1061 =>
                    some x1061
                  else
                    some false
                else
                  if (x17.Hi == low1056) = true then
                    if (decide (x17.Hi ≤ low1056)) = true then
                      Option.bind (m_L02_sane ) fun x1065 =>
                      some x1065
                    else
                      some false
                  else
                    some false
              else
                some false
            | .inr rr1067 =>
              some rr1067
theorem d_L02_MoonShown (r_ : TRaw) (n : (Int × Int × Int)) (r : Bool) (hm : m_L02_MoonShown r_ n = some r) : Does Try.prog 10 [.agg (TRaw.c r_), .agg [DI n.1, DI n.2.1, DI n.2.2]] (fun x => x = DB r) := by
  refine does_y (X := ⟨Try.prog, tt, Try.f10.ntmps, [], [], [], [], [99], []⟩) pok _ Try.func10 rfl rfl (Nat.le_of_ble_eq_true rfl) ?_
  refine ⟨by decide, ?_⟩
  obtain ⟨x1, hx2, hm⟩ := bd_some hm
  refine CallY.det (d_R02_Mod n.1 2 _ hx2) ?_
  obtain ⟨⟨x3, x4, x5⟩, hx6, hm⟩ := bd_some hm
  refine CallY.det (d_L02_truth r_ (W (5 + x1)) _ hx6) ?_
  revert hm
  refine VIf.b (fun h7 hm => ?_) (fun h7 hm => ?_)
  obtain ⟨x8, hx9, hm⟩ := bd_some hm
  refine CallY.det (d_L02_sane  _ hx9) ?_
  cases hm
  exact RetY.le (leD.refl _)
  refine ⟨by decide, ?_⟩
  obtain ⟨x10, hx11, hm⟩ := bd_some hm
  refine CallY.det (d_R02_Mod n.2.1 1300 _ hx11) ?_
  refine ⟨by decide, ?_⟩
  obtain ⟨x12, hx13, hm⟩ := bd_some hm
  refine CallY.det (d_R02_Mod n.2.2 140 _ hx13) ?_
  obtain ⟨⟨x14, x15⟩, hx16, hm⟩ := bd_some hm
  refine CallY.det (d_moon_Slip x3 (W (5 + x1)) 20 _ hx16) ?_
  obtain ⟨⟨x17, x18⟩, hx19, hm⟩ := bd_some hm
  refine CallY.det (d_moon_Rises x3 (W (5 + x1)) 20 x10 (W (x10 + x12)) _ hx19) ?_
  revert hm
  refine VIf.b (fun h20 hm => ?_) (fun h20 hm => ?_)
  cases hm
  exact RetY.le (leD.refl _)
  revert hm
  refine VIf.b (fun h21 hm => ?_) (fun h21 hm => ?_)
  cases hm
  exact RetY.le (leD.refl _)
  obtain ⟨x22, hx23, hm⟩ := bd_some hm
  refine CallY.det (d_moon_CheckSlip x3 (W (5 + x1)) 20 x14.Hi _ hx23) ?_
  revert hm
  refine VIf.b (fun h24 hm => ?_) (fun h24 hm => ?_)
  cases hm
  exact RetY.le (leD.refl _)
  revert hm
  refine VIf.b (fun h25 hm => ?_) (fun h25 hm => ?_)
  obtain ⟨x26, hx27, hm⟩ := bd_some hm
  refine CallY.det (d_moon_CheckSlip x3 (W (5 + x1)) 20 x14.Lo _ hx27) ?_
  revert hm
  refine VIf.b (fun h28 hm => ?_) (fun h28 hm => ?_)
  cases hm
  exact RetY.le (leD.refl _)
  obtain ⟨ev471, he, hk472⟩ := bd_some hm
  refine LoopY.ofL (m_L02_MoonShown_L1 x1 x3 x4 x10 x14) (fun (first171, low172, t173) => ⟨[(0, .agg [lD 1 r_.Rows (fun (x : (List (Int × Int × Int × Int))) => [lD 4 x (fun (x : (Int × Int × Int × Int)) => [DI x.1, DI x.2.1, DI x.2.2.1, DI x.2.2.2])]), lD 4 r_.Sheets (fun (x : (Int × Int × Int × Int)) => [DI x.1, DI x.2.1, DI x.2.2.1, DI x.2.2.2]), lD 3 r_.Roofs (fun (x : (Int × Int × Int)) => [DI x.1, DI x.2.1, DI x.2.2]), lD 4 r_.Sightings (fun (x : (Int × Int × Int × Int)) => [DI x.1, DI x.2.1, DI x.2.2.1, DI x.2.2.2]), DI r_.Off]), (1, .agg [DI n.1, DI n.2.1, DI n.2.2]), (2, .own 0 0), (3, .own 1 0), (4, DB false), (5, DI (W (5 + x1))), (6, .own 2 0), (7, .own 3 0), (8, DB x5), (9, DI x10), (10, DI (W (x10 + x12))), (11, .own 4 0), (12, DI x15), (13, .own 5 0), (14, DI x18), (15, DI first171), (16, DI low172), (17, DI t173), (36, DB (!x5)), (86, DB (x26 != 0))], [(0, .blk [lD 1 r_.Rows (fun (x : (List (Int × Int × Int × Int))) => [lD 4 x (fun (x : (Int × Int × Int × Int)) => [DI x.1, DI x.2.1, DI x.2.2.1, DI x.2.2.2])]), lD 4 r_.Sheets (fun (x : (Int × Int × Int × Int)) => [DI x.1, DI x.2.1, DI x.2.2.1, DI x.2.2.2]), lD 3 r_.Roofs (fun (x : (Int × Int × Int)) => [DI x.1, DI x.2.1, DI x.2.2]), lD 4 r_.Sightings (fun (x : (Int × Int × Int × Int)) => [DI x.1, DI x.2.1, DI x.2.2.1, DI x.2.2.2]), DI r_.Off] 26), (1, .blk [DI n.1, DI n.2.1, DI n.2.2] 27), (2, .blk [lD 9 x3.Sheets TSheet.c, lD 3 x3.Roofs TRoof.c, lD 6 x3.Sightings TSighting.c] 32), (3, .blk [DI x4.Source, DI x4.Night, DI x4.Known, DI x4.Until, lD 5 x4.Rows TRow.c, DI x4.Off.Num, DI x4.Off.Den, DI x4.Light.Lo, DI x4.Light.Hi] 41), (4, .blk [DI x14.Lo.Num, DI x14.Lo.Den, DB x14.Open, DI x14.Hi.Num, DI x14.Hi.Den] 48), (5, .blk [DI x17.Lo, DI x17.Hi] 39)], 6⟩) (1440, 1440, (W (x10 + x12))) (SubY.of 6 rfl ⟨tR rfl, tR rfl, tR rfl, tR rfl, tR rfl, tR rfl, tR rfl, tR rfl, tR rfl, tR rfl, tR rfl, tR rfl, tR rfl, tR rfl, tR rfl, tR rfl, tR rfl, tR rfl, tR rfl, tR rfl, trivial⟩ ⟨hR rfl, hR rfl, hR rfl, hR rfl, hR rfl, hR rfl, trivial⟩) he ?_
  rintro fu473 ⟨first171, low172, t173⟩ b hm hi474
  revert hm
  refine VIf.b (fun h475 hm => ?_) (fun h475 hm => ?_)
  obtain ⟨x476, hx477, hm⟩ := bd_some hm
  refine CallY.det (d_R02_Shines x3 x4 ((⟨x14.Hi, t173⟩ : TMoon)) _ hx477) ?_
  revert hm
  refine VIf.b (fun h478 hm => ?_) (fun h478 hm => ?_)
  obtain ⟨x479, hx480, hm⟩ := bd_some hm
  refine CallY.det (d_R02_Shines x3 x4 ((⟨x14.Lo, t173⟩ : TMoon)) _ hx480) ?_
  revert hm
  refine VIf.b (fun h481 hm => ?_) (fun h481 hm => ?_)
  obtain ⟨⟨x482, x483⟩, hx484, hm⟩ := bd_some hm
  refine CallY.det (d_moon_Above x3 (W (5 + x1)) 20 t173 _ hx484) ?_
  obtain ⟨⟨x485, x486⟩, hx487, hm⟩ := bd_some hm
  refine CallY.det (d_moon_Show x3 (W (5 + x1)) 20 t173 true _ hx487) ?_
  obtain ⟨⟨x488, x489⟩, hx490, hm⟩ := bd_some hm
  refine CallY.det (d_moon_Show x3 (W (5 + x1)) 20 t173 false _ hx490) ?_
  revert hm
  refine VIf.b (fun h491 hm => ?_) (fun h491 hm => ?_)
  cases hm
  cases hi474
  have hm := hk472
  cases hm
  exact RetY.le (leD.refl _)
  revert hm
  refine VIf.b (fun h492 hm => ?_) (fun h492 hm => ?_)
  cases hm
  cases hi474
  have hm := hk472
  cases hm
  exact RetY.le (leD.refl _)
  revert hm
  refine VIf.b (fun h493 hm => ?_) (fun h493 hm => ?_)
  cases hm
  cases hi474
  have hm := hk472
  cases hm
  exact RetY.le (leD.refl _)
  revert hm
  refine VIf.b (fun h494 hm => ?_) (fun h494 hm => ?_)
  obtain ⟨x495, hx496, hm⟩ := bd_some hm
  refine CallY.det (d_moon_CheckSlip x3 (W (5 + x1)) 20 x485 _ hx496) ?_
  revert hm
  refine VIf.b (fun h497 hm => ?_) (fun h497 hm => ?_)
  cases hm
  cases hi474
  have hm := hk472
  cases hm
  exact RetY.le (leD.refl _)
  obtain ⟨x498, hx499, hm⟩ := bd_some hm
  refine CallY.det (d_R02_Shines x3 x4 ((⟨x485, t173⟩ : TMoon)) _ hx499) ?_
  revert hm
  refine VIf.b (fun h500 hm => ?_) (fun h500 hm => ?_)
  cases hm
  cases hi474
  have hm := hk472
  cases hm
  exact RetY.le (leD.refl _)
  revert hm
  refine VIf.b (fun h501 hm => ?_) (fun h501 hm => ?_)
  obtain ⟨x502, hx503, hm⟩ := bd_some hm
  refine CallY.det (d_moon_CheckSlip x3 (W (5 + x1)) 20 x488 _ hx503) ?_
  revert hm
  refine VIf.b (fun h504 hm => ?_) (fun h504 hm => ?_)
  cases hm
  cases hi474
  have hm := hk472
  cases hm
  exact RetY.le (leD.refl _)
  obtain ⟨x505, hx506, hm⟩ := bd_some hm
  refine CallY.det (d_R02_Shines x3 x4 ((⟨x488, t173⟩ : TMoon)) _ hx506) ?_
  revert hm
  refine VIf.b (fun h507 hm => ?_) (fun h507 hm => ?_)
  cases hm
  cases hi474
  have hm := hk472
  cases hm
  exact RetY.le (leD.refl _)
  cases hm
  exact ⟨(_, (t173, t173, (W (t173 - 1)))), SubY.of 6 rfl ⟨tR rfl, tR rfl, tR rfl, tR rfl, tR rfl, tR rfl, tR rfl, tR rfl, tR rfl, tR rfl, tR rfl, tR rfl, tR rfl, tR rfl, tR rfl, tR rfl, tR rfl, tR rfl, tR rfl, tR rfl, trivial⟩ ⟨hR rfl, hR rfl, hR rfl, hR rfl, hR rfl, hR rfl, trivial⟩, hi474, Nat.lt_succ_self _⟩
  cases hm
  exact ⟨(_, (t173, t173, (W (t173 - 1)))), SubY.of 6 rfl ⟨tR rfl, tR rfl, tR rfl, tR rfl, tR rfl, tR rfl, tR rfl, tR rfl, tR rfl, tR rfl, tR rfl, tR rfl, tR rfl, tR rfl, tR rfl, tR rfl, tR rfl, tR rfl, tR rfl, tR rfl, trivial⟩ ⟨hR rfl, hR rfl, hR rfl, hR rfl, hR rfl, hR rfl, trivial⟩, hi474, Nat.lt_succ_self _⟩
  revert hm
  refine VIf.b (fun h508 hm => ?_) (fun h508 hm => ?_)
  obtain ⟨x509, hx510, hm⟩ := bd_some hm
  refine CallY.det (d_moon_CheckSlip x3 (W (5 + x1)) 20 x488 _ hx510) ?_
  revert hm
  refine VIf.b (fun h511 hm => ?_) (fun h511 hm => ?_)
  cases hm
  cases hi474
  have hm := hk472
  cases hm
  exact RetY.le (leD.refl _)
  obtain ⟨x512, hx513, hm⟩ := bd_some hm
  refine CallY.det (d_R02_Shines x3 x4 ((⟨x488, t173⟩ : TMoon)) _ hx513) ?_
  revert hm
  refine VIf.b (fun h514 hm => ?_) (fun h514 hm => ?_)
  cases hm
  cases hi474
  have hm := hk472
  cases hm
  exact RetY.le (leD.refl _)
  cases hm
  exact ⟨(_, (t173, t173, (W (t173 - 1)))), SubY.of 6 rfl ⟨tR rfl, tR rfl, tR rfl, tR rfl, tR rfl, tR rfl, tR rfl, tR rfl, tR rfl, tR rfl, tR rfl, tR rfl, tR rfl, tR rfl, tR rfl, tR rfl, tR rfl, tR rfl, tR rfl, tR rfl, trivial⟩ ⟨hR rfl, hR rfl, hR rfl, hR rfl, hR rfl, hR rfl, trivial⟩, hi474, Nat.lt_succ_self _⟩
  cases hm
  exact ⟨(_, (t173, t173, (W (t173 - 1)))), SubY.of 6 rfl ⟨tR rfl, tR rfl, tR rfl, tR rfl, tR rfl, tR rfl, tR rfl, tR rfl, tR rfl, tR rfl, tR rfl, tR rfl, tR rfl, tR rfl, tR rfl, tR rfl, tR rfl, tR rfl, tR rfl, tR rfl, trivial⟩ ⟨hR rfl, hR rfl, hR rfl, hR rfl, hR rfl, hR rfl, trivial⟩, hi474, Nat.lt_succ_self _⟩
  obtain ⟨⟨x515, x516⟩, hx517, hm⟩ := bd_some hm
  refine CallY.det (d_moon_Above x3 (W (5 + x1)) 20 t173 _ hx517) ?_
  obtain ⟨⟨x518, x519⟩, hx520, hm⟩ := bd_some hm
  refine CallY.det (d_moon_Show x3 (W (5 + x1)) 20 t173 true _ hx520) ?_
  obtain ⟨⟨x521, x522⟩, hx523, hm⟩ := bd_some hm
  refine CallY.det (d_moon_Show x3 (W (5 + x1)) 20 t173 false _ hx523) ?_
  revert hm
  refine VIf.b (fun h524 hm => ?_) (fun h524 hm => ?_)
  cases hm
  cases hi474
  have hm := hk472
  cases hm
  exact RetY.le (leD.refl _)
  revert hm
  refine VIf.b (fun h525 hm => ?_) (fun h525 hm => ?_)
  cases hm
  cases hi474
  have hm := hk472
  cases hm
  exact RetY.le (leD.refl _)
  revert hm
  refine VIf.b (fun h526 hm => ?_) (fun h526 hm => ?_)
  cases hm
  cases hi474
  have hm := hk472
  cases hm
  exact RetY.le (leD.refl _)
  revert hm
  refine VIf.b (fun h527 hm => ?_) (fun h527 hm => ?_)
  obtain ⟨x528, hx529, hm⟩ := bd_some hm
  refine CallY.det (d_moon_CheckSlip x3 (W (5 + x1)) 20 x518 _ hx529) ?_
  revert hm
  refine VIf.b (fun h530 hm => ?_) (fun h530 hm => ?_)
  cases hm
  cases hi474
  have hm := hk472
  cases hm
  exact RetY.le (leD.refl _)
  obtain ⟨x531, hx532, hm⟩ := bd_some hm
  refine CallY.det (d_R02_Shines x3 x4 ((⟨x518, t173⟩ : TMoon)) _ hx532) ?_
  revert hm
  refine VIf.b (fun h533 hm => ?_) (fun h533 hm => ?_)
  cases hm
  cases hi474
  have hm := hk472
  cases hm
  exact RetY.le (leD.refl _)
  revert hm
  refine VIf.b (fun h534 hm => ?_) (fun h534 hm => ?_)
  obtain ⟨x535, hx536, hm⟩ := bd_some hm
  refine CallY.det (d_moon_CheckSlip x3 (W (5 + x1)) 20 x521 _ hx536) ?_
  revert hm
  refine VIf.b (fun h537 hm => ?_) (fun h537 hm => ?_)
  cases hm
  cases hi474
  have hm := hk472
  cases hm
  exact RetY.le (leD.refl _)
  obtain ⟨x538, hx539, hm⟩ := bd_some hm
  refine CallY.det (d_R02_Shines x3 x4 ((⟨x521, t173⟩ : TMoon)) _ hx539) ?_
  revert hm
  refine VIf.b (fun h540 hm => ?_) (fun h540 hm => ?_)
  cases hm
  cases hi474
  have hm := hk472
  cases hm
  exact RetY.le (leD.refl _)
  cases hm
  exact ⟨(_, (t173, low172, (W (t173 - 1)))), SubY.of 6 rfl ⟨tR rfl, tR rfl, tR rfl, tR rfl, tR rfl, tR rfl, tR rfl, tR rfl, tR rfl, tR rfl, tR rfl, tR rfl, tR rfl, tR rfl, tR rfl, tR rfl, tR rfl, tR rfl, tR rfl, tR rfl, trivial⟩ ⟨hR rfl, hR rfl, hR rfl, hR rfl, hR rfl, hR rfl, trivial⟩, hi474, Nat.lt_succ_self _⟩
  cases hm
  exact ⟨(_, (t173, low172, (W (t173 - 1)))), SubY.of 6 rfl ⟨tR rfl, tR rfl, tR rfl, tR rfl, tR rfl, tR rfl, tR rfl, tR rfl, tR rfl, tR rfl, tR rfl, tR rfl, tR rfl, tR rfl, tR rfl, tR rfl, tR rfl, tR rfl, tR rfl, tR rfl, trivial⟩ ⟨hR rfl, hR rfl, hR rfl, hR rfl, hR rfl, hR rfl, trivial⟩, hi474, Nat.lt_succ_self _⟩
  revert hm
  refine VIf.b (fun h541 hm => ?_) (fun h541 hm => ?_)
  obtain ⟨x542, hx543, hm⟩ := bd_some hm
  refine CallY.det (d_moon_CheckSlip x3 (W (5 + x1)) 20 x521 _ hx543) ?_
  revert hm
  refine VIf.b (fun h544 hm => ?_) (fun h544 hm => ?_)
  cases hm
  cases hi474
  have hm := hk472
  cases hm
  exact RetY.le (leD.refl _)
  obtain ⟨x545, hx546, hm⟩ := bd_some hm
  refine CallY.det (d_R02_Shines x3 x4 ((⟨x521, t173⟩ : TMoon)) _ hx546) ?_
  revert hm
  refine VIf.b (fun h547 hm => ?_) (fun h547 hm => ?_)
  cases hm
  cases hi474
  have hm := hk472
  cases hm
  exact RetY.le (leD.refl _)
  cases hm
  exact ⟨(_, (t173, low172, (W (t173 - 1)))), SubY.of 6 rfl ⟨tR rfl, tR rfl, tR rfl, tR rfl, tR rfl, tR rfl, tR rfl, tR rfl, tR rfl, tR rfl, tR rfl, tR rfl, tR rfl, tR rfl, tR rfl, tR rfl, tR rfl, tR rfl, tR rfl, tR rfl, trivial⟩ ⟨hR rfl, hR rfl, hR rfl, hR rfl, hR rfl, hR rfl, trivial⟩, hi474, Nat.lt_succ_self _⟩
  cases hm
  exact ⟨(_, (t173, low172, (W (t173 - 1)))), SubY.of 6 rfl ⟨tR rfl, tR rfl, tR rfl, tR rfl, tR rfl, tR rfl, tR rfl, tR rfl, tR rfl, tR rfl, tR rfl, tR rfl, tR rfl, tR rfl, tR rfl, tR rfl, tR rfl, tR rfl, tR rfl, tR rfl, trivial⟩ ⟨hR rfl, hR rfl, hR rfl, hR rfl, hR rfl, hR rfl, trivial⟩, hi474, Nat.lt_succ_self _⟩
  obtain ⟨x548, hx549, hm⟩ := bd_some hm
  refine CallY.det (d_R02_Shines x3 x4 ((⟨x14.Lo, t173⟩ : TMoon)) _ hx549) ?_
  revert hm
  refine VIf.b (fun h550 hm => ?_) (fun h550 hm => ?_)
  obtain ⟨⟨x551, x552⟩, hx553, hm⟩ := bd_some hm
  refine CallY.det (d_moon_Above x3 (W (5 + x1)) 20 t173 _ hx553) ?_
  obtain ⟨⟨x554, x555⟩, hx556, hm⟩ := bd_some hm
  refine CallY.det (d_moon_Show x3 (W (5 + x1)) 20 t173 true _ hx556) ?_
  obtain ⟨⟨x557, x558⟩, hx559, hm⟩ := bd_some hm
  refine CallY.det (d_moon_Show x3 (W (5 + x1)) 20 t173 false _ hx559) ?_
  revert hm
  refine VIf.b (fun h560 hm => ?_) (fun h560 hm => ?_)
  cases hm
  cases hi474
  have hm := hk472
  cases hm
  exact RetY.le (leD.refl _)
  revert hm
  refine VIf.b (fun h561 hm => ?_) (fun h561 hm => ?_)
  cases hm
  cases hi474
  have hm := hk472
  cases hm
  exact RetY.le (leD.refl _)
  revert hm
  refine VIf.b (fun h562 hm => ?_) (fun h562 hm => ?_)
  cases hm
  cases hi474
  have hm := hk472
  cases hm
  exact RetY.le (leD.refl _)
  revert hm
  refine VIf.b (fun h563 hm => ?_) (fun h563 hm => ?_)
  obtain ⟨x564, hx565, hm⟩ := bd_some hm
  refine CallY.det (d_moon_CheckSlip x3 (W (5 + x1)) 20 x554 _ hx565) ?_
  revert hm
  refine VIf.b (fun h566 hm => ?_) (fun h566 hm => ?_)
  cases hm
  cases hi474
  have hm := hk472
  cases hm
  exact RetY.le (leD.refl _)
  obtain ⟨x567, hx568, hm⟩ := bd_some hm
  refine CallY.det (d_R02_Shines x3 x4 ((⟨x554, t173⟩ : TMoon)) _ hx568) ?_
  revert hm
  refine VIf.b (fun h569 hm => ?_) (fun h569 hm => ?_)
  cases hm
  cases hi474
  have hm := hk472
  cases hm
  exact RetY.le (leD.refl _)
  revert hm
  refine VIf.b (fun h570 hm => ?_) (fun h570 hm => ?_)
  obtain ⟨x571, hx572, hm⟩ := bd_some hm
  refine CallY.det (d_moon_CheckSlip x3 (W (5 + x1)) 20 x557 _ hx572) ?_
  revert hm
  refine VIf.b (fun h573 hm => ?_) (fun h573 hm => ?_)
  cases hm
  cases hi474
  have hm := hk472
  cases hm
  exact RetY.le (leD.refl _)
  obtain ⟨x574, hx575, hm⟩ := bd_some hm
  refine CallY.det (d_R02_Shines x3 x4 ((⟨x557, t173⟩ : TMoon)) _ hx575) ?_
  revert hm
  refine VIf.b (fun h576 hm => ?_) (fun h576 hm => ?_)
  cases hm
  cases hi474
  have hm := hk472
  cases hm
  exact RetY.le (leD.refl _)
  cases hm
  exact ⟨(_, (first171, t173, (W (t173 - 1)))), SubY.of 6 rfl ⟨tR rfl, tR rfl, tR rfl, tR rfl, tR rfl, tR rfl, tR rfl, tR rfl, tR rfl, tR rfl, tR rfl, tR rfl, tR rfl, tR rfl, tR rfl, tR rfl, tR rfl, tR rfl, tR rfl, tR rfl, trivial⟩ ⟨hR rfl, hR rfl, hR rfl, hR rfl, hR rfl, hR rfl, trivial⟩, hi474, Nat.lt_succ_self _⟩
  cases hm
  exact ⟨(_, (first171, t173, (W (t173 - 1)))), SubY.of 6 rfl ⟨tR rfl, tR rfl, tR rfl, tR rfl, tR rfl, tR rfl, tR rfl, tR rfl, tR rfl, tR rfl, tR rfl, tR rfl, tR rfl, tR rfl, tR rfl, tR rfl, tR rfl, tR rfl, tR rfl, tR rfl, trivial⟩ ⟨hR rfl, hR rfl, hR rfl, hR rfl, hR rfl, hR rfl, trivial⟩, hi474, Nat.lt_succ_self _⟩
  revert hm
  refine VIf.b (fun h577 hm => ?_) (fun h577 hm => ?_)
  obtain ⟨x578, hx579, hm⟩ := bd_some hm
  refine CallY.det (d_moon_CheckSlip x3 (W (5 + x1)) 20 x557 _ hx579) ?_
  revert hm
  refine VIf.b (fun h580 hm => ?_) (fun h580 hm => ?_)
  cases hm
  cases hi474
  have hm := hk472
  cases hm
  exact RetY.le (leD.refl _)
  obtain ⟨x581, hx582, hm⟩ := bd_some hm
  refine CallY.det (d_R02_Shines x3 x4 ((⟨x557, t173⟩ : TMoon)) _ hx582) ?_
  revert hm
  refine VIf.b (fun h583 hm => ?_) (fun h583 hm => ?_)
  cases hm
  cases hi474
  have hm := hk472
  cases hm
  exact RetY.le (leD.refl _)
  cases hm
  exact ⟨(_, (first171, t173, (W (t173 - 1)))), SubY.of 6 rfl ⟨tR rfl, tR rfl, tR rfl, tR rfl, tR rfl, tR rfl, tR rfl, tR rfl, tR rfl, tR rfl, tR rfl, tR rfl, tR rfl, tR rfl, tR rfl, tR rfl, tR rfl, tR rfl, tR rfl, tR rfl, trivial⟩ ⟨hR rfl, hR rfl, hR rfl, hR rfl, hR rfl, hR rfl, trivial⟩, hi474, Nat.lt_succ_self _⟩
  cases hm
  exact ⟨(_, (first171, t173, (W (t173 - 1)))), SubY.of 6 rfl ⟨tR rfl, tR rfl, tR rfl, tR rfl, tR rfl, tR rfl, tR rfl, tR rfl, tR rfl, tR rfl, tR rfl, tR rfl, tR rfl, tR rfl, tR rfl, tR rfl, tR rfl, tR rfl, tR rfl, tR rfl, trivial⟩ ⟨hR rfl, hR rfl, hR rfl, hR rfl, hR rfl, hR rfl, trivial⟩, hi474, Nat.lt_succ_self _⟩
  obtain ⟨⟨x584, x585⟩, hx586, hm⟩ := bd_some hm
  refine CallY.det (d_moon_Above x3 (W (5 + x1)) 20 t173 _ hx586) ?_
  obtain ⟨⟨x587, x588⟩, hx589, hm⟩ := bd_some hm
  refine CallY.det (d_moon_Show x3 (W (5 + x1)) 20 t173 true _ hx589) ?_
  obtain ⟨⟨x590, x591⟩, hx592, hm⟩ := bd_some hm
  refine CallY.det (d_moon_Show x3 (W (5 + x1)) 20 t173 false _ hx592) ?_
  revert hm
  refine VIf.b (fun h593 hm => ?_) (fun h593 hm => ?_)
  cases hm
  cases hi474
  have hm := hk472
  cases hm
  exact RetY.le (leD.refl _)
  revert hm
  refine VIf.b (fun h594 hm => ?_) (fun h594 hm => ?_)
  cases hm
  cases hi474
  have hm := hk472
  cases hm
  exact RetY.le (leD.refl _)
  revert hm
  refine VIf.b (fun h595 hm => ?_) (fun h595 hm => ?_)
  cases hm
  cases hi474
  have hm := hk472
  cases hm
  exact RetY.le (leD.refl _)
  revert hm
  refine VIf.b (fun h596 hm => ?_) (fun h596 hm => ?_)
  obtain ⟨x597, hx598, hm⟩ := bd_some hm
  refine CallY.det (d_moon_CheckSlip x3 (W (5 + x1)) 20 x587 _ hx598) ?_
  revert hm
  refine VIf.b (fun h599 hm => ?_) (fun h599 hm => ?_)
  cases hm
  cases hi474
  have hm := hk472
  cases hm
  exact RetY.le (leD.refl _)
  obtain ⟨x600, hx601, hm⟩ := bd_some hm
  refine CallY.det (d_R02_Shines x3 x4 ((⟨x587, t173⟩ : TMoon)) _ hx601) ?_
  revert hm
  refine VIf.b (fun h602 hm => ?_) (fun h602 hm => ?_)
  cases hm
  cases hi474
  have hm := hk472
  cases hm
  exact RetY.le (leD.refl _)
  revert hm
  refine VIf.b (fun h603 hm => ?_) (fun h603 hm => ?_)
  obtain ⟨x604, hx605, hm⟩ := bd_some hm
  refine CallY.det (d_moon_CheckSlip x3 (W (5 + x1)) 20 x590 _ hx605) ?_
  revert hm
  refine VIf.b (fun h606 hm => ?_) (fun h606 hm => ?_)
  cases hm
  cases hi474
  have hm := hk472
  cases hm
  exact RetY.le (leD.refl _)
  obtain ⟨x607, hx608, hm⟩ := bd_some hm
  refine CallY.det (d_R02_Shines x3 x4 ((⟨x590, t173⟩ : TMoon)) _ hx608) ?_
  revert hm
  refine VIf.b (fun h609 hm => ?_) (fun h609 hm => ?_)
  cases hm
  cases hi474
  have hm := hk472
  cases hm
  exact RetY.le (leD.refl _)
  cases hm
  exact ⟨(_, (first171, low172, (W (t173 - 1)))), SubY.of 6 rfl ⟨tR rfl, tR rfl, tR rfl, tR rfl, tR rfl, tR rfl, tR rfl, tR rfl, tR rfl, tR rfl, tR rfl, tR rfl, tR rfl, tR rfl, tR rfl, tR rfl, tR rfl, tR rfl, tR rfl, tR rfl, trivial⟩ ⟨hR rfl, hR rfl, hR rfl, hR rfl, hR rfl, hR rfl, trivial⟩, hi474, Nat.lt_succ_self _⟩
  cases hm
  exact ⟨(_, (first171, low172, (W (t173 - 1)))), SubY.of 6 rfl ⟨tR rfl, tR rfl, tR rfl, tR rfl, tR rfl, tR rfl, tR rfl, tR rfl, tR rfl, tR rfl, tR rfl, tR rfl, tR rfl, tR rfl, tR rfl, tR rfl, tR rfl, tR rfl, tR rfl, tR rfl, trivial⟩ ⟨hR rfl, hR rfl, hR rfl, hR rfl, hR rfl, hR rfl, trivial⟩, hi474, Nat.lt_succ_self _⟩
  revert hm
  refine VIf.b (fun h610 hm => ?_) (fun h610 hm => ?_)
  obtain ⟨x611, hx612, hm⟩ := bd_some hm
  refine CallY.det (d_moon_CheckSlip x3 (W (5 + x1)) 20 x590 _ hx612) ?_
  revert hm
  refine VIf.b (fun h613 hm => ?_) (fun h613 hm => ?_)
  cases hm
  cases hi474
  have hm := hk472
  cases hm
  exact RetY.le (leD.refl _)
  obtain ⟨x614, hx615, hm⟩ := bd_some hm
  refine CallY.det (d_R02_Shines x3 x4 ((⟨x590, t173⟩ : TMoon)) _ hx615) ?_
  revert hm
  refine VIf.b (fun h616 hm => ?_) (fun h616 hm => ?_)
  cases hm
  cases hi474
  have hm := hk472
  cases hm
  exact RetY.le (leD.refl _)
  cases hm
  exact ⟨(_, (first171, low172, (W (t173 - 1)))), SubY.of 6 rfl ⟨tR rfl, tR rfl, tR rfl, tR rfl, tR rfl, tR rfl, tR rfl, tR rfl, tR rfl, tR rfl, tR rfl, tR rfl, tR rfl, tR rfl, tR rfl, tR rfl, tR rfl, tR rfl, tR rfl, tR rfl, trivial⟩ ⟨hR rfl, hR rfl, hR rfl, hR rfl, hR rfl, hR rfl, trivial⟩, hi474, Nat.lt_succ_self _⟩
  cases hm
  exact ⟨(_, (first171, low172, (W (t173 - 1)))), SubY.of 6 rfl ⟨tR rfl, tR rfl, tR rfl, tR rfl, tR rfl, tR rfl, tR rfl, tR rfl, tR rfl, tR rfl, tR rfl, tR rfl, tR rfl, tR rfl, tR rfl, tR rfl, tR rfl, tR rfl, tR rfl, tR rfl, trivial⟩ ⟨hR rfl, hR rfl, hR rfl, hR rfl, hR rfl, hR rfl, trivial⟩, hi474, Nat.lt_succ_self _⟩
  cases hm
  cases hi474
  have hm := hk472
  revert hm
  refine VIf.b (fun h617 hm => ?_) (fun h617 hm => ?_)
  revert hm
  refine VIf.b (fun h618 hm => ?_) (fun h618 hm => ?_)
  revert hm
  refine VIf.b (fun h619 hm => ?_) (fun h619 hm => ?_)
  obtain ⟨x620, hx621, hm⟩ := bd_some hm
  refine CallY.det (d_L02_sane  _ hx621) ?_
  cases hm
  exact RetY.le (leD.refl _)
  cases hm
  exact RetY.le (leD.refl _)
  revert hm
  refine VIf.b (fun h622 hm => ?_) (fun h622 hm => ?_)
  revert hm
  refine VIf.b (fun h623 hm => ?_) (fun h623 hm => ?_)
  obtain ⟨x624, hx625, hm⟩ := bd_some hm
  refine CallY.det (d_L02_sane  _ hx625) ?_
  cases hm
  exact RetY.le (leD.refl _)
  cases hm
  exact RetY.le (leD.refl _)
  cases hm
  exact RetY.le (leD.refl _)
  cases hm
  exact RetY.le (leD.refl _)
  obtain ⟨ev1068, he, hk1069⟩ := bd_some hm
  refine LoopY.ofL (m_L02_MoonShown_L1 x1 x3 x4 x10 x14) (fun (first768, low769, t770) => ⟨[(0, .agg [lD 1 r_.Rows (fun (x : (List (Int × Int × Int × Int))) => [lD 4 x (fun (x : (Int × Int × Int × Int)) => [DI x.1, DI x.2.1, DI x.2.2.1, DI x.2.2.2])]), lD 4 r_.Sheets (fun (x : (Int × Int × Int × Int)) => [DI x.1, DI x.2.1, DI x.2.2.1, DI x.2.2.2]), lD 3 r_.Roofs (fun (x : (Int × Int × Int)) => [DI x.1, DI x.2.1, DI x.2.2]), lD 4 r_.Sightings (fun (x : (Int × Int × Int × Int)) => [DI x.1, DI x.2.1, DI x.2.2.1, DI x.2.2.2]), DI r_.Off]), (1, .agg [DI n.1, DI n.2.1, DI n.2.2]), (2, .own 0 0), (3, .own 1 0), (4, DB false), (5, DI (W (5 + x1))), (6, .own 2 0), (7, .own 3 0), (8, DB x5), (9, DI x10), (10, DI (W (x10 + x12))), (11, .own 4 0), (12, DI x15), (13, .own 5 0), (14, DI x18), (15, DI first768), (16, DI low769), (17, DI t770), (36, DB (!x5)), (86, DB false)], [(0, .blk [lD 1 r_.Rows (fun (x : (List (Int × Int × Int × Int))) => [lD 4 x (fun (x : (Int × Int × Int × Int)) => [DI x.1, DI x.2.1, DI x.2.2.1, DI x.2.2.2])]), lD 4 r_.Sheets (fun (x : (Int × Int × Int × Int)) => [DI x.1, DI x.2.1, DI x.2.2.1, DI x.2.2.2]), lD 3 r_.Roofs (fun (x : (Int × Int × Int)) => [DI x.1, DI x.2.1, DI x.2.2]), lD 4 r_.Sightings (fun (x : (Int × Int × Int × Int)) => [DI x.1, DI x.2.1, DI x.2.2.1, DI x.2.2.2]), DI r_.Off] 26), (1, .blk [DI n.1, DI n.2.1, DI n.2.2] 27), (2, .blk [lD 9 x3.Sheets TSheet.c, lD 3 x3.Roofs TRoof.c, lD 6 x3.Sightings TSighting.c] 32), (3, .blk [DI x4.Source, DI x4.Night, DI x4.Known, DI x4.Until, lD 5 x4.Rows TRow.c, DI x4.Off.Num, DI x4.Off.Den, DI x4.Light.Lo, DI x4.Light.Hi] 41), (4, .blk [DI x14.Lo.Num, DI x14.Lo.Den, DB x14.Open, DI x14.Hi.Num, DI x14.Hi.Den] 48), (5, .blk [DI x17.Lo, DI x17.Hi] 39)], 6⟩) (1440, 1440, (W (x10 + x12))) (SubY.of 6 rfl ⟨tR rfl, tR rfl, tR rfl, tR rfl, tR rfl, tR rfl, tR rfl, tR rfl, tR rfl, tR rfl, tR rfl, tR rfl, tR rfl, tR rfl, tR rfl, tR rfl, tR rfl, tR rfl, tR rfl, tR rfl, trivial⟩ ⟨hR rfl, hR rfl, hR rfl, hR rfl, hR rfl, hR rfl, trivial⟩) he ?_
  rintro fu1070 ⟨first768, low769, t770⟩ b hm hi1071
  revert hm
  refine VIf.b (fun h1072 hm => ?_) (fun h1072 hm => ?_)
  obtain ⟨x1073, hx1074, hm⟩ := bd_some hm
  refine CallY.det (d_R02_Shines x3 x4 ((⟨x14.Hi, t770⟩ : TMoon)) _ hx1074) ?_
  revert hm
  refine VIf.b (fun h1075 hm => ?_) (fun h1075 hm => ?_)
  obtain ⟨x1076, hx1077, hm⟩ := bd_some hm
  refine CallY.det (d_R02_Shines x3 x4 ((⟨x14.Lo, t770⟩ : TMoon)) _ hx1077) ?_
  revert hm
  refine VIf.b (fun h1078 hm => ?_) (fun h1078 hm => ?_)
  obtain ⟨⟨x1079, x1080⟩, hx1081, hm⟩ := bd_some hm
  refine CallY.det (d_moon_Above x3 (W (5 + x1)) 20 t770 _ hx1081) ?_
  obtain ⟨⟨x1082, x1083⟩, hx1084, hm⟩ := bd_some hm
  refine CallY.det (d_moon_Show x3 (W (5 + x1)) 20 t770 true _ hx1084) ?_
  obtain ⟨⟨x1085, x1086⟩, hx1087, hm⟩ := bd_some hm
  refine CallY.det (d_moon_Show x3 (W (5 + x1)) 20 t770 false _ hx1087) ?_
  revert hm
  refine VIf.b (fun h1088 hm => ?_) (fun h1088 hm => ?_)
  cases hm
  cases hi1071
  have hm := hk1069
  cases hm
  exact RetY.le (leD.refl _)
  revert hm
  refine VIf.b (fun h1089 hm => ?_) (fun h1089 hm => ?_)
  cases hm
  cases hi1071
  have hm := hk1069
  cases hm
  exact RetY.le (leD.refl _)
  revert hm
  refine VIf.b (fun h1090 hm => ?_) (fun h1090 hm => ?_)
  cases hm
  cases hi1071
  have hm := hk1069
  cases hm
  exact RetY.le (leD.refl _)
  revert hm
  refine VIf.b (fun h1091 hm => ?_) (fun h1091 hm => ?_)
  obtain ⟨x1092, hx1093, hm⟩ := bd_some hm
  refine CallY.det (d_moon_CheckSlip x3 (W (5 + x1)) 20 x1082 _ hx1093) ?_
  revert hm
  refine VIf.b (fun h1094 hm => ?_) (fun h1094 hm => ?_)
  cases hm
  cases hi1071
  have hm := hk1069
  cases hm
  exact RetY.le (leD.refl _)
  obtain ⟨x1095, hx1096, hm⟩ := bd_some hm
  refine CallY.det (d_R02_Shines x3 x4 ((⟨x1082, t770⟩ : TMoon)) _ hx1096) ?_
  revert hm
  refine VIf.b (fun h1097 hm => ?_) (fun h1097 hm => ?_)
  cases hm
  cases hi1071
  have hm := hk1069
  cases hm
  exact RetY.le (leD.refl _)
  revert hm
  refine VIf.b (fun h1098 hm => ?_) (fun h1098 hm => ?_)
  obtain ⟨x1099, hx1100, hm⟩ := bd_some hm
  refine CallY.det (d_moon_CheckSlip x3 (W (5 + x1)) 20 x1085 _ hx1100) ?_
  revert hm
  refine VIf.b (fun h1101 hm => ?_) (fun h1101 hm => ?_)
  cases hm
  cases hi1071
  have hm := hk1069
  cases hm
  exact RetY.le (leD.refl _)
  obtain ⟨x1102, hx1103, hm⟩ := bd_some hm
  refine CallY.det (d_R02_Shines x3 x4 ((⟨x1085, t770⟩ : TMoon)) _ hx1103) ?_
  revert hm
  refine VIf.b (fun h1104 hm => ?_) (fun h1104 hm => ?_)
  cases hm
  cases hi1071
  have hm := hk1069
  cases hm
  exact RetY.le (leD.refl _)
  cases hm
  exact ⟨(_, (t770, t770, (W (t770 - 1)))), SubY.of 6 rfl ⟨tR rfl, tR rfl, tR rfl, tR rfl, tR rfl, tR rfl, tR rfl, tR rfl, tR rfl, tR rfl, tR rfl, tR rfl, tR rfl, tR rfl, tR rfl, tR rfl, tR rfl, tR rfl, tR rfl, tR rfl, trivial⟩ ⟨hR rfl, hR rfl, hR rfl, hR rfl, hR rfl, hR rfl, trivial⟩, hi1071, Nat.lt_succ_self _⟩
  cases hm
  exact ⟨(_, (t770, t770, (W (t770 - 1)))), SubY.of 6 rfl ⟨tR rfl, tR rfl, tR rfl, tR rfl, tR rfl, tR rfl, tR rfl, tR rfl, tR rfl, tR rfl, tR rfl, tR rfl, tR rfl, tR rfl, tR rfl, tR rfl, tR rfl, tR rfl, tR rfl, tR rfl, trivial⟩ ⟨hR rfl, hR rfl, hR rfl, hR rfl, hR rfl, hR rfl, trivial⟩, hi1071, Nat.lt_succ_self _⟩
  revert hm
  refine VIf.b (fun h1105 hm => ?_) (fun h1105 hm => ?_)
  obtain ⟨x1106, hx1107, hm⟩ := bd_some hm
  refine CallY.det (d_moon_CheckSlip x3 (W (5 + x1)) 20 x1085 _ hx1107) ?_
  revert hm
  refine VIf.b (fun h1108 hm => ?_) (fun h1108 hm => ?_)
  cases hm
  cases hi1071
  have hm := hk1069
  cases hm
  exact RetY.le (leD.refl _)
  obtain ⟨x1109, hx1110, hm⟩ := bd_some hm
  refine CallY.det (d_R02_Shines x3 x4 ((⟨x1085, t770⟩ : TMoon)) _ hx1110) ?_
  revert hm
  refine VIf.b (fun h1111 hm => ?_) (fun h1111 hm => ?_)
  cases hm
  cases hi1071
  have hm := hk1069
  cases hm
  exact RetY.le (leD.refl _)
  cases hm
  exact ⟨(_, (t770, t770, (W (t770 - 1)))), SubY.of 6 rfl ⟨tR rfl, tR rfl, tR rfl, tR rfl, tR rfl, tR rfl, tR rfl, tR rfl, tR rfl, tR rfl, tR rfl, tR rfl, tR rfl, tR rfl, tR rfl, tR rfl, tR rfl, tR rfl, tR rfl, tR rfl, trivial⟩ ⟨hR rfl, hR rfl, hR rfl, hR rfl, hR rfl, hR rfl, trivial⟩, hi1071, Nat.lt_succ_self _⟩
  cases hm
  exact ⟨(_, (t770, t770, (W (t770 - 1)))), SubY.of 6 rfl ⟨tR rfl, tR rfl, tR rfl, tR rfl, tR rfl, tR rfl, tR rfl, tR rfl, tR rfl, tR rfl, tR rfl, tR rfl, tR rfl, tR rfl, tR rfl, tR rfl, tR rfl, tR rfl, tR rfl, tR rfl, trivial⟩ ⟨hR rfl, hR rfl, hR rfl, hR rfl, hR rfl, hR rfl, trivial⟩, hi1071, Nat.lt_succ_self _⟩
  obtain ⟨⟨x1112, x1113⟩, hx1114, hm⟩ := bd_some hm
  refine CallY.det (d_moon_Above x3 (W (5 + x1)) 20 t770 _ hx1114) ?_
  obtain ⟨⟨x1115, x1116⟩, hx1117, hm⟩ := bd_some hm
  refine CallY.det (d_moon_Show x3 (W (5 + x1)) 20 t770 true _ hx1117) ?_
  obtain ⟨⟨x1118, x1119⟩, hx1120, hm⟩ := bd_some hm
  refine CallY.det (d_moon_Show x3 (W (5 + x1)) 20 t770 false _ hx1120) ?_
  revert hm
  refine VIf.b (fun h1121 hm => ?_) (fun h1121 hm => ?_)
  cases hm
  cases hi1071
  have hm := hk1069
  cases hm
  exact RetY.le (leD.refl _)
  revert hm
  refine VIf.b (fun h1122 hm => ?_) (fun h1122 hm => ?_)
  cases hm
  cases hi1071
  have hm := hk1069
  cases hm
  exact RetY.le (leD.refl _)
  revert hm
  refine VIf.b (fun h1123 hm => ?_) (fun h1123 hm => ?_)
  cases hm
  cases hi1071
  have hm := hk1069
  cases hm
  exact RetY.le (leD.refl _)
  revert hm
  refine VIf.b (fun h1124 hm => ?_) (fun h1124 hm => ?_)
  obtain ⟨x1125, hx1126, hm⟩ := bd_some hm
  refine CallY.det (d_moon_CheckSlip x3 (W (5 + x1)) 20 x1115 _ hx1126) ?_
  revert hm
  refine VIf.b (fun h1127 hm => ?_) (fun h1127 hm => ?_)
  cases hm
  cases hi1071
  have hm := hk1069
  cases hm
  exact RetY.le (leD.refl _)
  obtain ⟨x1128, hx1129, hm⟩ := bd_some hm
  refine CallY.det (d_R02_Shines x3 x4 ((⟨x1115, t770⟩ : TMoon)) _ hx1129) ?_
  revert hm
  refine VIf.b (fun h1130 hm => ?_) (fun h1130 hm => ?_)
  cases hm
  cases hi1071
  have hm := hk1069
  cases hm
  exact RetY.le (leD.refl _)
  revert hm
  refine VIf.b (fun h1131 hm => ?_) (fun h1131 hm => ?_)
  obtain ⟨x1132, hx1133, hm⟩ := bd_some hm
  refine CallY.det (d_moon_CheckSlip x3 (W (5 + x1)) 20 x1118 _ hx1133) ?_
  revert hm
  refine VIf.b (fun h1134 hm => ?_) (fun h1134 hm => ?_)
  cases hm
  cases hi1071
  have hm := hk1069
  cases hm
  exact RetY.le (leD.refl _)
  obtain ⟨x1135, hx1136, hm⟩ := bd_some hm
  refine CallY.det (d_R02_Shines x3 x4 ((⟨x1118, t770⟩ : TMoon)) _ hx1136) ?_
  revert hm
  refine VIf.b (fun h1137 hm => ?_) (fun h1137 hm => ?_)
  cases hm
  cases hi1071
  have hm := hk1069
  cases hm
  exact RetY.le (leD.refl _)
  cases hm
  exact ⟨(_, (t770, low769, (W (t770 - 1)))), SubY.of 6 rfl ⟨tR rfl, tR rfl, tR rfl, tR rfl, tR rfl, tR rfl, tR rfl, tR rfl, tR rfl, tR rfl, tR rfl, tR rfl, tR rfl, tR rfl, tR rfl, tR rfl, tR rfl, tR rfl, tR rfl, tR rfl, trivial⟩ ⟨hR rfl, hR rfl, hR rfl, hR rfl, hR rfl, hR rfl, trivial⟩, hi1071, Nat.lt_succ_self _⟩
  cases hm
  exact ⟨(_, (t770, low769, (W (t770 - 1)))), SubY.of 6 rfl ⟨tR rfl, tR rfl, tR rfl, tR rfl, tR rfl, tR rfl, tR rfl, tR rfl, tR rfl, tR rfl, tR rfl, tR rfl, tR rfl, tR rfl, tR rfl, tR rfl, tR rfl, tR rfl, tR rfl, tR rfl, trivial⟩ ⟨hR rfl, hR rfl, hR rfl, hR rfl, hR rfl, hR rfl, trivial⟩, hi1071, Nat.lt_succ_self _⟩
  revert hm
  refine VIf.b (fun h1138 hm => ?_) (fun h1138 hm => ?_)
  obtain ⟨x1139, hx1140, hm⟩ := bd_some hm
  refine CallY.det (d_moon_CheckSlip x3 (W (5 + x1)) 20 x1118 _ hx1140) ?_
  revert hm
  refine VIf.b (fun h1141 hm => ?_) (fun h1141 hm => ?_)
  cases hm
  cases hi1071
  have hm := hk1069
  cases hm
  exact RetY.le (leD.refl _)
  obtain ⟨x1142, hx1143, hm⟩ := bd_some hm
  refine CallY.det (d_R02_Shines x3 x4 ((⟨x1118, t770⟩ : TMoon)) _ hx1143) ?_
  revert hm
  refine VIf.b (fun h1144 hm => ?_) (fun h1144 hm => ?_)
  cases hm
  cases hi1071
  have hm := hk1069
  cases hm
  exact RetY.le (leD.refl _)
  cases hm
  exact ⟨(_, (t770, low769, (W (t770 - 1)))), SubY.of 6 rfl ⟨tR rfl, tR rfl, tR rfl, tR rfl, tR rfl, tR rfl, tR rfl, tR rfl, tR rfl, tR rfl, tR rfl, tR rfl, tR rfl, tR rfl, tR rfl, tR rfl, tR rfl, tR rfl, tR rfl, tR rfl, trivial⟩ ⟨hR rfl, hR rfl, hR rfl, hR rfl, hR rfl, hR rfl, trivial⟩, hi1071, Nat.lt_succ_self _⟩
  cases hm
  exact ⟨(_, (t770, low769, (W (t770 - 1)))), SubY.of 6 rfl ⟨tR rfl, tR rfl, tR rfl, tR rfl, tR rfl, tR rfl, tR rfl, tR rfl, tR rfl, tR rfl, tR rfl, tR rfl, tR rfl, tR rfl, tR rfl, tR rfl, tR rfl, tR rfl, tR rfl, tR rfl, trivial⟩ ⟨hR rfl, hR rfl, hR rfl, hR rfl, hR rfl, hR rfl, trivial⟩, hi1071, Nat.lt_succ_self _⟩
  obtain ⟨x1145, hx1146, hm⟩ := bd_some hm
  refine CallY.det (d_R02_Shines x3 x4 ((⟨x14.Lo, t770⟩ : TMoon)) _ hx1146) ?_
  revert hm
  refine VIf.b (fun h1147 hm => ?_) (fun h1147 hm => ?_)
  obtain ⟨⟨x1148, x1149⟩, hx1150, hm⟩ := bd_some hm
  refine CallY.det (d_moon_Above x3 (W (5 + x1)) 20 t770 _ hx1150) ?_
  obtain ⟨⟨x1151, x1152⟩, hx1153, hm⟩ := bd_some hm
  refine CallY.det (d_moon_Show x3 (W (5 + x1)) 20 t770 true _ hx1153) ?_
  obtain ⟨⟨x1154, x1155⟩, hx1156, hm⟩ := bd_some hm
  refine CallY.det (d_moon_Show x3 (W (5 + x1)) 20 t770 false _ hx1156) ?_
  revert hm
  refine VIf.b (fun h1157 hm => ?_) (fun h1157 hm => ?_)
  cases hm
  cases hi1071
  have hm := hk1069
  cases hm
  exact RetY.le (leD.refl _)
  revert hm
  refine VIf.b (fun h1158 hm => ?_) (fun h1158 hm => ?_)
  cases hm
  cases hi1071
  have hm := hk1069
  cases hm
  exact RetY.le (leD.refl _)
  revert hm
  refine VIf.b (fun h1159 hm => ?_) (fun h1159 hm => ?_)
  cases hm
  cases hi1071
  have hm := hk1069
  cases hm
  exact RetY.le (leD.refl _)
  revert hm
  refine VIf.b (fun h1160 hm => ?_) (fun h1160 hm => ?_)
  obtain ⟨x1161, hx1162, hm⟩ := bd_some hm
  refine CallY.det (d_moon_CheckSlip x3 (W (5 + x1)) 20 x1151 _ hx1162) ?_
  revert hm
  refine VIf.b (fun h1163 hm => ?_) (fun h1163 hm => ?_)
  cases hm
  cases hi1071
  have hm := hk1069
  cases hm
  exact RetY.le (leD.refl _)
  obtain ⟨x1164, hx1165, hm⟩ := bd_some hm
  refine CallY.det (d_R02_Shines x3 x4 ((⟨x1151, t770⟩ : TMoon)) _ hx1165) ?_
  revert hm
  refine VIf.b (fun h1166 hm => ?_) (fun h1166 hm => ?_)
  cases hm
  cases hi1071
  have hm := hk1069
  cases hm
  exact RetY.le (leD.refl _)
  revert hm
  refine VIf.b (fun h1167 hm => ?_) (fun h1167 hm => ?_)
  obtain ⟨x1168, hx1169, hm⟩ := bd_some hm
  refine CallY.det (d_moon_CheckSlip x3 (W (5 + x1)) 20 x1154 _ hx1169) ?_
  revert hm
  refine VIf.b (fun h1170 hm => ?_) (fun h1170 hm => ?_)
  cases hm
  cases hi1071
  have hm := hk1069
  cases hm
  exact RetY.le (leD.refl _)
  obtain ⟨x1171, hx1172, hm⟩ := bd_some hm
  refine CallY.det (d_R02_Shines x3 x4 ((⟨x1154, t770⟩ : TMoon)) _ hx1172) ?_
  revert hm
  refine VIf.b (fun h1173 hm => ?_) (fun h1173 hm => ?_)
  cases hm
  cases hi1071
  have hm := hk1069
  cases hm
  exact RetY.le (leD.refl _)
  cases hm
  exact ⟨(_, (first768, t770, (W (t770 - 1)))), SubY.of 6 rfl ⟨tR rfl, tR rfl, tR rfl, tR rfl, tR rfl, tR rfl, tR rfl, tR rfl, tR rfl, tR rfl, tR rfl, tR rfl, tR rfl, tR rfl, tR rfl, tR rfl, tR rfl, tR rfl, tR rfl, tR rfl, trivial⟩ ⟨hR rfl, hR rfl, hR rfl, hR rfl, hR rfl, hR rfl, trivial⟩, hi1071, Nat.lt_succ_self _⟩
  cases hm
  exact ⟨(_, (first768, t770, (W (t770 - 1)))), SubY.of 6 rfl ⟨tR rfl, tR rfl, tR rfl, tR rfl, tR rfl, tR rfl, tR rfl, tR rfl, tR rfl, tR rfl, tR rfl, tR rfl, tR rfl, tR rfl, tR rfl, tR rfl, tR rfl, tR rfl, tR rfl, tR rfl, trivial⟩ ⟨hR rfl, hR rfl, hR rfl, hR rfl, hR rfl, hR rfl, trivial⟩, hi1071, Nat.lt_succ_self _⟩
  revert hm
  refine VIf.b (fun h1174 hm => ?_) (fun h1174 hm => ?_)
  obtain ⟨x1175, hx1176, hm⟩ := bd_some hm
  refine CallY.det (d_moon_CheckSlip x3 (W (5 + x1)) 20 x1154 _ hx1176) ?_
  revert hm
  refine VIf.b (fun h1177 hm => ?_) (fun h1177 hm => ?_)
  cases hm
  cases hi1071
  have hm := hk1069
  cases hm
  exact RetY.le (leD.refl _)
  obtain ⟨x1178, hx1179, hm⟩ := bd_some hm
  refine CallY.det (d_R02_Shines x3 x4 ((⟨x1154, t770⟩ : TMoon)) _ hx1179) ?_
  revert hm
  refine VIf.b (fun h1180 hm => ?_) (fun h1180 hm => ?_)
  cases hm
  cases hi1071
  have hm := hk1069
  cases hm
  exact RetY.le (leD.refl _)
  cases hm
  exact ⟨(_, (first768, t770, (W (t770 - 1)))), SubY.of 6 rfl ⟨tR rfl, tR rfl, tR rfl, tR rfl, tR rfl, tR rfl, tR rfl, tR rfl, tR rfl, tR rfl, tR rfl, tR rfl, tR rfl, tR rfl, tR rfl, tR rfl, tR rfl, tR rfl, tR rfl, tR rfl, trivial⟩ ⟨hR rfl, hR rfl, hR rfl, hR rfl, hR rfl, hR rfl, trivial⟩, hi1071, Nat.lt_succ_self _⟩
  cases hm
  exact ⟨(_, (first768, t770, (W (t770 - 1)))), SubY.of 6 rfl ⟨tR rfl, tR rfl, tR rfl, tR rfl, tR rfl, tR rfl, tR rfl, tR rfl, tR rfl, tR rfl, tR rfl, tR rfl, tR rfl, tR rfl, tR rfl, tR rfl, tR rfl, tR rfl, tR rfl, tR rfl, trivial⟩ ⟨hR rfl, hR rfl, hR rfl, hR rfl, hR rfl, hR rfl, trivial⟩, hi1071, Nat.lt_succ_self _⟩
  obtain ⟨⟨x1181, x1182⟩, hx1183, hm⟩ := bd_some hm
  refine CallY.det (d_moon_Above x3 (W (5 + x1)) 20 t770 _ hx1183) ?_
  obtain ⟨⟨x1184, x1185⟩, hx1186, hm⟩ := bd_some hm
  refine CallY.det (d_moon_Show x3 (W (5 + x1)) 20 t770 true _ hx1186) ?_
  obtain ⟨⟨x1187, x1188⟩, hx1189, hm⟩ := bd_some hm
  refine CallY.det (d_moon_Show x3 (W (5 + x1)) 20 t770 false _ hx1189) ?_
  revert hm
  refine VIf.b (fun h1190 hm => ?_) (fun h1190 hm => ?_)
  cases hm
  cases hi1071
  have hm := hk1069
  cases hm
  exact RetY.le (leD.refl _)
  revert hm
  refine VIf.b (fun h1191 hm => ?_) (fun h1191 hm => ?_)
  cases hm
  cases hi1071
  have hm := hk1069
  cases hm
  exact RetY.le (leD.refl _)
  revert hm
  refine VIf.b (fun h1192 hm => ?_) (fun h1192 hm => ?_)
  cases hm
  cases hi1071
  have hm := hk1069
  cases hm
  exact RetY.le (leD.refl _)
  revert hm
  refine VIf.b (fun h1193 hm => ?_) (fun h1193 hm => ?_)
  obtain ⟨x1194, hx1195, hm⟩ := bd_some hm
  refine CallY.det (d_moon_CheckSlip x3 (W (5 + x1)) 20 x1184 _ hx1195) ?_
  revert hm
  refine VIf.b (fun h1196 hm => ?_) (fun h1196 hm => ?_)
  cases hm
  cases hi1071
  have hm := hk1069
  cases hm
  exact RetY.le (leD.refl _)
  obtain ⟨x1197, hx1198, hm⟩ := bd_some hm
  refine CallY.det (d_R02_Shines x3 x4 ((⟨x1184, t770⟩ : TMoon)) _ hx1198) ?_
  revert hm
  refine VIf.b (fun h1199 hm => ?_) (fun h1199 hm => ?_)
  cases hm
  cases hi1071
  have hm := hk1069
  cases hm
  exact RetY.le (leD.refl _)
  revert hm
  refine VIf.b (fun h1200 hm => ?_) (fun h1200 hm => ?_)
  obtain ⟨x1201, hx1202, hm⟩ := bd_some hm
  refine CallY.det (d_moon_CheckSlip x3 (W (5 + x1)) 20 x1187 _ hx1202) ?_
  revert hm
  refine VIf.b (fun h1203 hm => ?_) (fun h1203 hm => ?_)
  cases hm
  cases hi1071
  have hm := hk1069
  cases hm
  exact RetY.le (leD.refl _)
  obtain ⟨x1204, hx1205, hm⟩ := bd_some hm
  refine CallY.det (d_R02_Shines x3 x4 ((⟨x1187, t770⟩ : TMoon)) _ hx1205) ?_
  revert hm
  refine VIf.b (fun h1206 hm => ?_) (fun h1206 hm => ?_)
  cases hm
  cases hi1071
  have hm := hk1069
  cases hm
  exact RetY.le (leD.refl _)
  cases hm
  exact ⟨(_, (first768, low769, (W (t770 - 1)))), SubY.of 6 rfl ⟨tR rfl, tR rfl, tR rfl, tR rfl, tR rfl, tR rfl, tR rfl, tR rfl, tR rfl, tR rfl, tR rfl, tR rfl, tR rfl, tR rfl, tR rfl, tR rfl, tR rfl, tR rfl, tR rfl, tR rfl, trivial⟩ ⟨hR rfl, hR rfl, hR rfl, hR rfl, hR rfl, hR rfl, trivial⟩, hi1071, Nat.lt_succ_self _⟩
  cases hm
  exact ⟨(_, (first768, low769, (W (t770 - 1)))), SubY.of 6 rfl ⟨tR rfl, tR rfl, tR rfl, tR rfl, tR rfl, tR rfl, tR rfl, tR rfl, tR rfl, tR rfl, tR rfl, tR rfl, tR rfl, tR rfl, tR rfl, tR rfl, tR rfl, tR rfl, tR rfl, tR rfl, trivial⟩ ⟨hR rfl, hR rfl, hR rfl, hR rfl, hR rfl, hR rfl, trivial⟩, hi1071, Nat.lt_succ_self _⟩
  revert hm
  refine VIf.b (fun h1207 hm => ?_) (fun h1207 hm => ?_)
  obtain ⟨x1208, hx1209, hm⟩ := bd_some hm
  refine CallY.det (d_moon_CheckSlip x3 (W (5 + x1)) 20 x1187 _ hx1209) ?_
  revert hm
  refine VIf.b (fun h1210 hm => ?_) (fun h1210 hm => ?_)
  cases hm
  cases hi1071
  have hm := hk1069
  cases hm
  exact RetY.le (leD.refl _)
  obtain ⟨x1211, hx1212, hm⟩ := bd_some hm
  refine CallY.det (d_R02_Shines x3 x4 ((⟨x1187, t770⟩ : TMoon)) _ hx1212) ?_
  revert hm
  refine VIf.b (fun h1213 hm => ?_) (fun h1213 hm => ?_)
  cases hm
  cases hi1071
  have hm := hk1069
  cases hm
  exact RetY.le (leD.refl _)
  cases hm
  exact ⟨(_, (first768, low769, (W (t770 - 1)))), SubY.of 6 rfl ⟨tR rfl, tR rfl, tR rfl, tR rfl, tR rfl, tR rfl, tR rfl, tR rfl, tR rfl, tR rfl, tR rfl, tR rfl, tR rfl, tR rfl, tR rfl, tR rfl, tR rfl, tR rfl, tR rfl, tR rfl, trivial⟩ ⟨hR rfl, hR rfl, hR rfl, hR rfl, hR rfl, hR rfl, trivial⟩, hi1071, Nat.lt_succ_self _⟩
  cases hm
  exact ⟨(_, (first768, low769, (W (t770 - 1)))), SubY.of 6 rfl ⟨tR rfl, tR rfl, tR rfl, tR rfl, tR rfl, tR rfl, tR rfl, tR rfl, tR rfl, tR rfl, tR rfl, tR rfl, tR rfl, tR rfl, tR rfl, tR rfl, tR rfl, tR rfl, tR rfl, tR rfl, trivial⟩ ⟨hR rfl, hR rfl, hR rfl, hR rfl, hR rfl, hR rfl, trivial⟩, hi1071, Nat.lt_succ_self _⟩
  cases hm
  cases hi1071
  have hm := hk1069
  revert hm
  refine VIf.b (fun h1214 hm => ?_) (fun h1214 hm => ?_)
  revert hm
  refine VIf.b (fun h1215 hm => ?_) (fun h1215 hm => ?_)
  revert hm
  refine VIf.b (fun h1216 hm => ?_) (fun h1216 hm => ?_)
  obtain ⟨x1217, hx1218, hm⟩ := bd_some hm
  refine CallY.det (d_L02_sane  _ hx1218) ?_
  cases hm
  exact RetY.le (leD.refl _)
  cases hm
  exact RetY.le (leD.refl _)
  revert hm
  refine VIf.b (fun h1219 hm => ?_) (fun h1219 hm => ?_)
  revert hm
  refine VIf.b (fun h1220 hm => ?_) (fun h1220 hm => ?_)
  obtain ⟨x1221, hx1222, hm⟩ := bd_some hm
  refine CallY.det (d_L02_sane  _ hx1222) ?_
  cases hm
  exact RetY.le (leD.refl _)
  cases hm
  exact RetY.le (leD.refl _)
  cases hm
  exact RetY.le (leD.refl _)
  cases hm
  exact RetY.le (leD.refl _)

end Go.Proofs.Ytdhjccionnbljaa
