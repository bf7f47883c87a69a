/- MusterEnds: for every input the statement's call returns true; the arguments read behind it as they did. No conditions. -/
import Derived.Test.YtcedmbakcchkiaaGreatDoorM1
import Derived.Test.YtcedmbakcchkiaaGreatDoorRows
import Derived.Test.YtcedmbakcchkiaaGreatDoorTie
import Derived.Test.YtcedmbakcchkiaaGreatDoorCards
import Derived.SevenTiedAt
import Derived.LaidLaws
import Derived.Lay
import Derived.LaidOnce
import Derived.MakeChecks
namespace Go.Proofs.YtcedmbakcchkiaaGreatDoor
open Go Go.RowKit Go.Sx Go.ChangeShapes

theorem ownMusterEnds : ownKnob Tryz.prog.godebug = none := by kernel_rfl
theorem laidMusterEnds : laidOutB Tryz.prog = true := by kernel_rfl
theorem law_MusterEnds (x : (List N9) × (Int × Int × Int) × Unit) (h : (x.1.length * 72 ≤ reachBytes ∧ x.1.length ≤ maxLen ∧ ∀ y : N9, y ∈ x.1 → N9.G y) ∧ (InK .i64 x.2.1.1 ∧ InK .i64 x.2.1.2.1 ∧ InK .i64 x.2.1.2.2) ∧ True) : l8 Tryz.prog 8 [lD 9 x.1 N9.c, .agg [DI x.2.1.1, DI x.2.1.2.1, DI x.2.1.2.2]] (fun y => y = .v (.bool true)) := by
  obtain ⟨h0, h1, _⟩ := h
  exact a9J (x.1) (x.2.1) true (b2U (x.1) (x.2.1) h0 h1)
set_option maxRecDepth 100000 in
theorem liftedMusterEnds (os : Os) (started : os.Started) (H : Type) (enc : TypeId × Value → H) :
    ReturnsInHanded {} Tryz.checked os 8 .any (fun w args => (Rows.musterEndsSpec.pre enc Tryz.prog Tryz.f8 Rows.musterEndsRow.domain false w args ∧ laidMetH Tryz.prog Rows.musterEndsRow.laid w) ∧ sizedMet enc Tryz.prog Tryz.f8 (OpenSpec.ofChange Rows.musterEndsSpec) false w args) (Rows.musterEndsSpec.post enc Tryz.prog Tryz.f8 false true false false) := by
  refine returnsInHanded_of_change_and (C := Tryz.checked) (X := (fun w _ => laidMetH Tryz.prog Rows.musterEndsRow.laid w)) (fun _ _ _ hh h => h.of_heap hh) ownMusterEnds started (by kernel_rfl) Tryz.func8
    (ChangeSpec.witness_shaped (enc := enc) (C := Tryz.checked) (X := (fun w _ => laidMetH Tryz.prog Rows.musterEndsRow.laid w)) false (World.laidAll Tryz.prog os Rows.musterEndsRow.laid) #[.slice none 0 0, .agg #[.int .i64 0, .int .i64 0, .int .i64 0]] 12 (World.laidAll_os _ _ _) (World.shaped_of_ZipB (by kernel_rfl) (by kernel_rfl)) (by kernel_rfl) (by kernel_rfl) (by kernel_rfl)
      (by rw [MakeChecks.laidMetH_plain _ _ _ (by kernel_rfl)]; exact laidMet_laidAll _ (by kernel_rfl) (by kernel_rfl))) ?_
  intro W base args ds gs before hval hW _ hwt _ _
  exact b4R (P := Tryz.prog) (ts := [70, 52]) (tb := 4) (W6.one c5i (by rw [Tryz.underlying70]) (W6.agg c5G (fun _ => rfl) (by rw [Tryz.underlying52]) W6.nil)) (fun x h => law_MusterEnds x h) (by rw [Tryz.params8]) laidMusterEnds (by kernel_rfl) rfl rfl Tryz.underlying4 (fun ds h => by
    match ds, h with
    | [_, _], _ => exact ⟨rfl, rfl, rfl⟩) hval hW hwt
theorem musterEnds_row : Rows.MusterEndsSaid :=
  OpenClaim.holds_of_wide 8 Tryz.f8 rfl rfl rfl rfl rfl rfl rfl ⟨rfl, rfl, rfl, rfl, rfl⟩ rfl rfl rfl rfl rfl (by kernel_rfl) Tryz.func8 (by kernel_rfl)
    (of_decide_eq_true (by kernel_rfl)) (by unfold Func.isWrapper; first | (rw [if_pos (by decide +kernel)]; kernel_rfl) | (rw [if_neg (by decide +kernel)]; exact ⟨rfl, rfl⟩))
    (fun os started H enc _ => liftedMusterEnds os started H enc)
theorem musterEnds_proved : Rows.MusterEndsCardSaid :=
  Claim7.holds_tied_plain_at .later [] [.data, .data, .data] true (true, "ddc12b51475b83b79dc50a6a1a73d81463255e21f7e6add9724f72c147374224") false
    musterEnds_row (fun _ h => by cases h) (by kernel_rfl) (fun _ h => by cases h) musterEnds_row_tie rfl ⟨rfl, rfl⟩ (by kernel_rfl) rfl
    (fun f fn hf hfn => by
      obtain rfl : f = 8 := (Option.some.inj ((show Tryz.prog.funcNamed "gasolier/gasolierlaw09.MusterEnds" = some 8 by kernel_rfl).symm.trans hf)).symm
      obtain rfl : fn = Tryz.f8 := (Option.some.inj (Tryz.func8.symm.trans hfn)).symm
      exact ⟨by kernel_rfl, fun j t ht => by
        have hall : (Tryz.f8.params.toList.all fun t => !Tryz.prog.wantsStandIn t) = true := by kernel_rfl
        have h2 := List.all_eq_true.1 hall t (List.mem_of_getElem? (by simpa using ht))
        exact (show Tryz.prog.wantsStandIn t = false by simpa using h2)⟩)
    (by kernel_rfl)
end Go.Proofs.YtcedmbakcchkiaaGreatDoor
