/- MusterSteps: for every input the statement's call returns true; the arguments read behind it as they did. No conditions. -/
import Derived.Test.YtcedmbakcchkiaaGreatDoorM1
import Derived.Test.YtcedmbakcchkiaaGreatDoorRows
import Derived.Test.YtcedmbakcchkiaaGreatDoorTie
import Derived.Test.YtcedmbakcchkiaaGreatDoorCards
import Derived.SevenTiedAt
import Derived.LaidLaws
import Derived.Lay
import Derived.LaidOnce
import Derived.MakeChecks
namespace Go.Proofs.YtcedmbakcchkiaaGreatDoor
open Go Go.RowKit Go.Sx Go.ChangeShapes

theorem ownMusterSteps : ownKnob Tryz.prog.godebug = none := by kernel_rfl
theorem laidMusterSteps : laidOutB Tryz.prog = true := by kernel_rfl
theorem law_MusterSteps (x : a6 × b8 × a7V × Unit) (h : a6.G x.1 ∧ b8.G x.2.1 ∧ a7V.G x.2.2.1 ∧ True) : d7 Tryz.prog 5 [.agg (a6.c x.1), .agg (b8.c x.2.1), .agg (a7V.c x.2.2.1)] (fun y => y = .v (.bool true)) := by
  obtain ⟨h0, h1, h2, _⟩ := h
  exact a8W (x.1) (x.2.1) (x.2.2.1) true (b1x (x.1) (x.2.1) (x.2.2.1) h0 h1 h2)
set_option maxRecDepth 100000 in
theorem liftedMusterSteps (os : Os) (started : os.Started) (H : Type) (enc : TypeId × Value → H) :
    ReturnsInHanded {} Tryz.checked os 5 .any (fun w args => (Rows.musterStepsSpec.pre enc Tryz.prog Tryz.f5 Rows.musterStepsRow.domain false w args ∧ laidMetH Tryz.prog Rows.musterStepsRow.laid w) ∧ sizedMet enc Tryz.prog Tryz.f5 (OpenSpec.ofChange Rows.musterStepsSpec) false w args) (Rows.musterStepsSpec.post enc Tryz.prog Tryz.f5 false true false false) := by
  refine returnsInHanded_of_change_and (C := Tryz.checked) (X := (fun w _ => laidMetH Tryz.prog Rows.musterStepsRow.laid w)) (fun _ _ _ hh h => h.of_heap hh) ownMusterSteps started (by kernel_rfl) Tryz.func5
    (ChangeSpec.witness_shaped (enc := enc) (C := Tryz.checked) (X := (fun w _ => laidMetH Tryz.prog Rows.musterStepsRow.laid w)) false (World.laidAll Tryz.prog os Rows.musterStepsRow.laid) #[.agg #[.int .i64 0, .int .i64 0, .slice none 0 0, .slice none 0 0, .slice none 0 0, .slice none 0 0, .slice none 0 0, .int .i64 0, .slice none 0 0, .slice none 0 0, .slice none 0 0, .slice none 0 0, .slice none 0 0], .agg #[.int .i64 0, .int .i64 0, .int .i64 0, .int .i64 0, .int .i64 0, .int .i64 0, .int .i64 0, .int .i64 0, .int .i64 0, .int .i64 0, .int .i64 0], .agg #[.int .i64 0, .int .i64 0, .int .i64 0, .int .i64 0, .int .i64 0, .int .i64 0, .int .i64 0, .int .i64 0, .int .i64 0]] 12 (World.laidAll_os _ _ _) (World.shaped_of_ZipB (by kernel_rfl) (by kernel_rfl)) (by kernel_rfl) (by kernel_rfl) (by kernel_rfl)
      (by rw [MakeChecks.laidMetH_plain _ _ _ (by kernel_rfl)]; exact laidMet_laidAll _ (by kernel_rfl) (by kernel_rfl))) ?_
  intro W base args ds gs before hval hW _ hwt _ _
  exact b4n (P := Tryz.prog) (ts := [30, 42, 54]) (tb := 4) (O4.agg c5d (fun _ => rfl) (by rw [Tryz.underlying30]) (O4.agg c3Z (fun _ => rfl) (by rw [Tryz.underlying42]) (O4.agg c3A (fun _ => rfl) (by rw [Tryz.underlying54]) O4.nil))) (fun x h => law_MusterSteps x h) (by rw [Tryz.params5]) laidMusterSteps (by kernel_rfl) rfl rfl Tryz.underlying4 (fun ds h => by
    match ds, h with
    | [_, _, _], _ => exact ⟨rfl, rfl, rfl⟩) hval hW hwt
theorem musterSteps_row : Rows.MusterStepsSaid :=
  OpenClaim.holds_of_wide 5 Tryz.f5 rfl rfl rfl rfl rfl rfl rfl ⟨rfl, rfl, rfl, rfl, rfl⟩ rfl rfl rfl rfl rfl (by kernel_rfl) Tryz.func5 (by kernel_rfl)
    (of_decide_eq_true (by kernel_rfl)) (by unfold Func.isWrapper; first | (rw [if_pos (by decide +kernel)]; kernel_rfl) | (rw [if_neg (by decide +kernel)]; exact ⟨rfl, rfl⟩))
    (fun os started H enc _ => liftedMusterSteps os started H enc)
theorem musterSteps_proved : Rows.MusterStepsCardSaid :=
  Claim7.holds_tied_plain_at .later [] [.data, .data, .data] true (true, "ddc12b51475b83b79dc50a6a1a73d81463255e21f7e6add9724f72c147374224") false
    musterSteps_row (fun _ h => by cases h) (by kernel_rfl) (fun _ h => by cases h) musterSteps_row_tie rfl ⟨rfl, rfl⟩ (by kernel_rfl) rfl
    (fun f fn hf hfn => by
      obtain rfl : f = 5 := (Option.some.inj ((show Tryz.prog.funcNamed "gasolier/gasolierlaw09.MusterSteps" = some 5 by kernel_rfl).symm.trans hf)).symm
      obtain rfl : fn = Tryz.f5 := (Option.some.inj (Tryz.func5.symm.trans hfn)).symm
      exact ⟨by kernel_rfl, fun j t ht => by
        have hall : (Tryz.f5.params.toList.all fun t => !Tryz.prog.wantsStandIn t) = true := by kernel_rfl
        have h2 := List.all_eq_true.1 hall t (List.mem_of_getElem? (by simpa using ht))
        exact (show Tryz.prog.wantsStandIn t = false by simpa using h2)⟩)
    (by kernel_rfl)
end Go.Proofs.YtcedmbakcchkiaaGreatDoor
