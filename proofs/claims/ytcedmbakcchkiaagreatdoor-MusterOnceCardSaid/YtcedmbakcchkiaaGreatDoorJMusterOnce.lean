/- MusterOnce: for every input the statement's call returns true; the arguments read behind it as they did. No conditions. -/
import Derived.Test.YtcedmbakcchkiaaGreatDoorM1
import Derived.Test.YtcedmbakcchkiaaGreatDoorRows
import Derived.Test.YtcedmbakcchkiaaGreatDoorTie
import Derived.Test.YtcedmbakcchkiaaGreatDoorCards
import Derived.SevenTiedAt
import Derived.LaidLaws
import Derived.Lay
import Derived.LaidOnce
import Derived.MakeChecks
namespace Go.Proofs.YtcedmbakcchkiaaGreatDoor
open Go Go.RowKit Go.Sx Go.ChangeShapes

theorem ownMusterOnce : ownKnob Tryz.prog.godebug = none := by kernel_rfl
theorem laidMusterOnce : laidOutB Tryz.prog = true := by kernel_rfl
theorem law_MusterOnce (x : (List a1A) × Unit) (h : (x.1.length * 72 ≤ reachBytes ∧ x.1.length ≤ maxLen ∧ ∀ y : a1A, y ∈ x.1 → a1A.G y) ∧ True) : k9 Tryz.prog 11 [lD 9 x.1 a1A.c] (fun y => y = .v (.bool true)) := by
  obtain ⟨h0, _⟩ := h
  exact a9v (x.1) true (b2W (x.1) h0)
set_option maxRecDepth 100000 in
theorem liftedMusterOnce (os : Os) (started : os.Started) (H : Type) (enc : TypeId × Value → H) :
    ReturnsInHanded {} Tryz.checked os 11 .any (fun w args => (Rows.musterOnceSpec.pre enc Tryz.prog Tryz.f11 Rows.musterOnceRow.domain false w args ∧ laidMetH Tryz.prog Rows.musterOnceRow.laid w) ∧ sizedMet enc Tryz.prog Tryz.f11 (OpenSpec.ofChange Rows.musterOnceSpec) false w args) (Rows.musterOnceSpec.post enc Tryz.prog Tryz.f11 false true false false) := by
  refine returnsInHanded_of_change_and (C := Tryz.checked) (X := (fun w _ => laidMetH Tryz.prog Rows.musterOnceRow.laid w)) (fun _ _ _ hh h => h.of_heap hh) ownMusterOnce started (by kernel_rfl) Tryz.func11
    (ChangeSpec.witness_shaped (enc := enc) (C := Tryz.checked) (X := (fun w _ => laidMetH Tryz.prog Rows.musterOnceRow.laid w)) false (World.laidAll Tryz.prog os Rows.musterOnceRow.laid) #[.slice none 0 0] 12 (World.laidAll_os _ _ _) (World.shaped_of_ZipB (by kernel_rfl) (by kernel_rfl)) (by kernel_rfl) (by kernel_rfl) (by kernel_rfl)
      (by rw [MakeChecks.laidMetH_plain _ _ _ (by kernel_rfl)]; exact laidMet_laidAll _ (by kernel_rfl) (by kernel_rfl))) ?_
  intro W base args ds gs before hval hW _ hwt _ _
  exact b4s (P := Tryz.prog) (ts := [70]) (tb := 4) (X6.one c4N (by rw [Tryz.underlying70]) X6.nil) (fun x h => law_MusterOnce x h) (by rw [Tryz.params11]) laidMusterOnce (by kernel_rfl) rfl rfl Tryz.underlying4 (fun ds h => by
    match ds, h with
    | [_], _ => exact ⟨rfl, rfl, rfl⟩) hval hW hwt
theorem musterOnce_row : Rows.MusterOnceSaid :=
  OpenClaim.holds_of_wide 11 Tryz.f11 rfl rfl rfl rfl rfl rfl rfl ⟨rfl, rfl, rfl, rfl, rfl⟩ rfl rfl rfl rfl rfl (by kernel_rfl) Tryz.func11 (by kernel_rfl)
    (of_decide_eq_true (by kernel_rfl)) (by unfold Func.isWrapper; first | (rw [if_pos (by decide +kernel)]; kernel_rfl) | (rw [if_neg (by decide +kernel)]; exact ⟨rfl, rfl⟩))
    (fun os started H enc _ => liftedMusterOnce os started H enc)
theorem musterOnce_proved : Rows.MusterOnceCardSaid :=
  Claim7.holds_tied_plain_at .later [] [.data, .data, .data] true (true, "ddc12b51475b83b79dc50a6a1a73d81463255e21f7e6add9724f72c147374224") false
    musterOnce_row (fun _ h => by cases h) (by kernel_rfl) (fun _ h => by cases h) musterOnce_row_tie rfl ⟨rfl, rfl⟩ (by kernel_rfl) rfl
    (fun f fn hf hfn => by
      obtain rfl : f = 11 := (Option.some.inj ((show Tryz.prog.funcNamed "gasolier/gasolierlaw09.MusterOnce" = some 11 by kernel_rfl).symm.trans hf)).symm
      obtain rfl : fn = Tryz.f11 := (Option.some.inj (Tryz.func11.symm.trans hfn)).symm
      exact ⟨by kernel_rfl, fun j t ht => by
        have hall : (Tryz.f11.params.toList.all fun t => !Tryz.prog.wantsStandIn t) = true := by kernel_rfl
        have h2 := List.all_eq_true.1 hall t (List.mem_of_getElem? (by simpa using ht))
        exact (show Tryz.prog.wantsStandIn t = false by simpa using h2)⟩)
    (by kernel_rfl)
end Go.Proofs.YtcedmbakcchkiaaGreatDoor
