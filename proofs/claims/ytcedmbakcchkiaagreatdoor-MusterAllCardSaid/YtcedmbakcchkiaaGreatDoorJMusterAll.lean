/- MusterAll: for every input the statement's call returns true; the arguments read behind it as they did. No conditions. -/
import Derived.Test.YtcedmbakcchkiaaGreatDoorM1
import Derived.Test.YtcedmbakcchkiaaGreatDoorRows
import Derived.Test.YtcedmbakcchkiaaGreatDoorTie
import Derived.Test.YtcedmbakcchkiaaGreatDoorCards
import Derived.SevenTiedAt
import Derived.LaidLaws
import Derived.Lay
import Derived.LaidOnce
import Derived.MakeChecks
namespace Go.Proofs.YtcedmbakcchkiaaGreatDoor
open Go Go.RowKit Go.Sx Go.ChangeShapes

theorem ownMusterAll : ownKnob Tryz.prog.godebug = none := by kernel_rfl
theorem laidMusterAll : laidOutB Tryz.prog = true := by kernel_rfl
theorem law_MusterAll (x : (List a6) × (Int × Int) × Int × Unit) (h : (x.1.length * 264 ≤ reachBytes ∧ x.1.length ≤ maxLen ∧ ∀ y : a6, y ∈ x.1 → a6.G y) ∧ (InK .i64 x.2.1.1 ∧ InK .i64 x.2.1.2) ∧ InK .i64 x.2.2.1 ∧ True) : d0 Tryz.prog 10 [lD 13 x.1 a6.c, .agg [DI x.2.1.1, DI x.2.1.2], DI x.2.2.1] (fun y => y = .v (.bool true)) := by
  obtain ⟨h0, h1, h2, _⟩ := h
  exact a9r (x.1) (x.2.1) (x.2.2.1) true (b3l (x.1) (x.2.1) (x.2.2.1) h0 h1 h2)
set_option maxRecDepth 100000 in
theorem liftedMusterAll (os : Os) (started : os.Started) (H : Type) (enc : TypeId × Value → H) :
    ReturnsInHanded {} Tryz.checked os 10 .any (fun w args => (Rows.musterAllSpec.pre enc Tryz.prog Tryz.f10 Rows.musterAllRow.domain false w args ∧ laidMetH Tryz.prog Rows.musterAllRow.laid w) ∧ sizedMet enc Tryz.prog Tryz.f10 (OpenSpec.ofChange Rows.musterAllSpec) false w args) (Rows.musterAllSpec.post enc Tryz.prog Tryz.f10 false true false false) := by
  refine returnsInHanded_of_change_and (C := Tryz.checked) (X := (fun w _ => laidMetH Tryz.prog Rows.musterAllRow.laid w)) (fun _ _ _ hh h => h.of_heap hh) ownMusterAll started (by kernel_rfl) Tryz.func10
    (ChangeSpec.witness_shaped (enc := enc) (C := Tryz.checked) (X := (fun w _ => laidMetH Tryz.prog Rows.musterAllRow.laid w)) false (World.laidAll Tryz.prog os Rows.musterAllRow.laid) #[.slice none 0 0, .agg #[.int .i64 0, .int .i64 0], .int .i64 0] 12 (World.laidAll_os _ _ _) (World.shaped_of_ZipB (by kernel_rfl) (by kernel_rfl)) (by kernel_rfl) (by kernel_rfl) (by kernel_rfl)
      (by rw [MakeChecks.laidMetH_plain _ _ _ (by kernel_rfl)]; exact laidMet_laidAll _ (by kernel_rfl) (by kernel_rfl))) ?_
  intro W base args ds gs before hval hW _ hwt _ _
  exact b3H (P := Tryz.prog) (ts := [77, 92, 3]) (tb := 4) (L2.one c4o (by rw [Tryz.underlying77]) (L2.agg c3t (fun _ => rfl) (by rw [Tryz.underlying92]) (L2.one (j7.int Tryz.underlying3) (by rw [Tryz.underlying3]) L2.nil))) (fun x h => law_MusterAll x h) (by rw [Tryz.params10]) laidMusterAll (by kernel_rfl) rfl rfl Tryz.underlying4 (fun ds h => by
    match ds, h with
    | [_, _, _], _ => exact ⟨rfl, rfl, rfl⟩) hval hW hwt
theorem musterAll_row : Rows.MusterAllSaid :=
  OpenClaim.holds_of_wide 10 Tryz.f10 rfl rfl rfl rfl rfl rfl rfl ⟨rfl, rfl, rfl, rfl, rfl⟩ rfl rfl rfl rfl rfl (by kernel_rfl) Tryz.func10 (by kernel_rfl)
    (of_decide_eq_true (by kernel_rfl)) (by unfold Func.isWrapper; first | (rw [if_pos (by decide +kernel)]; kernel_rfl) | (rw [if_neg (by decide +kernel)]; exact ⟨rfl, rfl⟩))
    (fun os started H enc _ => liftedMusterAll os started H enc)
theorem musterAll_proved : Rows.MusterAllCardSaid :=
  Claim7.holds_tied_plain_at .later [] [.data, .data, .data] true (true, "ddc12b51475b83b79dc50a6a1a73d81463255e21f7e6add9724f72c147374224") false
    musterAll_row (fun _ h => by cases h) (by kernel_rfl) (fun _ h => by cases h) musterAll_row_tie rfl ⟨rfl, rfl⟩ (by kernel_rfl) rfl
    (fun f fn hf hfn => by
      obtain rfl : f = 10 := (Option.some.inj ((show Tryz.prog.funcNamed "gasolier/gasolierlaw09.MusterAll" = some 10 by kernel_rfl).symm.trans hf)).symm
      obtain rfl : fn = Tryz.f10 := (Option.some.inj (Tryz.func10.symm.trans hfn)).symm
      exact ⟨by kernel_rfl, fun j t ht => by
        have hall : (Tryz.f10.params.toList.all fun t => !Tryz.prog.wantsStandIn t) = true := by kernel_rfl
        have h2 := List.all_eq_true.1 hall t (List.mem_of_getElem? (by simpa using ht))
        exact (show Tryz.prog.wantsStandIn t = false by simpa using h2)⟩)
    (by kernel_rfl)
end Go.Proofs.YtcedmbakcchkiaaGreatDoor
