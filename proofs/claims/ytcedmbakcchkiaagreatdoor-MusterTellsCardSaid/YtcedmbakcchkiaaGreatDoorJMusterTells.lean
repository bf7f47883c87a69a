/- MusterTells: for every input the statement's call returns true; the arguments read behind it as they did. No conditions. -/
import Derived.Test.YtcedmbakcchkiaaGreatDoorM1
import Derived.Test.YtcedmbakcchkiaaGreatDoorRows
import Derived.Test.YtcedmbakcchkiaaGreatDoorTie
import Derived.Test.YtcedmbakcchkiaaGreatDoorCards
import Derived.SevenTiedAt
import Derived.LaidLaws
import Derived.Lay
import Derived.LaidOnce
import Derived.MakeChecks
namespace Go.Proofs.YtcedmbakcchkiaaGreatDoor
open Go Go.RowKit Go.Sx Go.ChangeShapes

theorem ownMusterTells : ownKnob Tryz.prog.godebug = none := by kernel_rfl
theorem laidMusterTells : laidOutB Tryz.prog = true := by kernel_rfl
theorem law_MusterTells (x : a6 × Int × K4 × Unit) (h : a6.G x.1 ∧ InK .i64 x.2.1 ∧ K4.G x.2.2.1 ∧ True) : d6 Tryz.prog 9 [.agg (a6.c x.1), DI x.2.1, .agg (K4.c x.2.2.1)] (fun y => y = .v (.bool true)) := by
  obtain ⟨h0, h1, h2, _⟩ := h
  exact a7G (x.1) (x.2.1) (x.2.2.1) true (b0q (x.1) (x.2.1) (x.2.2.1) h0 h1 h2)
set_option maxRecDepth 100000 in
theorem liftedMusterTells (os : Os) (started : os.Started) (H : Type) (enc : TypeId × Value → H) :
    ReturnsInHanded {} Tryz.checked os 9 .any (fun w args => (Rows.musterTellsSpec.pre enc Tryz.prog Tryz.f9 Rows.musterTellsRow.domain false w args ∧ laidMetH Tryz.prog Rows.musterTellsRow.laid w) ∧ sizedMet enc Tryz.prog Tryz.f9 (OpenSpec.ofChange Rows.musterTellsSpec) false w args) (Rows.musterTellsSpec.post enc Tryz.prog Tryz.f9 false true false false) := by
  refine returnsInHanded_of_change_and (C := Tryz.checked) (X := (fun w _ => laidMetH Tryz.prog Rows.musterTellsRow.laid w)) (fun _ _ _ hh h => h.of_heap hh) ownMusterTells started (by kernel_rfl) Tryz.func9
    (ChangeSpec.witness_shaped (enc := enc) (C := Tryz.checked) (X := (fun w _ => laidMetH Tryz.prog Rows.musterTellsRow.laid w)) false (World.laidAll Tryz.prog os Rows.musterTellsRow.laid) #[.agg #[.int .i64 0, .int .i64 0, .slice none 0 0, .slice none 0 0, .slice none 0 0, .slice none 0 0, .slice none 0 0, .int .i64 0, .slice none 0 0, .slice none 0 0, .slice none 0 0, .slice none 0 0, .slice none 0 0], .int .i64 0, .agg #[.int .i64 0, .int .i64 0, .int .i64 0, .int .i64 0]] 12 (World.laidAll_os _ _ _) (World.shaped_of_ZipB (by kernel_rfl) (by kernel_rfl)) (by kernel_rfl) (by kernel_rfl) (by kernel_rfl)
      (by rw [MakeChecks.laidMetH_plain _ _ _ (by kernel_rfl)]; exact laidMet_laidAll _ (by kernel_rfl) (by kernel_rfl))) ?_
  intro W base args ds gs before hval hW _ hwt _ _
  exact b3S (P := Tryz.prog) (ts := [30, 3, 51]) (tb := 4) (L5.agg c3B (fun _ => rfl) (by rw [Tryz.underlying30]) (L5.one (j5.int Tryz.underlying3) (by rw [Tryz.underlying3]) (L5.agg c3j (fun _ => rfl) (by rw [Tryz.underlying51]) L5.nil))) (fun x h => law_MusterTells x h) (by rw [Tryz.params9]) laidMusterTells (by kernel_rfl) rfl rfl Tryz.underlying4 (fun ds h => by
    match ds, h with
    | [_, _, _], _ => exact ⟨rfl, rfl, rfl⟩) hval hW hwt
theorem musterTells_row : Rows.MusterTellsSaid :=
  OpenClaim.holds_of_wide 9 Tryz.f9 rfl rfl rfl rfl rfl rfl rfl ⟨rfl, rfl, rfl, rfl, rfl⟩ rfl rfl rfl rfl rfl (by kernel_rfl) Tryz.func9 (by kernel_rfl)
    (of_decide_eq_true (by kernel_rfl)) (by unfold Func.isWrapper; first | (rw [if_pos (by decide +kernel)]; kernel_rfl) | (rw [if_neg (by decide +kernel)]; exact ⟨rfl, rfl⟩))
    (fun os started H enc _ => liftedMusterTells os started H enc)
theorem musterTells_proved : Rows.MusterTellsCardSaid :=
  Claim7.holds_tied_plain_at .later [] [.data, .data, .data] true (true, "ddc12b51475b83b79dc50a6a1a73d81463255e21f7e6add9724f72c147374224") false
    musterTells_row (fun _ h => by cases h) (by kernel_rfl) (fun _ h => by cases h) musterTells_row_tie rfl ⟨rfl, rfl⟩ (by kernel_rfl) rfl
    (fun f fn hf hfn => by
      obtain rfl : f = 9 := (Option.some.inj ((show Tryz.prog.funcNamed "gasolier/gasolierlaw09.MusterTells" = some 9 by kernel_rfl).symm.trans hf)).symm
      obtain rfl : fn = Tryz.f9 := (Option.some.inj (Tryz.func9.symm.trans hfn)).symm
      exact ⟨by kernel_rfl, fun j t ht => by
        have hall : (Tryz.f9.params.toList.all fun t => !Tryz.prog.wantsStandIn t) = true := by kernel_rfl
        have h2 := List.all_eq_true.1 hall t (List.mem_of_getElem? (by simpa using ht))
        exact (show Tryz.prog.wantsStandIn t = false by simpa using h2)⟩)
    (by kernel_rfl)
end Go.Proofs.YtcedmbakcchkiaaGreatDoor
