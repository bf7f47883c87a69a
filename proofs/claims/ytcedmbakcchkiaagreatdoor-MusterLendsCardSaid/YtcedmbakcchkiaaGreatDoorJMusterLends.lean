/- MusterLends: for every input the statement's call returns true; the arguments read behind it as they did. No conditions. -/
import Derived.Test.YtcedmbakcchkiaaGreatDoorM1
import Derived.Test.YtcedmbakcchkiaaGreatDoorRows
import Derived.Test.YtcedmbakcchkiaaGreatDoorTie
import Derived.Test.YtcedmbakcchkiaaGreatDoorCards
import Derived.SevenTiedAt
import Derived.LaidLaws
import Derived.Lay
import Derived.LaidOnce
import Derived.MakeChecks
namespace Go.Proofs.YtcedmbakcchkiaaGreatDoor
open Go Go.RowKit Go.Sx Go.ChangeShapes

theorem ownMusterLends : ownKnob Tryz.prog.godebug = none := by kernel_rfl
theorem laidMusterLends : laidOutB Tryz.prog = true := by kernel_rfl
theorem law_MusterLends (x : a0j × a0j × Int × Unit) (h : a0j.G x.1 ∧ a0j.G x.2.1 ∧ InK .i64 x.2.2.1 ∧ True) : i4 Tryz.prog 6 [.agg (a0j.c x.1), .agg (a0j.c x.2.1), DI x.2.2.1] (fun y => y = .v (.bool true)) := by
  obtain ⟨h0, h1, h2, _⟩ := h
  exact a6K (x.1) (x.2.1) (x.2.2.1) true (a9j (x.1) (x.2.1) (x.2.2.1) h0 h1 h2)
set_option maxRecDepth 100000 in
theorem liftedMusterLends (os : Os) (started : os.Started) (H : Type) (enc : TypeId × Value → H) :
    ReturnsInHanded {} Tryz.checked os 6 .any (fun w args => (Rows.musterLendsSpec.pre enc Tryz.prog Tryz.f6 Rows.musterLendsRow.domain false w args ∧ laidMetH Tryz.prog Rows.musterLendsRow.laid w) ∧ sizedMet enc Tryz.prog Tryz.f6 (OpenSpec.ofChange Rows.musterLendsSpec) false w args) (Rows.musterLendsSpec.post enc Tryz.prog Tryz.f6 false true false false) := by
  refine returnsInHanded_of_change_and (C := Tryz.checked) (X := (fun w _ => laidMetH Tryz.prog Rows.musterLendsRow.laid w)) (fun _ _ _ hh h => h.of_heap hh) ownMusterLends started (by kernel_rfl) Tryz.func6
    (ChangeSpec.witness_shaped (enc := enc) (C := Tryz.checked) (X := (fun w _ => laidMetH Tryz.prog Rows.musterLendsRow.laid w)) false (World.laidAll Tryz.prog os Rows.musterLendsRow.laid) #[.agg #[.int .i64 0, .int .i64 0, .int .i64 0, .int .i64 0, .int .i64 0, .int .i64 0, .int .i64 0, .int .i64 0, .int .i64 0], .agg #[.int .i64 0, .int .i64 0, .int .i64 0, .int .i64 0, .int .i64 0, .int .i64 0, .int .i64 0, .int .i64 0, .int .i64 0], .int .i64 0] 12 (World.laidAll_os _ _ _) (World.shaped_of_ZipB (by kernel_rfl) (by kernel_rfl)) (by kernel_rfl) (by kernel_rfl) (by kernel_rfl)
      (by rw [MakeChecks.laidMetH_plain _ _ _ (by kernel_rfl)]; exact laidMet_laidAll _ (by kernel_rfl) (by kernel_rfl))) ?_
  intro W base args ds gs before hval hW _ hwt _ _
  exact b1V (P := Tryz.prog) (ts := [63, 63, 3]) (tb := 4) (M5.agg c0P (fun _ => rfl) (by rw [Tryz.underlying63]) (M5.agg c0P (fun _ => rfl) (by rw [Tryz.underlying63]) (M5.one (I9.int Tryz.underlying3) (by rw [Tryz.underlying3]) M5.nil))) (fun x h => law_MusterLends x h) (by rw [Tryz.params6]) laidMusterLends (by kernel_rfl) rfl rfl Tryz.underlying4 (fun ds h => by
    match ds, h with
    | [_, _, _], _ => exact ⟨rfl, rfl, rfl⟩) hval hW hwt
theorem musterLends_row : Rows.MusterLendsSaid :=
  OpenClaim.holds_of_wide 6 Tryz.f6 rfl rfl rfl rfl rfl rfl rfl ⟨rfl, rfl, rfl, rfl, rfl⟩ rfl rfl rfl rfl rfl (by kernel_rfl) Tryz.func6 (by kernel_rfl)
    (of_decide_eq_true (by kernel_rfl)) (by unfold Func.isWrapper; first | (rw [if_pos (by decide +kernel)]; kernel_rfl) | (rw [if_neg (by decide +kernel)]; exact ⟨rfl, rfl⟩))
    (fun os started H enc _ => liftedMusterLends os started H enc)
theorem musterLends_proved : Rows.MusterLendsCardSaid :=
  Claim7.holds_tied_plain_at .later [] [.data, .data, .data] true (true, "ddc12b51475b83b79dc50a6a1a73d81463255e21f7e6add9724f72c147374224") false
    musterLends_row (fun _ h => by cases h) (by kernel_rfl) (fun _ h => by cases h) musterLends_row_tie rfl ⟨rfl, rfl⟩ (by kernel_rfl) rfl
    (fun f fn hf hfn => by
      obtain rfl : f = 6 := (Option.some.inj ((show Tryz.prog.funcNamed "gasolier/gasolierlaw09.MusterLends" = some 6 by kernel_rfl).symm.trans hf)).symm
      obtain rfl : fn = Tryz.f6 := (Option.some.inj (Tryz.func6.symm.trans hfn)).symm
      exact ⟨by kernel_rfl, fun j t ht => by
        have hall : (Tryz.f6.params.toList.all fun t => !Tryz.prog.wantsStandIn t) = true := by kernel_rfl
        have h2 := List.all_eq_true.1 hall t (List.mem_of_getElem? (by simpa using ht))
        exact (show Tryz.prog.wantsStandIn t = false by simpa using h2)⟩)
    (by kernel_rfl)
end Go.Proofs.YtcedmbakcchkiaaGreatDoor
