/- BylawTexts: for every input the statement's call returns true; the arguments read behind it as they did. No conditions. -/
import Derived.Test.YtejkiefdjcfapaaGreatDoorN1
import Derived.Test.YtejkiefdjcfapaaGreatDoorRows
import Derived.Test.YtejkiefdjcfapaaGreatDoorTie
import Derived.Test.YtejkiefdjcfapaaGreatDoorCards
import Derived.SevenTiedAt
import Derived.LaidLaws
import Derived.Lay
import Derived.LaidOnce
import Derived.MakeChecks
namespace Go.Proofs.YtejkiefdjcfapaaGreatDoor
open Go Go.RowKit Go.Sx Go.ChangeShapes

theorem ownBylawTexts : ownKnob Tryz.prog.godebug = none := by kernel_rfl
theorem laidBylawTexts : laidOutB Tryz.prog = true := by kernel_rfl
theorem law_BylawTexts (x : TBylaw × ByteArray × Unit) (h : TBylaw.G x.1 ∧ x.2.1.size ≤ reachBytes ∧ True) : Does Tryz.prog 3 [.agg (TBylaw.c x.1), .v (.string x.2.1)] (fun y => y = .v (.bool true)) := by
  obtain ⟨h0, h1, _⟩ := h
  exact d_L01_BylawTexts (x.1) (x.2.1) true (pl_BylawTexts (x.1) (x.2.1) h0 h1)
set_option maxRecDepth 100000 in
theorem liftedBylawTexts (os : Os) (started : os.Started) (H : Type) (enc : TypeId × Value → H) :
    ReturnsInHanded {} Tryz.checked os 3 .any (fun w args => (Rows.bylawTextsSpec.pre enc Tryz.prog Tryz.f3 Rows.bylawTextsRow.domain false w args ∧ laidMetH Tryz.prog Rows.bylawTextsRow.laid w) ∧ sizedMet enc Tryz.prog Tryz.f3 (OpenSpec.ofChange Rows.bylawTextsSpec) false w args) (Rows.bylawTextsSpec.post enc Tryz.prog Tryz.f3 false true false false) := by
  refine returnsInHanded_of_change_and (C := Tryz.checked) (X := (fun w _ => laidMetH Tryz.prog Rows.bylawTextsRow.laid w)) (fun _ _ _ hh h => h.of_heap hh) ownBylawTexts started (by kernel_rfl) Tryz.func3
    (ChangeSpec.witness_shaped (enc := enc) (C := Tryz.checked) (X := (fun w _ => laidMetH Tryz.prog Rows.bylawTextsRow.laid w)) false (World.laidAll Tryz.prog os Rows.bylawTextsRow.laid) #[.agg #[.slice none 0 0, .slice none 0 0], .string ByteArray.empty] 12 (World.laidAll_os _ _ _) (World.shaped_of_ZipB (by kernel_rfl) (by kernel_rfl)) (by kernel_rfl) (by kernel_rfl) (by kernel_rfl)
      (by rw [MakeChecks.laidMetH_plain _ _ _ (by kernel_rfl)]; exact laidMet_laidAll _ (by kernel_rfl) (by kernel_rfl))) ?_
  intro W base args ds gs before hval hW _ hwt hlaid _
  exact law_contract (P := Tryz.prog) (ts := [25, 9]) (tb := 4) (OpensArgs.agg op_25 (fun _ => rfl) (by rw [Tryz.underlying25]) (OpensArgs.one (Opens.str Tryz.underlying9) (by rw [Tryz.underlying9]) OpensArgs.nil)) (fun x h => law_BylawTexts x h) (by rw [Tryz.params3]) laidBylawTexts (by kernel_rfl) rfl rfl Tryz.underlying4 (fun ds h => by
    match ds, h with
    | [_, _], _ => exact ⟨rfl, rfl, rfl⟩) hval hW hwt (giw_of (Eq.mp (MakeChecks.laidMetH_plain Tryz.prog Rows.bylawTextsRow.laid W (by kernel_rfl)) hlaid))
theorem bylawTexts_row : Rows.BylawTextsSaid :=
  OpenClaim.holds_of_wide 3 Tryz.f3 rfl rfl rfl rfl rfl rfl rfl ⟨rfl, rfl, rfl, rfl, rfl⟩ rfl rfl rfl rfl rfl (by kernel_rfl) Tryz.func3 (by kernel_rfl)
    (of_decide_eq_true (by kernel_rfl)) (by unfold Func.isWrapper; first | (rw [if_pos (by decide +kernel)]; kernel_rfl) | (rw [if_neg (by decide +kernel)]; exact ⟨rfl, rfl⟩))
    (fun os started H enc _ => liftedBylawTexts os started H enc)
theorem bylawTexts_proved : Rows.BylawTextsCardSaid :=
  Claim7.holds_tied_plain_at .later [] [.data, .data, .data, .data, .sentinel, .sentinel, .pinned] true (true, "377a4e6bef21e62b9d1e953f62538827ada38b7b8f6fca9659336ec9aad10c76") true
    bylawTexts_row (fun _ h => by cases h) (by kernel_rfl) (fun _ h => by cases h) bylawTexts_row_tie rfl ⟨rfl, rfl⟩ (by kernel_rfl) rfl
    (fun f fn hf hfn => by
      obtain rfl : f = 3 := (Option.some.inj ((show Tryz.prog.funcNamed "gasolier/gasolierlaw01.BylawTexts" = some 3 by kernel_rfl).symm.trans hf)).symm
      obtain rfl : fn = Tryz.f3 := (Option.some.inj (Tryz.func3.symm.trans hfn)).symm
      exact ⟨by kernel_rfl, fun j t ht => by
        have hall : (Tryz.f3.params.toList.all fun t => !Tryz.prog.wantsStandIn t) = true := by kernel_rfl
        have h2 := List.all_eq_true.1 hall t (List.mem_of_getElem? (by simpa using ht))
        exact (show Tryz.prog.wantsStandIn t = false by simpa using h2)⟩)
    (by kernel_rfl)
end Go.Proofs.YtejkiefdjcfapaaGreatDoor
