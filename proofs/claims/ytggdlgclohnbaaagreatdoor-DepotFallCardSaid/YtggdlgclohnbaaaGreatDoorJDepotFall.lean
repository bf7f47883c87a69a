/- DepotFall: for every input the statement's call returns true; the arguments read behind it as they did. No conditions. -/
import Derived.Test.YtggdlgclohnbaaaGreatDoorN1
import Derived.Test.YtggdlgclohnbaaaGreatDoorRows
import Derived.Test.YtggdlgclohnbaaaGreatDoorTie
import Derived.Test.YtggdlgclohnbaaaGreatDoorCards
import Derived.SevenTiedAt
import Derived.LaidLaws
import Derived.Lay
import Derived.LaidOnce
import Derived.MakeChecks
namespace Go.Proofs.YtggdlgclohnbaaaGreatDoor
open Go Go.RowKit Go.Sx Go.ChangeShapes

theorem ownDepotFall : ownKnob Tryz.prog.godebug = none := by kernel_rfl
theorem laidDepotFall : laidOutB Tryz.prog = true := by kernel_rfl
theorem law_DepotFall (x : (List TDeed) × (List Int) × Unit) (h : (x.1.length * 72 ≤ reachBytes ∧ x.1.length ≤ maxLen ∧ ∀ y : TDeed, y ∈ x.1 → TDeed.G y) ∧ (x.2.1.length * 8 ≤ reachBytes ∧ x.2.1.length ≤ maxLen ∧ ∀ y : Int, y ∈ x.2.1 → InK .i64 y) ∧ True) : Does Tryz.prog 5 [lD 7 x.1 TDeed.c, lD 1 x.2.1 cI] (fun y => y = .v (.bool true)) := by
  obtain ⟨h0, h1, _⟩ := h
  exact d_L08_DepotFall (x.1) (x.2.1) true (pl_DepotFall (x.1) (x.2.1) h0 h1)
set_option maxRecDepth 100000 in
theorem liftedDepotFall (os : Os) (started : os.Started) (H : Type) (enc : TypeId × Value → H) :
    ReturnsInHanded {} Tryz.checked os 5 .any (fun w args => (Rows.depotFallSpec.pre enc Tryz.prog Tryz.f5 Rows.depotFallRow.domain false w args ∧ laidMetH Tryz.prog Rows.depotFallRow.laid w) ∧ sizedMet enc Tryz.prog Tryz.f5 (OpenSpec.ofChange Rows.depotFallSpec) false w args) (Rows.depotFallSpec.post enc Tryz.prog Tryz.f5 false true false false) := by
  refine returnsInHanded_of_change_and (C := Tryz.checked) (X := (fun w _ => laidMetH Tryz.prog Rows.depotFallRow.laid w)) (fun _ _ _ hh h => h.of_heap hh) ownDepotFall started (by kernel_rfl) Tryz.func5
    (ChangeSpec.witness_shaped (enc := enc) (C := Tryz.checked) (X := (fun w _ => laidMetH Tryz.prog Rows.depotFallRow.laid w)) false (World.laidAll Tryz.prog os Rows.depotFallRow.laid) #[.slice none 0 0, .slice none 0 0] 12 (World.laidAll_os _ _ _) (World.shaped_of_ZipB (by kernel_rfl) (by kernel_rfl)) (by kernel_rfl) (by kernel_rfl) (by kernel_rfl)
      (by rw [MakeChecks.laidMetH_plain _ _ _ (by kernel_rfl)]; exact laidMet_laidAll _ (by kernel_rfl) (by kernel_rfl))) ?_
  intro W base args ds gs before hval hW _ hwt hlaid _
  exact law_contract (P := Tryz.prog) (ts := [44, 25]) (tb := 4) (OpensArgs.one op_44 (by rw [Tryz.underlying44]) (OpensArgs.one op_25 (by rw [Tryz.underlying25]) OpensArgs.nil)) (fun x h => law_DepotFall x h) (by rw [Tryz.params5]) laidDepotFall (by kernel_rfl) rfl rfl Tryz.underlying4 (fun ds h => by
    match ds, h with
    | [_, _], _ => exact ⟨rfl, rfl, rfl⟩) hval hW hwt (giw_of (Eq.mp (MakeChecks.laidMetH_plain Tryz.prog Rows.depotFallRow.laid W (by kernel_rfl)) hlaid))
theorem depotFall_row : Rows.DepotFallSaid :=
  OpenClaim.holds_of_wide 5 Tryz.f5 rfl rfl rfl rfl rfl rfl rfl ⟨rfl, rfl, rfl, rfl, rfl⟩ rfl rfl rfl rfl rfl (by kernel_rfl) Tryz.func5 (by kernel_rfl)
    (of_decide_eq_true (by kernel_rfl)) (by unfold Func.isWrapper; first | (rw [if_pos (by decide +kernel)]; kernel_rfl) | (rw [if_neg (by decide +kernel)]; exact ⟨rfl, rfl⟩))
    (fun os started H enc _ => liftedDepotFall os started H enc)
theorem depotFall_proved : Rows.DepotFallCardSaid :=
  Claim7.holds_tied_plain_at .later [] [.data, .data, .data, .sentinel, .sentinel] true (true, "ed9049e8d4a612af79481b3bc7844afc04cee0ee2f0fe87f8b58560d4ff41fe9") true
    depotFall_row (fun _ h => by cases h) (by kernel_rfl) (fun _ h => by cases h) depotFall_row_tie rfl ⟨rfl, rfl⟩ (by kernel_rfl) rfl
    (fun f fn hf hfn => by
      obtain rfl : f = 5 := (Option.some.inj ((show Tryz.prog.funcNamed "gasolier/gasolierlaw08.DepotFall" = some 5 by kernel_rfl).symm.trans hf)).symm
      obtain rfl : fn = Tryz.f5 := (Option.some.inj (Tryz.func5.symm.trans hfn)).symm
      exact ⟨by kernel_rfl, fun j t ht => by
        have hall : (Tryz.f5.params.toList.all fun t => !Tryz.prog.wantsStandIn t) = true := by kernel_rfl
        have h2 := List.all_eq_true.1 hall t (List.mem_of_getElem? (by simpa using ht))
        exact (show Tryz.prog.wantsStandIn t = false by simpa using h2)⟩)
    (by kernel_rfl)
end Go.Proofs.YtggdlgclohnbaaaGreatDoor
