/- DepotJoins: for every input the statement's call returns true; the arguments read behind it as they did. No conditions. -/
import Derived.Test.YtggdlgclohnbaaaGreatDoorN1
import Derived.Test.YtggdlgclohnbaaaGreatDoorRows
import Derived.Test.YtggdlgclohnbaaaGreatDoorTie
import Derived.Test.YtggdlgclohnbaaaGreatDoorCards
import Derived.SevenTiedAt
import Derived.LaidLaws
import Derived.Lay
import Derived.LaidOnce
import Derived.MakeChecks
namespace Go.Proofs.YtggdlgclohnbaaaGreatDoor
open Go Go.RowKit Go.Sx Go.ChangeShapes

theorem ownDepotJoins : ownKnob Tryz.prog.godebug = none := by kernel_rfl
theorem laidDepotJoins : laidOutB Tryz.prog = true := by kernel_rfl
theorem law_DepotJoins (x : (List TRecord) × TBook × TBook × Unit) (h : (x.1.length * 72 ≤ reachBytes ∧ x.1.length ≤ maxLen ∧ ∀ y : TRecord, y ∈ x.1 → TRecord.G y) ∧ TBook.G x.2.1 ∧ TBook.G x.2.2.1 ∧ True) : Does Tryz.prog 8 [lD 8 x.1 TRecord.c, .agg (TBook.c x.2.1), .agg (TBook.c x.2.2.1)] (fun y => y = .v (.bool true)) := by
  obtain ⟨h0, h1, h2, _⟩ := h
  exact d_L08_DepotJoins (x.1) (x.2.1) (x.2.2.1) true (pl_DepotJoins (x.1) (x.2.1) (x.2.2.1) h0 h1 h2)
set_option maxRecDepth 100000 in
theorem liftedDepotJoins (os : Os) (started : os.Started) (H : Type) (enc : TypeId × Value → H) :
    ReturnsInHanded {} Tryz.checked os 8 .any (fun w args => (Rows.depotJoinsSpec.pre enc Tryz.prog Tryz.f8 Rows.depotJoinsRow.domain false w args ∧ laidMetH Tryz.prog Rows.depotJoinsRow.laid w) ∧ sizedMet enc Tryz.prog Tryz.f8 (OpenSpec.ofChange Rows.depotJoinsSpec) false w args) (Rows.depotJoinsSpec.post enc Tryz.prog Tryz.f8 false true false false) := by
  refine returnsInHanded_of_change_and (C := Tryz.checked) (X := (fun w _ => laidMetH Tryz.prog Rows.depotJoinsRow.laid w)) (fun _ _ _ hh h => h.of_heap hh) ownDepotJoins started (by kernel_rfl) Tryz.func8
    (ChangeSpec.witness_shaped (enc := enc) (C := Tryz.checked) (X := (fun w _ => laidMetH Tryz.prog Rows.depotJoinsRow.laid w)) false (World.laidAll Tryz.prog os Rows.depotJoinsRow.laid) #[.slice none 0 0, .agg #[.slice none 0 0], .agg #[.slice none 0 0]] 12 (World.laidAll_os _ _ _) (World.shaped_of_ZipB (by kernel_rfl) (by kernel_rfl)) (by kernel_rfl) (by kernel_rfl) (by kernel_rfl)
      (by rw [MakeChecks.laidMetH_plain _ _ _ (by kernel_rfl)]; exact laidMet_laidAll _ (by kernel_rfl) (by kernel_rfl))) ?_
  intro W base args ds gs before hval hW _ hwt hlaid _
  exact law_contract (P := Tryz.prog) (ts := [27, 70, 70]) (tb := 4) (OpensArgs.one op_27 (by rw [Tryz.underlying27]) (OpensArgs.agg op_70 (fun _ => rfl) (by rw [Tryz.underlying70]) (OpensArgs.agg op_70 (fun _ => rfl) (by rw [Tryz.underlying70]) OpensArgs.nil))) (fun x h => law_DepotJoins x h) (by rw [Tryz.params8]) laidDepotJoins (by kernel_rfl) rfl rfl Tryz.underlying4 (fun ds h => by
    match ds, h with
    | [_, _, _], _ => exact ⟨rfl, rfl, rfl⟩) hval hW hwt (giw_of (Eq.mp (MakeChecks.laidMetH_plain Tryz.prog Rows.depotJoinsRow.laid W (by kernel_rfl)) hlaid))
theorem depotJoins_row : Rows.DepotJoinsSaid :=
  OpenClaim.holds_of_wide 8 Tryz.f8 rfl rfl rfl rfl rfl rfl rfl ⟨rfl, rfl, rfl, rfl, rfl⟩ rfl rfl rfl rfl rfl (by kernel_rfl) Tryz.func8 (by kernel_rfl)
    (of_decide_eq_true (by kernel_rfl)) (by unfold Func.isWrapper; first | (rw [if_pos (by decide +kernel)]; kernel_rfl) | (rw [if_neg (by decide +kernel)]; exact ⟨rfl, rfl⟩))
    (fun os started H enc _ => liftedDepotJoins os started H enc)
theorem depotJoins_proved : Rows.DepotJoinsCardSaid :=
  Claim7.holds_tied_plain_at .later [] [.data, .data, .data, .sentinel, .sentinel] true (true, "ed9049e8d4a612af79481b3bc7844afc04cee0ee2f0fe87f8b58560d4ff41fe9") true
    depotJoins_row (fun _ h => by cases h) (by kernel_rfl) (fun _ h => by cases h) depotJoins_row_tie rfl ⟨rfl, rfl⟩ (by kernel_rfl) rfl
    (fun f fn hf hfn => by
      obtain rfl : f = 8 := (Option.some.inj ((show Tryz.prog.funcNamed "gasolier/gasolierlaw08.DepotJoins" = some 8 by kernel_rfl).symm.trans hf)).symm
      obtain rfl : fn = Tryz.f8 := (Option.some.inj (Tryz.func8.symm.trans hfn)).symm
      exact ⟨by kernel_rfl, fun j t ht => by
        have hall : (Tryz.f8.params.toList.all fun t => !Tryz.prog.wantsStandIn t) = true := by kernel_rfl
        have h2 := List.all_eq_true.1 hall t (List.mem_of_getElem? (by simpa using ht))
        exact (show Tryz.prog.wantsStandIn t = false by simpa using h2)⟩)
    (by kernel_rfl)
end Go.Proofs.YtggdlgclohnbaaaGreatDoor
