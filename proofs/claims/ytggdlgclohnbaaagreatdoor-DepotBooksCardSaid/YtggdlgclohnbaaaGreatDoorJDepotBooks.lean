/- DepotBooks: for every input the statement's call returns true; the arguments read behind it as they did. No conditions. -/
import Derived.Test.YtggdlgclohnbaaaGreatDoorN1
import Derived.Test.YtggdlgclohnbaaaGreatDoorRows
import Derived.Test.YtggdlgclohnbaaaGreatDoorTie
import Derived.Test.YtggdlgclohnbaaaGreatDoorCards
import Derived.SevenTiedAt
import Derived.LaidLaws
import Derived.Lay
import Derived.LaidOnce
import Derived.MakeChecks
namespace Go.Proofs.YtggdlgclohnbaaaGreatDoor
open Go Go.RowKit Go.Sx Go.ChangeShapes

theorem ownDepotBooks : ownKnob Tryz.prog.godebug = none := by kernel_rfl
theorem laidDepotBooks : laidOutB Tryz.prog = true := by kernel_rfl
theorem law_DepotBooks (x : TBook × TRecord × Int × Unit) (h : TBook.G x.1 ∧ TRecord.G x.2.1 ∧ InK .i64 x.2.2.1 ∧ True) : Does Tryz.prog 10 [.agg (TBook.c x.1), .agg (TRecord.c x.2.1), DI x.2.2.1] (fun y => y = .v (.bool true)) := by
  obtain ⟨h0, h1, h2, _⟩ := h
  exact d_L08_DepotBooks (x.1) (x.2.1) (x.2.2.1) true (pl_DepotBooks (x.1) (x.2.1) (x.2.2.1) h0 h1 h2)
set_option maxRecDepth 100000 in
theorem liftedDepotBooks (os : Os) (started : os.Started) (H : Type) (enc : TypeId × Value → H) :
    ReturnsInHanded {} Tryz.checked os 10 .any (fun w args => (Rows.depotBooksSpec.pre enc Tryz.prog Tryz.f10 Rows.depotBooksRow.domain false w args ∧ laidMetH Tryz.prog Rows.depotBooksRow.laid w) ∧ sizedMet enc Tryz.prog Tryz.f10 (OpenSpec.ofChange Rows.depotBooksSpec) false w args) (Rows.depotBooksSpec.post enc Tryz.prog Tryz.f10 false true false false) := by
  refine returnsInHanded_of_change_and (C := Tryz.checked) (X := (fun w _ => laidMetH Tryz.prog Rows.depotBooksRow.laid w)) (fun _ _ _ hh h => h.of_heap hh) ownDepotBooks started (by kernel_rfl) Tryz.func10
    (ChangeSpec.witness_shaped (enc := enc) (C := Tryz.checked) (X := (fun w _ => laidMetH Tryz.prog Rows.depotBooksRow.laid w)) false (World.laidAll Tryz.prog os Rows.depotBooksRow.laid) #[.agg #[.slice none 0 0], .agg #[.int .i64 0, .int .i64 0, .int .i64 0, .int .i64 0, .int .i64 0, .int .i64 0, .int .i64 0, .string ByteArray.empty], .int .i64 0] 12 (World.laidAll_os _ _ _) (World.shaped_of_ZipB (by kernel_rfl) (by kernel_rfl)) (by kernel_rfl) (by kernel_rfl) (by kernel_rfl)
      (by rw [MakeChecks.laidMetH_plain _ _ _ (by kernel_rfl)]; exact laidMet_laidAll _ (by kernel_rfl) (by kernel_rfl))) ?_
  intro W base args ds gs before hval hW _ hwt hlaid _
  exact law_contract (P := Tryz.prog) (ts := [70, 38, 3]) (tb := 4) (OpensArgs.agg op_70 (fun _ => rfl) (by rw [Tryz.underlying70]) (OpensArgs.agg op_38 (fun _ => rfl) (by rw [Tryz.underlying38]) (OpensArgs.one (Opens.int Tryz.underlying3) (by rw [Tryz.underlying3]) OpensArgs.nil))) (fun x h => law_DepotBooks x h) (by rw [Tryz.params10]) laidDepotBooks (by kernel_rfl) rfl rfl Tryz.underlying4 (fun ds h => by
    match ds, h with
    | [_, _, _], _ => exact ⟨rfl, rfl, rfl⟩) hval hW hwt (giw_of (Eq.mp (MakeChecks.laidMetH_plain Tryz.prog Rows.depotBooksRow.laid W (by kernel_rfl)) hlaid))
theorem depotBooks_row : Rows.DepotBooksSaid :=
  OpenClaim.holds_of_wide 10 Tryz.f10 rfl rfl rfl rfl rfl rfl rfl ⟨rfl, rfl, rfl, rfl, rfl⟩ rfl rfl rfl rfl rfl (by kernel_rfl) Tryz.func10 (by kernel_rfl)
    (of_decide_eq_true (by kernel_rfl)) (by unfold Func.isWrapper; first | (rw [if_pos (by decide +kernel)]; kernel_rfl) | (rw [if_neg (by decide +kernel)]; exact ⟨rfl, rfl⟩))
    (fun os started H enc _ => liftedDepotBooks os started H enc)
theorem depotBooks_proved : Rows.DepotBooksCardSaid :=
  Claim7.holds_tied_plain_at .later [] [.data, .data, .data, .sentinel, .sentinel] true (true, "ed9049e8d4a612af79481b3bc7844afc04cee0ee2f0fe87f8b58560d4ff41fe9") true
    depotBooks_row (fun _ h => by cases h) (by kernel_rfl) (fun _ h => by cases h) depotBooks_row_tie rfl ⟨rfl, rfl⟩ (by kernel_rfl) rfl
    (fun f fn hf hfn => by
      obtain rfl : f = 10 := (Option.some.inj ((show Tryz.prog.funcNamed "gasolier/gasolierlaw08.DepotBooks" = some 10 by kernel_rfl).symm.trans hf)).symm
      obtain rfl : fn = Tryz.f10 := (Option.some.inj (Tryz.func10.symm.trans hfn)).symm
      exact ⟨by kernel_rfl, fun j t ht => by
        have hall : (Tryz.f10.params.toList.all fun t => !Tryz.prog.wantsStandIn t) = true := by kernel_rfl
        have h2 := List.all_eq_true.1 hall t (List.mem_of_getElem? (by simpa using ht))
        exact (show Tryz.prog.wantsStandIn t = false by simpa using h2)⟩)
    (by kernel_rfl)
end Go.Proofs.YtggdlgclohnbaaaGreatDoor
