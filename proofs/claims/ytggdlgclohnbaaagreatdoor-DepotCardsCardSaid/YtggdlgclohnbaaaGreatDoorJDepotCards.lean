/- DepotCards: for every input the statement's call returns true; the arguments read behind it as they did. No conditions. -/
import Derived.Test.YtggdlgclohnbaaaGreatDoorN1
import Derived.Test.YtggdlgclohnbaaaGreatDoorRows
import Derived.Test.YtggdlgclohnbaaaGreatDoorTie
import Derived.Test.YtggdlgclohnbaaaGreatDoorCards
import Derived.SevenTiedAt
import Derived.LaidLaws
import Derived.Lay
import Derived.LaidOnce
import Derived.MakeChecks
namespace Go.Proofs.YtggdlgclohnbaaaGreatDoor
open Go Go.RowKit Go.Sx Go.ChangeShapes

theorem ownDepotCards : ownKnob Tryz.prog.godebug = none := by kernel_rfl
theorem laidDepotCards : laidOutB Tryz.prog = true := by kernel_rfl
theorem law_DepotCards (x : (List (Int × Int × Int × Int × Int)) × (List Int) × Unit) (h : (x.1.length * 40 ≤ reachBytes ∧ x.1.length ≤ maxLen ∧ ∀ y : (Int × Int × Int × Int × Int), y ∈ x.1 → (InK .i64 y.1 ∧ InK .i64 y.2.1 ∧ InK .i64 y.2.2.1 ∧ InK .i64 y.2.2.2.1 ∧ InK .i64 y.2.2.2.2)) ∧ (x.2.1.length * 8 ≤ reachBytes ∧ x.2.1.length ≤ maxLen ∧ ∀ y : Int, y ∈ x.2.1 → InK .i64 y) ∧ True) : Does Tryz.prog 7 [lD 5 x.1 (fun (x : (Int × Int × Int × Int × Int)) => [DI x.1, DI x.2.1, DI x.2.2.1, DI x.2.2.2.1, DI x.2.2.2.2]), lD 1 x.2.1 cI] (fun y => y = .v (.bool true)) := by
  obtain ⟨h0, h1, _⟩ := h
  exact d_L08_DepotCards (x.1) (x.2.1) true (pl_DepotCards (x.1) (x.2.1) h0 h1)
set_option maxRecDepth 100000 in
theorem liftedDepotCards (os : Os) (started : os.Started) (H : Type) (enc : TypeId × Value → H) :
    ReturnsInHanded {} Tryz.checked os 7 .any (fun w args => (Rows.depotCardsSpec.pre enc Tryz.prog Tryz.f7 Rows.depotCardsRow.domain false w args ∧ laidMetH Tryz.prog Rows.depotCardsRow.laid w) ∧ sizedMet enc Tryz.prog Tryz.f7 (OpenSpec.ofChange Rows.depotCardsSpec) false w args) (Rows.depotCardsSpec.post enc Tryz.prog Tryz.f7 false true false false) := by
  refine returnsInHanded_of_change_and (C := Tryz.checked) (X := (fun w _ => laidMetH Tryz.prog Rows.depotCardsRow.laid w)) (fun _ _ _ hh h => h.of_heap hh) ownDepotCards started (by kernel_rfl) Tryz.func7
    (ChangeSpec.witness_shaped (enc := enc) (C := Tryz.checked) (X := (fun w _ => laidMetH Tryz.prog Rows.depotCardsRow.laid w)) false (World.laidAll Tryz.prog os Rows.depotCardsRow.laid) #[.slice none 0 0, .slice none 0 0] 12 (World.laidAll_os _ _ _) (World.shaped_of_ZipB (by kernel_rfl) (by kernel_rfl)) (by kernel_rfl) (by kernel_rfl) (by kernel_rfl)
      (by rw [MakeChecks.laidMetH_plain _ _ _ (by kernel_rfl)]; exact laidMet_laidAll _ (by kernel_rfl) (by kernel_rfl))) ?_
  intro W base args ds gs before hval hW _ hwt hlaid _
  exact law_contract (P := Tryz.prog) (ts := [66, 25]) (tb := 4) (OpensArgs.one op_66 (by rw [Tryz.underlying66]) (OpensArgs.one op_25 (by rw [Tryz.underlying25]) OpensArgs.nil)) (fun x h => law_DepotCards x h) (by rw [Tryz.params7]) laidDepotCards (by kernel_rfl) rfl rfl Tryz.underlying4 (fun ds h => by
    match ds, h with
    | [_, _], _ => exact ⟨rfl, rfl, rfl⟩) hval hW hwt (giw_of (Eq.mp (MakeChecks.laidMetH_plain Tryz.prog Rows.depotCardsRow.laid W (by kernel_rfl)) hlaid))
theorem depotCards_row : Rows.DepotCardsSaid :=
  OpenClaim.holds_of_wide 7 Tryz.f7 rfl rfl rfl rfl rfl rfl rfl ⟨rfl, rfl, rfl, rfl, rfl⟩ rfl rfl rfl rfl rfl (by kernel_rfl) Tryz.func7 (by kernel_rfl)
    (of_decide_eq_true (by kernel_rfl)) (by unfold Func.isWrapper; first | (rw [if_pos (by decide +kernel)]; kernel_rfl) | (rw [if_neg (by decide +kernel)]; exact ⟨rfl, rfl⟩))
    (fun os started H enc _ => liftedDepotCards os started H enc)
theorem depotCards_proved : Rows.DepotCardsCardSaid :=
  Claim7.holds_tied_plain_at .later [] [.data, .data, .data, .sentinel, .sentinel] true (true, "ed9049e8d4a612af79481b3bc7844afc04cee0ee2f0fe87f8b58560d4ff41fe9") true
    depotCards_row (fun _ h => by cases h) (by kernel_rfl) (fun _ h => by cases h) depotCards_row_tie rfl ⟨rfl, rfl⟩ (by kernel_rfl) rfl
    (fun f fn hf hfn => by
      obtain rfl : f = 7 := (Option.some.inj ((show Tryz.prog.funcNamed "gasolier/gasolierlaw08.DepotCards" = some 7 by kernel_rfl).symm.trans hf)).symm
      obtain rfl : fn = Tryz.f7 := (Option.some.inj (Tryz.func7.symm.trans hfn)).symm
      exact ⟨by kernel_rfl, fun j t ht => by
        have hall : (Tryz.f7.params.toList.all fun t => !Tryz.prog.wantsStandIn t) = true := by kernel_rfl
        have h2 := List.all_eq_true.1 hall t (List.mem_of_getElem? (by simpa using ht))
        exact (show Tryz.prog.wantsStandIn t = false by simpa using h2)⟩)
    (by kernel_rfl)
end Go.Proofs.YtggdlgclohnbaaaGreatDoor
