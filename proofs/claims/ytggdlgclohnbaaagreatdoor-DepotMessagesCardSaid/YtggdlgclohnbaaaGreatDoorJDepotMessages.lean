/- DepotMessages: for every input the statement's call returns true; the arguments read behind it as they did. No conditions. -/
import Derived.Test.YtggdlgclohnbaaaGreatDoorN1
import Derived.Test.YtggdlgclohnbaaaGreatDoorRows
import Derived.Test.YtggdlgclohnbaaaGreatDoorTie
import Derived.Test.YtggdlgclohnbaaaGreatDoorCards
import Derived.SevenTiedAt
import Derived.LaidLaws
import Derived.Lay
import Derived.LaidOnce
import Derived.MakeChecks
namespace Go.Proofs.YtggdlgclohnbaaaGreatDoor
open Go Go.RowKit Go.Sx Go.ChangeShapes

theorem ownDepotMessages : ownKnob Tryz.prog.godebug = none := by kernel_rfl
theorem laidDepotMessages : laidOutB Tryz.prog = true := by kernel_rfl
theorem law_DepotMessages (x : (List Z8) × (List Int) × Unit) (h : (x.1.length * 88 ≤ reachBytes ∧ x.1.length ≤ maxLen ∧ ∀ y : Z8, y ∈ x.1 → Z8.G y) ∧ (x.2.1.length * 8 ≤ reachBytes ∧ x.2.1.length ≤ maxLen ∧ ∀ y : Int, y ∈ x.2.1 → InK .i64 y) ∧ True) : o9 Tryz.prog 12 [lD 9 x.1 Z8.c, lD 1 x.2.1 cI] (fun y => y = .v (.bool true)) := by
  obtain ⟨h0, h1, _⟩ := h
  exact a6y (x.1) (x.2.1) true (a9i (x.1) (x.2.1) h0 h1)
set_option maxRecDepth 100000 in
theorem liftedDepotMessages (os : Os) (started : os.Started) (H : Type) (enc : TypeId × Value → H) :
    ReturnsInHanded {} Tryz.checked os 12 .any (fun w args => (Rows.depotMessagesSpec.pre enc Tryz.prog Tryz.f12 Rows.depotMessagesRow.domain false w args ∧ laidMetH Tryz.prog Rows.depotMessagesRow.laid w) ∧ sizedMet enc Tryz.prog Tryz.f12 (OpenSpec.ofChange Rows.depotMessagesSpec) false w args) (Rows.depotMessagesSpec.post enc Tryz.prog Tryz.f12 false true false false) := by
  refine returnsInHanded_of_change_and (C := Tryz.checked) (X := (fun w _ => laidMetH Tryz.prog Rows.depotMessagesRow.laid w)) (fun _ _ _ hh h => h.of_heap hh) ownDepotMessages started (by kernel_rfl) Tryz.func12
    (ChangeSpec.witness_shaped (enc := enc) (C := Tryz.checked) (X := (fun w _ => laidMetH Tryz.prog Rows.depotMessagesRow.laid w)) false (World.laidAll Tryz.prog os Rows.depotMessagesRow.laid) #[.slice none 0 0, .slice none 0 0] 12 (World.laidAll_os _ _ _) (World.shaped_of_ZipB (by kernel_rfl) (by kernel_rfl)) (by kernel_rfl) (by kernel_rfl) (by kernel_rfl)
      (by rw [MakeChecks.laidMetH_plain _ _ _ (by kernel_rfl)]; exact laidMet_laidAll _ (by kernel_rfl) (by kernel_rfl))) ?_
  intro W base args ds gs before hval hW _ hwt hlaid _
  exact b4R (P := Tryz.prog) (ts := [84, 25]) (tb := 4) (J7.one c7j (by rw [Tryz.underlying84]) (J7.one c5V (by rw [Tryz.underlying25]) J7.nil)) (fun x h => law_DepotMessages x h) (by rw [Tryz.params12]) laidDepotMessages (by kernel_rfl) rfl rfl Tryz.underlying4 (fun ds h => by
    match ds, h with
    | [_, _], _ => exact ⟨rfl, rfl, rfl⟩) hval hW hwt (c6C (Eq.mp (MakeChecks.laidMetH_plain Tryz.prog Rows.depotMessagesRow.laid W (by kernel_rfl)) hlaid))
theorem depotMessages_row : Rows.DepotMessagesSaid :=
  OpenClaim.holds_of_wide 12 Tryz.f12 rfl rfl rfl rfl rfl rfl rfl ⟨rfl, rfl, rfl, rfl, rfl⟩ rfl rfl rfl rfl rfl (by kernel_rfl) Tryz.func12 (by kernel_rfl)
    (of_decide_eq_true (by kernel_rfl)) (by unfold Func.isWrapper; first | (rw [if_pos (by decide +kernel)]; kernel_rfl) | (rw [if_neg (by decide +kernel)]; exact ⟨rfl, rfl⟩))
    (fun os started H enc _ => liftedDepotMessages os started H enc)
theorem depotMessages_proved : Rows.DepotMessagesCardSaid :=
  Claim7.holds_tied_plain_at .later [] [.data, .data, .data, .sentinel, .sentinel] true (true, "ed9049e8d4a612af79481b3bc7844afc04cee0ee2f0fe87f8b58560d4ff41fe9") true
    depotMessages_row (fun _ h => by cases h) (by kernel_rfl) (fun _ h => by cases h) depotMessages_row_tie rfl ⟨rfl, rfl⟩ (by kernel_rfl) rfl
    (fun f fn hf hfn => by
      obtain rfl : f = 12 := (Option.some.inj ((show Tryz.prog.funcNamed "gasolier/gasolierlaw08.DepotMessages" = some 12 by kernel_rfl).symm.trans hf)).symm
      obtain rfl : fn = Tryz.f12 := (Option.some.inj (Tryz.func12.symm.trans hfn)).symm
      exact ⟨by kernel_rfl, fun j t ht => by
        have hall : (Tryz.f12.params.toList.all fun t => !Tryz.prog.wantsStandIn t) = true := by kernel_rfl
        have h2 := List.all_eq_true.1 hall t (List.mem_of_getElem? (by simpa using ht))
        exact (show Tryz.prog.wantsStandIn t = false by simpa using h2)⟩)
    (by kernel_rfl)
end Go.Proofs.YtggdlgclohnbaaaGreatDoor
