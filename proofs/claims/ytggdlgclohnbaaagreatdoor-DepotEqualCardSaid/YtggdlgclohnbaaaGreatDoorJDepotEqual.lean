/- DepotEqual: for every input the statement's call returns true; the arguments read behind it as they did. No conditions. -/
import Derived.Test.YtggdlgclohnbaaaGreatDoorN1
import Derived.Test.YtggdlgclohnbaaaGreatDoorRows
import Derived.Test.YtggdlgclohnbaaaGreatDoorTie
import Derived.Test.YtggdlgclohnbaaaGreatDoorCards
import Derived.SevenTiedAt
import Derived.LaidLaws
import Derived.Lay
import Derived.LaidOnce
import Derived.MakeChecks
namespace Go.Proofs.YtggdlgclohnbaaaGreatDoor
open Go Go.RowKit Go.Sx Go.ChangeShapes

theorem ownDepotEqual : ownKnob Tryz.prog.godebug = none := by kernel_rfl
theorem laidDepotEqual : laidOutB Tryz.prog = true := by kernel_rfl
theorem law_DepotEqual (x : (List a1c) × Int × Unit) (h : (x.1.length * 88 ≤ reachBytes ∧ x.1.length ≤ maxLen ∧ ∀ y : a1c, y ∈ x.1 → a1c.G y) ∧ InK .i64 x.2.1 ∧ True) : s9 Tryz.prog 13 [lD 9 x.1 a1c.c, DI x.2.1] (fun y => y = .v (.bool true)) := by
  obtain ⟨h0, h1, _⟩ := h
  exact b1v (x.1) (x.2.1) true (b5p (x.1) (x.2.1) h0 h1)
set_option maxRecDepth 100000 in
theorem liftedDepotEqual (os : Os) (started : os.Started) (H : Type) (enc : TypeId × Value → H) :
    ReturnsInHanded {} Tryz.checked os 13 .any (fun w args => (Rows.depotEqualSpec.pre enc Tryz.prog Tryz.f13 Rows.depotEqualRow.domain false w args ∧ laidMetH Tryz.prog Rows.depotEqualRow.laid w) ∧ sizedMet enc Tryz.prog Tryz.f13 (OpenSpec.ofChange Rows.depotEqualSpec) false w args) (Rows.depotEqualSpec.post enc Tryz.prog Tryz.f13 false true false false) := by
  refine returnsInHanded_of_change_and (C := Tryz.checked) (X := (fun w _ => laidMetH Tryz.prog Rows.depotEqualRow.laid w)) (fun _ _ _ hh h => h.of_heap hh) ownDepotEqual started (by kernel_rfl) Tryz.func13
    (ChangeSpec.witness_shaped (enc := enc) (C := Tryz.checked) (X := (fun w _ => laidMetH Tryz.prog Rows.depotEqualRow.laid w)) false (World.laidAll Tryz.prog os Rows.depotEqualRow.laid) #[.slice none 0 0, .int .i64 0] 12 (World.laidAll_os _ _ _) (World.shaped_of_ZipB (by kernel_rfl) (by kernel_rfl)) (by kernel_rfl) (by kernel_rfl) (by kernel_rfl)
      (by rw [MakeChecks.laidMetH_plain _ _ _ (by kernel_rfl)]; exact laidMet_laidAll _ (by kernel_rfl) (by kernel_rfl))) ?_
  intro W base args ds gs before hval hW _ hwt hlaid _
  exact b7b (P := Tryz.prog) (ts := [84, 3]) (tb := 4) (N9.one d1f (by rw [Tryz.underlying84]) (N9.one (F3.int Tryz.underlying3) (by rw [Tryz.underlying3]) N9.nil)) (fun x h => law_DepotEqual x h) (by rw [Tryz.params13]) laidDepotEqual (by kernel_rfl) rfl rfl Tryz.underlying4 (fun ds h => by
    match ds, h with
    | [_, _], _ => exact ⟨rfl, rfl, rfl⟩) hval hW hwt (c9f (Eq.mp (MakeChecks.laidMetH_plain Tryz.prog Rows.depotEqualRow.laid W (by kernel_rfl)) hlaid))
theorem depotEqual_row : Rows.DepotEqualSaid :=
  OpenClaim.holds_of_wide 13 Tryz.f13 rfl rfl rfl rfl rfl rfl rfl ⟨rfl, rfl, rfl, rfl, rfl⟩ rfl rfl rfl rfl rfl (by kernel_rfl) Tryz.func13 (by kernel_rfl)
    (b1J (by kernel_rfl)) (by unfold Func.isWrapper; first | (rw [j2 (by decide +kernel)]; kernel_rfl) | (rw [j0 (by decide +kernel)]; exact ⟨rfl, rfl⟩))
    (fun os started H enc _ => liftedDepotEqual os started H enc)
theorem depotEqual_proved : Rows.DepotEqualCardSaid :=
  Claim7.holds_tied_plain_at .later [] [.data, .data, .data, .sentinel, .sentinel] true (true, "ed9049e8d4a612af79481b3bc7844afc04cee0ee2f0fe87f8b58560d4ff41fe9") true
    depotEqual_row (fun _ h => by cases h) (by kernel_rfl) (fun _ h => by cases h) depotEqual_row_tie rfl ⟨rfl, rfl⟩ (by kernel_rfl) rfl
    (fun f fn hf hfn => by
      obtain rfl : f = 13 := (G4 ((show Tryz.prog.funcNamed "gasolier/gasolierlaw08.DepotEqual" = some 13 by kernel_rfl).symm.trans hf)).symm
      obtain rfl : fn = Tryz.f13 := (G4 (Tryz.func13.symm.trans hfn)).symm
      exact ⟨by kernel_rfl, fun j t ht => by
        have hall : (Tryz.f13.params.toList.all fun t => !Tryz.prog.wantsStandIn t) = true := by kernel_rfl
        have h2 := Q8.1 hall t (a5D (by simpa using ht))
        exact (show Tryz.prog.wantsStandIn t = false by simpa using h2)⟩)
    (by kernel_rfl)
end Go.Proofs.YtggdlgclohnbaaaGreatDoor
