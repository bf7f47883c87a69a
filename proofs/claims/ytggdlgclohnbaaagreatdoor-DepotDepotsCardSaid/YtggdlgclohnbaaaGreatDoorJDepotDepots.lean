/- DepotDepots: for every input the statement's call returns true; the arguments read behind it as they did. No conditions. -/
import Derived.Test.YtggdlgclohnbaaaGreatDoorN1
import Derived.Test.YtggdlgclohnbaaaGreatDoorRows
import Derived.Test.YtggdlgclohnbaaaGreatDoorTie
import Derived.Test.YtggdlgclohnbaaaGreatDoorCards
import Derived.SevenTiedAt
import Derived.LaidLaws
import Derived.Lay
import Derived.LaidOnce
import Derived.MakeChecks
import Derived.Test.YtggdlgclohnbaaaGreatDoorKDepotDepots
namespace Go.Proofs.YtggdlgclohnbaaaGreatDoor
open Go Go.RowKit Go.Sx Go.ChangeShapes

theorem ownDepotDepots : ownKnob Tryz.prog.godebug = none := by kernel_rfl
theorem laidDepotDepots : laidOutB Tryz.prog = true := by kernel_rfl
theorem law_DepotDepots (x : (List a1M) × a1c × Unit) (h : (x.1.length * 88 ≤ reachBytes ∧ x.1.length ≤ maxLen ∧ ∀ y : a1M, y ∈ x.1 → a1M.G y) ∧ a1c.G x.2.1 ∧ True) : p0 Tryz.prog 11 [lD 9 x.1 a1M.c, .agg (a1c.c x.2.1)] (fun y => y = .v (.bool true)) := by
  obtain ⟨h0, h1, _⟩ := h
  exact b1W (x.1) (x.2.1) true (b5o (x.1) (x.2.1) h0 h1)
set_option maxRecDepth 100000 in
theorem liftedDepotDepots (os : Os) (started : os.Started) (H : Type) (enc : TypeId × Value → H) :
    ReturnsInHanded {} Tryz.checked os 11 .any (fun w args => (Rows.depotDepotsSpec.pre enc Tryz.prog Tryz.f11 Rows.depotDepotsRow.domain false w args ∧ laidMetH Tryz.prog Rows.depotDepotsRow.laid w) ∧ sizedMet enc Tryz.prog Tryz.f11 (OpenSpec.ofChange Rows.depotDepotsSpec) false w args) (Rows.depotDepotsSpec.post enc Tryz.prog Tryz.f11 false true false false) := by
  refine returnsInHanded_of_change_and (C := Tryz.checked) (X := (fun w _ => laidMetH Tryz.prog Rows.depotDepotsRow.laid w)) (fun _ _ _ hh h => h.of_heap hh) ownDepotDepots started (by kernel_rfl) Tryz.func11
    (ChangeSpec.witness_shaped (enc := enc) (C := Tryz.checked) (X := (fun w _ => laidMetH Tryz.prog Rows.depotDepotsRow.laid w)) false (World.laidAll Tryz.prog os Rows.depotDepotsRow.laid) #[.slice none 0 0, .agg #[.int .i64 0, .int .i64 0, .int .i64 0, .int .i64 0, .int .i64 0, .int .i64 0, .int .i64 0, .int .i64 0, .int .i64 0, .string ByteArray.empty, .int .i64 0, .int .i64 0, .int .i64 0, .int .i64 0, .int .i64 0, .int .i64 0, .int .i64 0, .int .i64 0, .slice none 0 0, .slice none 0 0, .int .i64 0, .int .i64 0]] 12 (World.laidAll_os _ _ _) (World.shaped_of_ZipB (by kernel_rfl) (by kernel_rfl)) (by kernel_rfl) (by kernel_rfl) (by kernel_rfl)
      (by rw [MakeChecks.laidMetH_plain _ _ _ (by kernel_rfl)]; exact laidMet_laidAll _ (by kernel_rfl) (by kernel_rfl))) ?_
  intro W base args ds gs before hval hW _ hwt hlaid _
  exact b9x (P := Tryz.prog) (ts := [84, 88]) (tb := 4) (R2.one d3R (by rw [Tryz.underlying84]) (R2.agg d4o (fun _ => rfl) (by rw [Tryz.underlying88]) R2.nil)) (fun x h => law_DepotDepots x h) (by rw [Tryz.params11]) laidDepotDepots (by kernel_rfl) rfl rfl Tryz.underlying4 (fun ds h => by
    match ds, h with
    | [_, _], _ => exact ⟨rfl, rfl, rfl⟩) hval hW hwt (d1m (Eq.mp (MakeChecks.laidMetH_plain Tryz.prog Rows.depotDepotsRow.laid W (by kernel_rfl)) hlaid))
theorem depotDepots_row : Rows.DepotDepotsSaid :=
  OpenClaim.holds_of_wide 11 Tryz.f11 rfl rfl rfl rfl rfl rfl rfl ⟨rfl, rfl, rfl, rfl, rfl⟩ rfl rfl rfl rfl rfl (by kernel_rfl) Tryz.func11 b3g
    (of_decide_eq_true (by kernel_rfl)) (by unfold Func.isWrapper; first | (rw [k9 (by decide +kernel)]; kernel_rfl) | (rw [j6 (by decide +kernel)]; exact ⟨rfl, rfl⟩))
    (fun os started H enc _ => liftedDepotDepots os started H enc)
theorem depotDepots_proved : Rows.DepotDepotsCardSaid :=
  Claim7.holds_tied_plain_at .later [] [.data, .data, .data, .sentinel, .sentinel] true (true, "ed9049e8d4a612af79481b3bc7844afc04cee0ee2f0fe87f8b58560d4ff41fe9") true
    depotDepots_row (fun _ h => by cases h) (by kernel_rfl) (fun _ h => by cases h) depotDepots_row_tie rfl ⟨rfl, rfl⟩ (by kernel_rfl) rfl
    (fun f fn hf hfn => by
      obtain rfl : f = 11 := (E0 ((show Tryz.prog.funcNamed "gasolier/gasolierlaw08.DepotDepots" = some 11 by kernel_rfl).symm.trans hf)).symm
      obtain rfl : fn = Tryz.f11 := (E0 (Tryz.func11.symm.trans hfn)).symm
      exact ⟨by kernel_rfl, fun j t ht => by
        have hall : (Tryz.f11.params.toList.all fun t => !Tryz.prog.wantsStandIn t) = true := by kernel_rfl
        have h2 := V6.1 hall t (b0f (by simpa using ht))
        exact (show Tryz.prog.wantsStandIn t = false by simpa using h2)⟩)
    (by kernel_rfl)
end Go.Proofs.YtggdlgclohnbaaaGreatDoor
