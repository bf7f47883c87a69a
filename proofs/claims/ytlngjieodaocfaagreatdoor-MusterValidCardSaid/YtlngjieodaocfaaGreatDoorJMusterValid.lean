/- MusterValid: for every input the statement's call returns true; the arguments read behind it as they did. No conditions. -/
import Derived.Test.YtlngjieodaocfaaGreatDoorM1
import Derived.Test.YtlngjieodaocfaaGreatDoorRows
import Derived.Test.YtlngjieodaocfaaGreatDoorTie
import Derived.Test.YtlngjieodaocfaaGreatDoorCards
import Derived.SevenTiedAt
import Derived.LaidLaws
import Derived.Lay
import Derived.LaidOnce
import Derived.MakeChecks
namespace Go.Proofs.YtlngjieodaocfaaGreatDoor
open Go Go.RowKit Go.Sx Go.ChangeShapes

theorem ownMusterValid : ownKnob Tryz.prog.godebug = none := by kernel_rfl
theorem laidMusterValid : laidOutB Tryz.prog = true := by kernel_rfl
theorem law_MusterValid (x : (List U6) × b5 × a7X × Unit) (h : (x.1.length * 72 ≤ reachBytes ∧ x.1.length ≤ maxLen ∧ ∀ y : U6, y ∈ x.1 → U6.G y) ∧ b5.G x.2.1 ∧ a7X.G x.2.2.1 ∧ True) : d7 Tryz.prog 3 [lD 9 x.1 U6.c, .agg (b5.c x.2.1), .agg (a7X.c x.2.2.1)] (fun y => y = .v (.bool true)) := by
  obtain ⟨h0, h1, h2, _⟩ := h
  exact b0t (x.1) (x.2.1) (x.2.2.1) true (b3k (x.1) (x.2.1) (x.2.2.1) h0 h1 h2)
set_option maxRecDepth 100000 in
theorem liftedMusterValid (os : Os) (started : os.Started) (H : Type) (enc : TypeId × Value → H) :
    ReturnsInHanded {} Tryz.checked os 3 .any (fun w args => (Rows.musterValidSpec.pre enc Tryz.prog Tryz.f3 Rows.musterValidRow.domain false w args ∧ laidMetH Tryz.prog Rows.musterValidRow.laid w) ∧ sizedMet enc Tryz.prog Tryz.f3 (OpenSpec.ofChange Rows.musterValidSpec) false w args) (Rows.musterValidSpec.post enc Tryz.prog Tryz.f3 false true false false) := by
  refine returnsInHanded_of_change_and (C := Tryz.checked) (X := (fun w _ => laidMetH Tryz.prog Rows.musterValidRow.laid w)) (fun _ _ _ hh h => h.of_heap hh) ownMusterValid started (by kernel_rfl) Tryz.func3
    (ChangeSpec.witness_shaped (enc := enc) (C := Tryz.checked) (X := (fun w _ => laidMetH Tryz.prog Rows.musterValidRow.laid w)) false (World.laidAll Tryz.prog os Rows.musterValidRow.laid) #[.slice none 0 0, .agg #[.int .i64 0, .int .i64 0, .int .i64 0, .int .i64 0, .int .i64 0, .int .i64 0, .int .i64 0, .int .i64 0, .int .i64 0, .int .i64 0, .int .i64 0], .agg #[.int .i64 0, .int .i64 0, .int .i64 0, .int .i64 0, .int .i64 0, .int .i64 0, .int .i64 0, .int .i64 0, .int .i64 0]] 12 (World.laidAll_os _ _ _) (World.shaped_of_ZipB (by kernel_rfl) (by kernel_rfl)) (by kernel_rfl) (by kernel_rfl) (by kernel_rfl)
      (by rw [MakeChecks.laidMetH_plain _ _ _ (by kernel_rfl)]; exact laidMet_laidAll _ (by kernel_rfl) (by kernel_rfl))) ?_
  intro W base args ds gs before hval hW _ hwt _ _
  exact b6A (P := Tryz.prog) (ts := [22, 24, 29]) (tb := 4) (R3.one c6K (by rw [Tryz.underlying22]) (R3.agg c5Y (fun _ => rfl) (by rw [Tryz.underlying24]) (R3.agg c5Z (fun _ => rfl) (by rw [Tryz.underlying29]) R3.nil))) (fun x h => law_MusterValid x h) (by rw [Tryz.params3]) laidMusterValid (by kernel_rfl) rfl rfl Tryz.underlying4 (fun ds h => by
    match ds, h with
    | [_, _, _], _ => exact ⟨rfl, rfl, rfl⟩) hval hW hwt
theorem musterValid_row : Rows.MusterValidSaid :=
  OpenClaim.holds_of_wide 3 Tryz.f3 rfl rfl rfl rfl rfl rfl rfl ⟨rfl, rfl, rfl, rfl, rfl⟩ rfl rfl rfl rfl rfl (by kernel_rfl) Tryz.func3 (by kernel_rfl)
    (of_decide_eq_true (by kernel_rfl)) (by unfold Func.isWrapper; first | (rw [if_pos (by decide +kernel)]; kernel_rfl) | (rw [if_neg (by decide +kernel)]; exact ⟨rfl, rfl⟩))
    (fun os started H enc _ => liftedMusterValid os started H enc)
theorem musterValid_proved : Rows.MusterValidCardSaid :=
  Claim7.holds_tied_plain_at .later [] [.data, .data, .data] true (true, "78a2d1c4c4f97bc1b1ddcfd8bd33cf3f8b515327a0c33cc12677f497080ed6d7") false
    musterValid_row (fun _ h => by cases h) (by kernel_rfl) (fun _ h => by cases h) musterValid_row_tie rfl ⟨rfl, rfl⟩ (by kernel_rfl) rfl
    (fun f fn hf hfn => by
      obtain rfl : f = 3 := (Option.some.inj ((show Tryz.prog.funcNamed "gasolier/gasolierlaw09.MusterValid" = some 3 by kernel_rfl).symm.trans hf)).symm
      obtain rfl : fn = Tryz.f3 := (Option.some.inj (Tryz.func3.symm.trans hfn)).symm
      exact ⟨by kernel_rfl, fun j t ht => by
        have hall : (Tryz.f3.params.toList.all fun t => !Tryz.prog.wantsStandIn t) = true := by kernel_rfl
        have h2 := List.all_eq_true.1 hall t (List.mem_of_getElem? (by simpa using ht))
        exact (show Tryz.prog.wantsStandIn t = false by simpa using h2)⟩)
    (by kernel_rfl)
end Go.Proofs.YtlngjieodaocfaaGreatDoor
