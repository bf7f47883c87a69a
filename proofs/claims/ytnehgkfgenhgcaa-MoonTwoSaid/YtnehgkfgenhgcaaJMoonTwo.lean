/- MoonTwo: for every input the statement's call returns true; the arguments read behind it as they did. No conditions. -/
import Derived.Test.YtnehgkfgenhgcaaM1
import Derived.Test.YtnehgkfgenhgcaaRows
namespace Go.Proofs.Ytnehgkfgenhgcaa
open Go Go.RowKit Go.Sx Go.ChangeShapes

theorem ownMoonTwo : ownKnob Try.prog.godebug = none := by kernel_rfl
theorem laidMoonTwo : laidOutB Try.prog = true := by kernel_rfl
theorem law_MoonTwo (x : TRaw × Int × (List Int) × Unit) (h : TRaw.G x.1 ∧ InK .i64 x.2.1 ∧ (x.2.2.1.length * 8 ≤ reachBytes ∧ x.2.2.1.length ≤ maxLen ∧ ∀ y : Int, y ∈ x.2.2.1 → InK .i64 y) ∧ True) : Does Try.prog 3 [.agg (TRaw.c x.1), DI x.2.1, lD 1 x.2.2.1 cI] (fun y => y = .v (.bool true)) := by
  obtain ⟨h0, h1, h2, _⟩ := h
  exact d_L02_MoonTwo (x.1) (x.2.1) (x.2.2.1) true (pl_MoonTwo (x.1) (x.2.1) (x.2.2.1) h0 h1 h2)
set_option maxRecDepth 100000 in
theorem liftedMoonTwo (os : Os) (started : os.Started) (H : Type) (enc : TypeId × Value → H) :
    ReturnsInHanded {} Try.checked os 3 .any (Rows.moonTwoSpec.pre6 enc Try.prog Try.f3 Rows.moonTwoRow.domain false) (Rows.moonTwoSpec.post enc Try.prog Try.f3 false true false false) := by
  refine returnsInHanded_of_change_sized (C := Try.checked) ownMoonTwo started (by kernel_rfl) Try.func3
    (ChangeSpec.witness6 (enc := enc) (C := Try.checked) false ⟨#[], #[.agg #[.slice none 0 0, .slice none 0 0, .slice none 0 0, .slice none 0 0, .int .i64 0], .int .i64 0, .slice none 0 0], []⟩ 12 (by kernel_rfl) (by kernel_rfl) (by kernel_rfl) (by kernel_rfl)) ?_
  intro W base args ds gs before hval hW _ hwt _
  exact law_contract (P := Try.prog) (ts := [26, 3, 27]) (tb := 4) (OpensArgs.agg op_26 (fun _ => rfl) (by rw [Try.underlying26]) (OpensArgs.one (Opens.int Try.underlying3) (by rw [Try.underlying3]) (OpensArgs.one op_27 (by rw [Try.underlying27]) OpensArgs.nil))) (fun x h => law_MoonTwo x h) (by rw [Try.params3]) laidMoonTwo (by kernel_rfl) rfl rfl Try.underlying4 (fun ds h => by
    match ds, h with
    | [_, _, _], _ => exact ⟨rfl, rfl, rfl⟩) hval hW hwt
theorem moonTwo_proved : Rows.MoonTwoSaid :=
  OpenClaim.holds_of_wide 3 Try.f3 rfl rfl rfl rfl rfl rfl rfl ⟨rfl, rfl, rfl, rfl, rfl⟩ rfl rfl rfl rfl rfl (by kernel_rfl) Try.func3 (by kernel_rfl)
    (of_decide_eq_true (by kernel_rfl)) (by unfold Func.isWrapper; first | (rw [if_pos (by decide +kernel)]; kernel_rfl) | (rw [if_neg (by decide +kernel)]; exact ⟨rfl, rfl⟩))
    (fun os started H enc _ => liftedMoonTwo os started H enc)
end Go.Proofs.Ytnehgkfgenhgcaa
