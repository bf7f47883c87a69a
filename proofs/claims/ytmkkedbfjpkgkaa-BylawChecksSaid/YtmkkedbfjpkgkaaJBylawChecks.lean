/- BylawChecks: for every input the statement's call returns true; the arguments read behind it as they did. No conditions. -/
import Derived.Test.YtmkkedbfjpkgkaaM1
import Derived.Test.YtmkkedbfjpkgkaaRows
namespace Go.Proofs.Ytmkkedbfjpkgkaa
open Go Go.RowKit Go.Sx Go.ChangeShapes

theorem ownBylawChecks : ownKnob Try.prog.godebug = none := by kernel_rfl
theorem laidBylawChecks : laidOutB Try.prog = true := by kernel_rfl
theorem law_BylawChecks (x : TBylaw × TOne × Unit) (h : TBylaw.G x.1 ∧ TOne.G x.2.1 ∧ True) : Does Try.prog 9 [.agg (TBylaw.c x.1), .agg (TOne.c x.2.1)] (fun y => y = .v (.bool true)) := by
  obtain ⟨h0, h1, _⟩ := h
  exact d_L01_BylawChecks (x.1) (x.2.1) true (pl_BylawChecks (x.1) (x.2.1) h0 h1)
set_option maxRecDepth 100000 in
theorem liftedBylawChecks (os : Os) (started : os.Started) (H : Type) (enc : TypeId × Value → H) :
    ReturnsInHanded {} Try.checked os 9 .any (Rows.bylawChecksSpec.pre6 enc Try.prog Try.f9 Rows.bylawChecksRow.domain false) (Rows.bylawChecksSpec.post enc Try.prog Try.f9 false true false false) := by
  refine returnsInHanded_of_change_sized (C := Try.checked) ownBylawChecks started (by kernel_rfl) Try.func9
    (ChangeSpec.witness6 (enc := enc) (C := Try.checked) false ⟨#[], #[.agg #[.slice none 0 0, .slice none 0 0], .agg #[.int .i64 0, .int .i64 0, .int .i64 0, .int .i64 0, .int .i64 0, .int .i64 0, .int .i64 0, .int .i64 0, .int .i64 0, .int .i64 0, .int .i64 0, .int .i64 0, .int .i64 0, .int .i64 0, .int .i64 0, .int .i64 0, .int .i64 0, .int .i64 0, .int .i64 0, .int .i64 0, .int .i64 0, .int .i64 0, .int .i64 0, .int .i64 0]], []⟩ 12 (by kernel_rfl) (by kernel_rfl) (by kernel_rfl) (by kernel_rfl)) ?_
  intro W base args ds gs before hval hW _ hwt _
  exact law_contract (P := Try.prog) (ts := [25, 86]) (tb := 4) (OpensArgs.agg op_25 (fun _ => rfl) (by rw [Try.underlying25]) (OpensArgs.agg op_86 (fun _ => rfl) (by rw [Try.underlying86]) OpensArgs.nil)) (fun x h => law_BylawChecks x h) (by rw [Try.params9]) laidBylawChecks (by kernel_rfl) rfl rfl Try.underlying4 (fun ds h => by
    match ds, h with
    | [_, _], _ => exact ⟨rfl, rfl, rfl⟩) hval hW hwt
theorem bylawChecks_proved : Rows.BylawChecksSaid :=
  OpenClaim.holds_of_wide 9 Try.f9 rfl rfl rfl rfl rfl rfl rfl ⟨rfl, rfl, rfl, rfl, rfl⟩ rfl rfl rfl rfl rfl (by kernel_rfl) Try.func9 (by kernel_rfl)
    (of_decide_eq_true (by kernel_rfl)) (by unfold Func.isWrapper; first | (rw [if_pos (by decide +kernel)]; kernel_rfl) | (rw [if_neg (by decide +kernel)]; exact ⟨rfl, rfl⟩))
    (fun os started H enc _ => liftedBylawChecks os started H enc)
end Go.Proofs.Ytmkkedbfjpkgkaa
