/- MoonAnswers: for every input the statement's call returns true; the arguments read behind it as they did. No conditions. -/
import Derived.Test.YtdhjccionnbljaaM1
import Derived.Test.YtdhjccionnbljaaRows
namespace Go.Proofs.Ytdhjccionnbljaa
open Go Go.RowKit Go.Sx Go.ChangeShapes

theorem ownMoonAnswers : ownKnob Try.prog.godebug = none := by kernel_rfl
theorem laidMoonAnswers : laidOutB Try.prog = true := by kernel_rfl
theorem law_MoonAnswers (x : TSky × TAsk × Unit) (h : TSky.G x.1 ∧ TAsk.G x.2.1 ∧ True) : Does Try.prog 8 [.agg (TSky.c x.1), .agg (TAsk.c x.2.1)] (fun y => y = .v (.bool true)) := by
  obtain ⟨h0, h1, _⟩ := h
  exact d_L02_MoonAnswers (x.1) (x.2.1) true (pl_MoonAnswers (x.1) (x.2.1) h0 h1)
set_option maxRecDepth 100000 in
theorem liftedMoonAnswers (os : Os) (started : os.Started) (H : Type) (enc : TypeId × Value → H) :
    ReturnsInHanded {} Try.checked os 8 .any (Rows.moonAnswersSpec.pre6 enc Try.prog Try.f8 Rows.moonAnswersRow.domain false) (Rows.moonAnswersSpec.post enc Try.prog Try.f8 false true false false) := by
  refine returnsInHanded_of_change_sized (C := Try.checked) ownMoonAnswers started (by kernel_rfl) Try.func8
    (ChangeSpec.witness6 (enc := enc) (C := Try.checked) false ⟨#[], #[.agg #[.slice none 0 0, .slice none 0 0, .slice none 0 0], .agg #[.int .i64 0, .int .i64 0, .int .i64 0, .int .i64 0]], []⟩ 12 (by kernel_rfl) (by kernel_rfl) (by kernel_rfl) (by kernel_rfl)) ?_
  intro W base args ds gs before hval hW _ hwt _
  exact law_contract (P := Try.prog) (ts := [32, 81]) (tb := 4) (OpensArgs.agg op_32 (fun _ => rfl) (by rw [Try.underlying32]) (OpensArgs.agg op_81 (fun _ => rfl) (by rw [Try.underlying81]) OpensArgs.nil)) (fun x h => law_MoonAnswers x h) (by rw [Try.params8]) laidMoonAnswers (by kernel_rfl) rfl rfl Try.underlying4 (fun ds h => by
    match ds, h with
    | [_, _], _ => exact ⟨rfl, rfl, rfl⟩) hval hW hwt
theorem moonAnswers_proved : Rows.MoonAnswersSaid :=
  OpenClaim.holds_of_wide 8 Try.f8 rfl rfl rfl rfl rfl rfl rfl ⟨rfl, rfl, rfl, rfl, rfl⟩ rfl rfl rfl rfl rfl (by kernel_rfl) Try.func8 (by kernel_rfl)
    (of_decide_eq_true (by kernel_rfl)) (by unfold Func.isWrapper; first | (rw [if_pos (by decide +kernel)]; kernel_rfl) | (rw [if_neg (by decide +kernel)]; exact ⟨rfl, rfl⟩))
    (fun os started H enc _ => liftedMoonAnswers os started H enc)
end Go.Proofs.Ytdhjccionnbljaa
