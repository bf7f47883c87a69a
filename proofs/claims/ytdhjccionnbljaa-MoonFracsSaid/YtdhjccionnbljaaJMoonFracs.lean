/- MoonFracs: for every input the statement's call returns true; the arguments read behind it as they did. No conditions. -/
import Derived.Test.YtdhjccionnbljaaM1
import Derived.Test.YtdhjccionnbljaaRows
namespace Go.Proofs.Ytdhjccionnbljaa
open Go Go.RowKit Go.Sx Go.ChangeShapes

theorem ownMoonFracs : ownKnob Try.prog.godebug = none := by kernel_rfl
theorem laidMoonFracs : laidOutB Try.prog = true := by kernel_rfl
theorem law_MoonFracs (x : TFrac × TFrac × TFrac × Unit) (h : TFrac.G x.1 ∧ TFrac.G x.2.1 ∧ TFrac.G x.2.2.1 ∧ True) : Does Try.prog 5 [.agg (TFrac.c x.1), .agg (TFrac.c x.2.1), .agg (TFrac.c x.2.2.1)] (fun y => y = .v (.bool true)) := by
  obtain ⟨h0, h1, h2, _⟩ := h
  exact d_L02_MoonFracs (x.1) (x.2.1) (x.2.2.1) true (pl_MoonFracs (x.1) (x.2.1) (x.2.2.1) h0 h1 h2)
set_option maxRecDepth 100000 in
theorem liftedMoonFracs (os : Os) (started : os.Started) (H : Type) (enc : TypeId × Value → H) :
    ReturnsInHanded {} Try.checked os 5 .any (Rows.moonFracsSpec.pre6 enc Try.prog Try.f5 Rows.moonFracsRow.domain false) (Rows.moonFracsSpec.post enc Try.prog Try.f5 false true false false) := by
  refine returnsInHanded_of_change_sized (C := Try.checked) ownMoonFracs started (by kernel_rfl) Try.func5
    (ChangeSpec.witness6 (enc := enc) (C := Try.checked) false ⟨#[], #[.agg #[.int .i64 0, .int .i64 0], .agg #[.int .i64 0, .int .i64 0], .agg #[.int .i64 0, .int .i64 0]], []⟩ 12 (by kernel_rfl) (by kernel_rfl) (by kernel_rfl) (by kernel_rfl)) ?_
  intro W base args ds gs before hval hW _ hwt _
  exact law_contract (P := Try.prog) (ts := [37, 37, 37]) (tb := 4) (OpensArgs.agg op_37 (fun _ => rfl) (by rw [Try.underlying37]) (OpensArgs.agg op_37 (fun _ => rfl) (by rw [Try.underlying37]) (OpensArgs.agg op_37 (fun _ => rfl) (by rw [Try.underlying37]) OpensArgs.nil))) (fun x h => law_MoonFracs x h) (by rw [Try.params5]) laidMoonFracs (by kernel_rfl) rfl rfl Try.underlying4 (fun ds h => by
    match ds, h with
    | [_, _, _], _ => exact ⟨rfl, rfl, rfl⟩) hval hW hwt
theorem moonFracs_proved : Rows.MoonFracsSaid :=
  OpenClaim.holds_of_wide 5 Try.f5 rfl rfl rfl rfl rfl rfl rfl ⟨rfl, rfl, rfl, rfl, rfl⟩ rfl rfl rfl rfl rfl (by kernel_rfl) Try.func5 (by kernel_rfl)
    (of_decide_eq_true (by kernel_rfl)) (by unfold Func.isWrapper; first | (rw [if_pos (by decide +kernel)]; kernel_rfl) | (rw [if_neg (by decide +kernel)]; exact ⟨rfl, rfl⟩))
    (fun os started H enc _ => liftedMoonFracs os started H enc)
end Go.Proofs.Ytdhjccionnbljaa
