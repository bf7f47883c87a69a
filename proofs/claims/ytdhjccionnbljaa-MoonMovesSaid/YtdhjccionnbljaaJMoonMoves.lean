/- MoonMoves: for every input the statement's call returns true; the arguments read behind it as they did. No conditions. -/
import Derived.Test.YtdhjccionnbljaaM1
import Derived.Test.YtdhjccionnbljaaRows
namespace Go.Proofs.Ytdhjccionnbljaa
open Go Go.RowKit Go.Sx Go.ChangeShapes

theorem ownMoonMoves : ownKnob Try.prog.godebug = none := by kernel_rfl
theorem laidMoonMoves : laidOutB Try.prog = true := by kernel_rfl
theorem law_MoonMoves (x : TSky × Int × (Int × Int) × Unit) (h : TSky.G x.1 ∧ InK .i64 x.2.1 ∧ (InK .i64 x.2.2.1.1 ∧ InK .i64 x.2.2.1.2) ∧ True) : Does Try.prog 9 [.agg (TSky.c x.1), DI x.2.1, .agg [DI x.2.2.1.1, DI x.2.2.1.2]] (fun y => y = .v (.bool true)) := by
  obtain ⟨h0, h1, h2, _⟩ := h
  exact d_L02_MoonMoves (x.1) (x.2.1) (x.2.2.1) true (pl_MoonMoves (x.1) (x.2.1) (x.2.2.1) h0 h1 h2)
set_option maxRecDepth 100000 in
theorem liftedMoonMoves (os : Os) (started : os.Started) (H : Type) (enc : TypeId × Value → H) :
    ReturnsInHanded {} Try.checked os 9 .any (Rows.moonMovesSpec.pre6 enc Try.prog Try.f9 Rows.moonMovesRow.domain false) (Rows.moonMovesSpec.post enc Try.prog Try.f9 false true false false) := by
  refine returnsInHanded_of_change_sized (C := Try.checked) ownMoonMoves started (by kernel_rfl) Try.func9
    (ChangeSpec.witness6 (enc := enc) (C := Try.checked) false ⟨#[], #[.agg #[.slice none 0 0, .slice none 0 0, .slice none 0 0], .int .i64 0, .agg #[.int .i64 0, .int .i64 0]], []⟩ 12 (by kernel_rfl) (by kernel_rfl) (by kernel_rfl) (by kernel_rfl)) ?_
  intro W base args ds gs before hval hW _ hwt _
  exact law_contract (P := Try.prog) (ts := [32, 3, 95]) (tb := 4) (OpensArgs.agg op_32 (fun _ => rfl) (by rw [Try.underlying32]) (OpensArgs.one (Opens.int Try.underlying3) (by rw [Try.underlying3]) (OpensArgs.agg op_95 (fun _ => rfl) (by rw [Try.underlying95]) OpensArgs.nil))) (fun x h => law_MoonMoves x h) (by rw [Try.params9]) laidMoonMoves (by kernel_rfl) rfl rfl Try.underlying4 (fun ds h => by
    match ds, h with
    | [_, _, _], _ => exact ⟨rfl, rfl, rfl⟩) hval hW hwt
theorem moonMoves_proved : Rows.MoonMovesSaid :=
  OpenClaim.holds_of_wide 9 Try.f9 rfl rfl rfl rfl rfl rfl rfl ⟨rfl, rfl, rfl, rfl, rfl⟩ rfl rfl rfl rfl rfl (by kernel_rfl) Try.func9 (by kernel_rfl)
    (of_decide_eq_true (by kernel_rfl)) (by unfold Func.isWrapper; first | (rw [if_pos (by decide +kernel)]; kernel_rfl) | (rw [if_neg (by decide +kernel)]; exact ⟨rfl, rfl⟩))
    (fun os started H enc _ => liftedMoonMoves os started H enc)
end Go.Proofs.Ytdhjccionnbljaa
