/- MoonTrue: for every input the statement's call returns true; the arguments read behind it as they did. No conditions. -/
import Derived.Test.YtdhjccionnbljaaM1
import Derived.Test.YtdhjccionnbljaaRows
namespace Go.Proofs.Ytdhjccionnbljaa
open Go Go.RowKit Go.Sx Go.ChangeShapes

theorem ownMoonTrue : ownKnob Try.prog.godebug = none := by kernel_rfl
theorem laidMoonTrue : laidOutB Try.prog = true := by kernel_rfl
theorem law_MoonTrue (x : TRaw × (Int × Int × Int) × Int × Unit) (h : TRaw.G x.1 ∧ (InK .i64 x.2.1.1 ∧ InK .i64 x.2.1.2.1 ∧ InK .i64 x.2.1.2.2) ∧ InK .i64 x.2.2.1 ∧ True) : Does Try.prog 6 [.agg (TRaw.c x.1), .agg [DI x.2.1.1, DI x.2.1.2.1, DI x.2.1.2.2], DI x.2.2.1] (fun y => y = .v (.bool true)) := by
  obtain ⟨h0, h1, h2, _⟩ := h
  exact d_L02_MoonTrue (x.1) (x.2.1) (x.2.2.1) true (pl_MoonTrue (x.1) (x.2.1) (x.2.2.1) h0 h1 h2)
set_option maxRecDepth 100000 in
theorem liftedMoonTrue (os : Os) (started : os.Started) (H : Type) (enc : TypeId × Value → H) :
    ReturnsInHanded {} Try.checked os 6 .any (Rows.moonTrueSpec.pre6 enc Try.prog Try.f6 Rows.moonTrueRow.domain false) (Rows.moonTrueSpec.post enc Try.prog Try.f6 false true false false) := by
  refine returnsInHanded_of_change_sized (C := Try.checked) ownMoonTrue started (by kernel_rfl) Try.func6
    (ChangeSpec.witness6 (enc := enc) (C := Try.checked) false ⟨#[], #[.agg #[.slice none 0 0, .slice none 0 0, .slice none 0 0, .slice none 0 0, .int .i64 0], .agg #[.int .i64 0, .int .i64 0, .int .i64 0], .int .i64 0], []⟩ 12 (by kernel_rfl) (by kernel_rfl) (by kernel_rfl) (by kernel_rfl)) ?_
  intro W base args ds gs before hval hW _ hwt _
  exact law_contract (P := Try.prog) (ts := [26, 27, 3]) (tb := 4) (OpensArgs.agg op_26 (fun _ => rfl) (by rw [Try.underlying26]) (OpensArgs.agg op_27 (fun _ => rfl) (by rw [Try.underlying27]) (OpensArgs.one (Opens.int Try.underlying3) (by rw [Try.underlying3]) OpensArgs.nil))) (fun x h => law_MoonTrue x h) (by rw [Try.params6]) laidMoonTrue (by kernel_rfl) rfl rfl Try.underlying4 (fun ds h => by
    match ds, h with
    | [_, _, _], _ => exact ⟨rfl, rfl, rfl⟩) hval hW hwt
theorem moonTrue_proved : Rows.MoonTrueSaid :=
  OpenClaim.holds_of_wide 6 Try.f6 rfl rfl rfl rfl rfl rfl rfl ⟨rfl, rfl, rfl, rfl, rfl⟩ rfl rfl rfl rfl rfl (by kernel_rfl) Try.func6 (by kernel_rfl)
    (of_decide_eq_true (by kernel_rfl)) (by unfold Func.isWrapper; first | (rw [if_pos (by decide +kernel)]; kernel_rfl) | (rw [if_neg (by decide +kernel)]; exact ⟨rfl, rfl⟩))
    (fun os started H enc _ => liftedMoonTrue os started H enc)
end Go.Proofs.Ytdhjccionnbljaa
