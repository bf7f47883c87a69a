/- MoonShown: for every input the statement's call returns true; the arguments read behind it as they did. No conditions. -/
import Derived.Test.YtdhjccionnbljaaM1
import Derived.Test.YtdhjccionnbljaaRows
namespace Go.Proofs.Ytdhjccionnbljaa
open Go Go.RowKit Go.Sx Go.ChangeShapes

theorem ownMoonShown : ownKnob Try.prog.godebug = none := by kernel_rfl
theorem laidMoonShown : laidOutB Try.prog = true := by kernel_rfl
theorem law_MoonShown (x : TRaw × (Int × Int × Int) × Unit) (h : TRaw.G x.1 ∧ (InK .i64 x.2.1.1 ∧ InK .i64 x.2.1.2.1 ∧ InK .i64 x.2.1.2.2) ∧ True) : Does Try.prog 10 [.agg (TRaw.c x.1), .agg [DI x.2.1.1, DI x.2.1.2.1, DI x.2.1.2.2]] (fun y => y = .v (.bool true)) := by
  obtain ⟨h0, h1, _⟩ := h
  exact d_L02_MoonShown (x.1) (x.2.1) true (pl_MoonShown (x.1) (x.2.1) h0 h1)
set_option maxRecDepth 100000 in
theorem liftedMoonShown (os : Os) (started : os.Started) (H : Type) (enc : TypeId × Value → H) :
    ReturnsInHanded {} Try.checked os 10 .any (Rows.moonShownSpec.pre6 enc Try.prog Try.f10 Rows.moonShownRow.domain false) (Rows.moonShownSpec.post enc Try.prog Try.f10 false true false false) := by
  refine returnsInHanded_of_change_sized (C := Try.checked) ownMoonShown started (by kernel_rfl) Try.func10
    (ChangeSpec.witness6 (enc := enc) (C := Try.checked) false ⟨#[], #[.agg #[.slice none 0 0, .slice none 0 0, .slice none 0 0, .slice none 0 0, .int .i64 0], .agg #[.int .i64 0, .int .i64 0, .int .i64 0]], []⟩ 12 (by kernel_rfl) (by kernel_rfl) (by kernel_rfl) (by kernel_rfl)) ?_
  intro W base args ds gs before hval hW _ hwt _
  exact law_contract (P := Try.prog) (ts := [26, 27]) (tb := 4) (OpensArgs.agg op_26 (fun _ => rfl) (by rw [Try.underlying26]) (OpensArgs.agg op_27 (fun _ => rfl) (by rw [Try.underlying27]) OpensArgs.nil)) (fun x h => law_MoonShown x h) (by rw [Try.params10]) laidMoonShown (by kernel_rfl) rfl rfl Try.underlying4 (fun ds h => by
    match ds, h with
    | [_, _], _ => exact ⟨rfl, rfl, rfl⟩) hval hW hwt
theorem moonShown_proved : Rows.MoonShownSaid :=
  OpenClaim.holds_of_wide 10 Try.f10 rfl rfl rfl rfl rfl rfl rfl ⟨rfl, rfl, rfl, rfl, rfl⟩ rfl rfl rfl rfl rfl (by kernel_rfl) Try.func10 (by kernel_rfl)
    (of_decide_eq_true (by kernel_rfl)) (by unfold Func.isWrapper; first | (rw [if_pos (by decide +kernel)]; kernel_rfl) | (rw [if_neg (by decide +kernel)]; exact ⟨rfl, rfl⟩))
    (fun os started H enc _ => liftedMoonShown os started H enc)
end Go.Proofs.Ytdhjccionnbljaa
