/- BylawKnown: for every input the statement's call returns true; the arguments read behind it as they did. No conditions. -/
import Derived.Test.YtmkkedbfjpkgkaaM1
import Derived.Test.YtmkkedbfjpkgkaaRows
namespace Go.Proofs.Ytmkkedbfjpkgkaa
open Go Go.RowKit Go.Sx Go.ChangeShapes

theorem ownBylawKnown : ownKnob Try.prog.godebug = none := by kernel_rfl
theorem laidBylawKnown : laidOutB Try.prog = true := by kernel_rfl
theorem law_BylawKnown (x : TBylaw × TNight × TAsk × Unit) (h : TBylaw.G x.1 ∧ TNight.G x.2.1 ∧ TAsk.G x.2.2.1 ∧ True) : Does Try.prog 11 [.agg (TBylaw.c x.1), .agg (TNight.c x.2.1), .agg (TAsk.c x.2.2.1)] (fun y => y = .v (.bool true)) := by
  obtain ⟨h0, h1, h2, _⟩ := h
  exact d_L01_BylawKnown (x.1) (x.2.1) (x.2.2.1) true (pl_BylawKnown (x.1) (x.2.1) (x.2.2.1) h0 h1 h2)
set_option maxRecDepth 100000 in
theorem liftedBylawKnown (os : Os) (started : os.Started) (H : Type) (enc : TypeId × Value → H) :
    ReturnsInHanded {} Try.checked os 11 .any (Rows.bylawKnownSpec.pre6 enc Try.prog Try.f11 Rows.bylawKnownRow.domain false) (Rows.bylawKnownSpec.post enc Try.prog Try.f11 false true false false) := by
  refine returnsInHanded_of_change_sized (C := Try.checked) ownBylawKnown started (by kernel_rfl) Try.func11
    (ChangeSpec.witness6 (enc := enc) (C := Try.checked) false ⟨#[], #[.agg #[.slice none 0 0, .slice none 0 0], .agg #[.int .i64 0, .int .i64 0, .int .i64 0, .int .i64 0, .int .i64 0, .int .i64 0, .int .i64 0, .int .i64 0], .agg #[.int .i64 0, .int .i64 0, .int .i64 0, .int .i64 0, .int .i64 0, .int .i64 0]], []⟩ 12 (by kernel_rfl) (by kernel_rfl) (by kernel_rfl) (by kernel_rfl)) ?_
  intro W base args ds gs before hval hW _ hwt _
  exact law_contract (P := Try.prog) (ts := [25, 29, 47]) (tb := 4) (OpensArgs.agg op_25 (fun _ => rfl) (by rw [Try.underlying25]) (OpensArgs.agg op_29 (fun _ => rfl) (by rw [Try.underlying29]) (OpensArgs.agg op_47 (fun _ => rfl) (by rw [Try.underlying47]) OpensArgs.nil))) (fun x h => law_BylawKnown x h) (by rw [Try.params11]) laidBylawKnown (by kernel_rfl) rfl rfl Try.underlying4 (fun ds h => by
    match ds, h with
    | [_, _, _], _ => exact ⟨rfl, rfl, rfl⟩) hval hW hwt
theorem bylawKnown_proved : Rows.BylawKnownSaid :=
  OpenClaim.holds_of_wide 11 Try.f11 rfl rfl rfl rfl rfl rfl rfl ⟨rfl, rfl, rfl, rfl, rfl⟩ rfl rfl rfl rfl rfl (by kernel_rfl) Try.func11 (by kernel_rfl)
    (of_decide_eq_true (by kernel_rfl)) (by unfold Func.isWrapper; first | (rw [if_pos (by decide +kernel)]; kernel_rfl) | (rw [if_neg (by decide +kernel)]; exact ⟨rfl, rfl⟩))
    (fun os started H enc _ => liftedBylawKnown os started H enc)
end Go.Proofs.Ytmkkedbfjpkgkaa
