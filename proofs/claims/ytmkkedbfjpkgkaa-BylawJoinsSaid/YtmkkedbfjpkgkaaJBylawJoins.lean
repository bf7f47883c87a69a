/- BylawJoins: for every input the statement's call returns true; the arguments read behind it as they did. No conditions. -/
import Derived.Test.YtmkkedbfjpkgkaaM1
import Derived.Test.YtmkkedbfjpkgkaaRows
namespace Go.Proofs.Ytmkkedbfjpkgkaa
open Go Go.RowKit Go.Sx Go.ChangeShapes

theorem ownBylawJoins : ownKnob Try.prog.godebug = none := by kernel_rfl
theorem laidBylawJoins : laidOutB Try.prog = true := by kernel_rfl
theorem law_BylawJoins (x : TBylaw × (List TVersion) × (Int × Int) × Unit) (h : TBylaw.G x.1 ∧ (x.2.1.length * 88 ≤ reachBytes ∧ x.2.1.length ≤ maxLen ∧ ∀ y : TVersion, y ∈ x.2.1 → TVersion.G y) ∧ (InK .i64 x.2.2.1.1 ∧ InK .i64 x.2.2.1.2) ∧ True) : Does Try.prog 10 [.agg (TBylaw.c x.1), lD 11 x.2.1 TVersion.c, .agg [DI x.2.2.1.1, DI x.2.2.1.2]] (fun y => y = .v (.bool true)) := by
  obtain ⟨h0, h1, h2, _⟩ := h
  exact d_L01_BylawJoins (x.1) (x.2.1) (x.2.2.1) true (pl_BylawJoins (x.1) (x.2.1) (x.2.2.1) h0 h1 h2)
set_option maxRecDepth 100000 in
theorem liftedBylawJoins (os : Os) (started : os.Started) (H : Type) (enc : TypeId × Value → H) :
    ReturnsInHanded {} Try.checked os 10 .any (Rows.bylawJoinsSpec.pre6 enc Try.prog Try.f10 Rows.bylawJoinsRow.domain false) (Rows.bylawJoinsSpec.post enc Try.prog Try.f10 false true false false) := by
  refine returnsInHanded_of_change_sized (C := Try.checked) ownBylawJoins started (by kernel_rfl) Try.func10
    (ChangeSpec.witness6 (enc := enc) (C := Try.checked) false ⟨#[], #[.agg #[.slice none 0 0, .slice none 0 0], .slice none 0 0, .agg #[.int .i64 0, .int .i64 0]], []⟩ 12 (by kernel_rfl) (by kernel_rfl) (by kernel_rfl) (by kernel_rfl)) ?_
  intro W base args ds gs before hval hW _ hwt _
  exact law_contract (P := Try.prog) (ts := [25, 22, 52]) (tb := 4) (OpensArgs.agg op_25 (fun _ => rfl) (by rw [Try.underlying25]) (OpensArgs.one op_22 (by rw [Try.underlying22]) (OpensArgs.agg op_52 (fun _ => rfl) (by rw [Try.underlying52]) OpensArgs.nil))) (fun x h => law_BylawJoins x h) (by rw [Try.params10]) laidBylawJoins (by kernel_rfl) rfl rfl Try.underlying4 (fun ds h => by
    match ds, h with
    | [_, _, _], _ => exact ⟨rfl, rfl, rfl⟩) hval hW hwt
theorem bylawJoins_proved : Rows.BylawJoinsSaid :=
  OpenClaim.holds_of_wide 10 Try.f10 rfl rfl rfl rfl rfl rfl rfl ⟨rfl, rfl, rfl, rfl, rfl⟩ rfl rfl rfl rfl rfl (by kernel_rfl) Try.func10 (by kernel_rfl)
    (of_decide_eq_true (by kernel_rfl)) (by unfold Func.isWrapper; first | (rw [if_pos (by decide +kernel)]; kernel_rfl) | (rw [if_neg (by decide +kernel)]; exact ⟨rfl, rfl⟩))
    (fun os started H enc _ => liftedBylawJoins os started H enc)
end Go.Proofs.Ytmkkedbfjpkgkaa
