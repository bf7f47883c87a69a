/- MoonNarrows: for every input the statement's call returns true; the arguments read behind it as they did. No conditions. -/
import Derived.Test.YtnehgkfgenhgcaaGreatM1
import Derived.Test.YtnehgkfgenhgcaaGreatRows
namespace Go.Proofs.YtnehgkfgenhgcaaGreat
open Go Go.RowKit Go.Sx Go.ChangeShapes

theorem ownMoonNarrows : ownKnob Tryz.prog.godebug = none := by kernel_rfl
theorem laidMoonNarrows : laidOutB Tryz.prog = true := by kernel_rfl
theorem law_MoonNarrows (x : TRaw × (Int × Int) × Bool × Unit) (h : TRaw.G x.1 ∧ (InK .i64 x.2.1.1 ∧ InK .i64 x.2.1.2) ∧ True ∧ True) : Does Tryz.prog 3 [.agg (TRaw.c x.1), .agg [DI x.2.1.1, DI x.2.1.2], DB x.2.2.1] (fun y => y = .v (.bool true)) := by
  obtain ⟨h0, h1, h2, _⟩ := h
  exact d_L02_MoonNarrows (x.1) (x.2.1) (x.2.2.1) true (pl_MoonNarrows (x.1) (x.2.1) (x.2.2.1) h0 h1 h2)
set_option maxRecDepth 100000 in
theorem liftedMoonNarrows (os : Os) (started : os.Started) (H : Type) (enc : TypeId × Value → H) :
    ReturnsInHanded {} Tryz.checked os 3 .any (Rows.moonNarrowsSpec.pre6 enc Tryz.prog Tryz.f3 Rows.moonNarrowsRow.domain false) (Rows.moonNarrowsSpec.post enc Tryz.prog Tryz.f3 false true false false) := by
  refine returnsInHanded_of_change_sized (C := Tryz.checked) ownMoonNarrows started (by kernel_rfl) Tryz.func3
    (ChangeSpec.witness6 (enc := enc) (C := Tryz.checked) false ⟨#[], #[.agg #[.slice none 0 0, .slice none 0 0, .slice none 0 0, .slice none 0 0, .int .i64 0], .agg #[.int .i64 0, .int .i64 0], .bool false], []⟩ 12 (by kernel_rfl) (by kernel_rfl) (by kernel_rfl) (by kernel_rfl)) ?_
  intro W base args ds gs before hval hW _ hwt _
  exact law_contract (P := Tryz.prog) (ts := [26, 27, 4]) (tb := 4) (OpensArgs.agg op_26 (fun _ => rfl) (by rw [Tryz.underlying26]) (OpensArgs.agg op_27 (fun _ => rfl) (by rw [Tryz.underlying27]) (OpensArgs.one (Opens.bool Tryz.underlying4) (by rw [Tryz.underlying4]) OpensArgs.nil))) (fun x h => law_MoonNarrows x h) (by rw [Tryz.params3]) laidMoonNarrows (by kernel_rfl) rfl rfl Tryz.underlying4 (fun ds h => by
    match ds, h with
    | [_, _, _], _ => exact ⟨rfl, rfl, rfl⟩) hval hW hwt
theorem moonNarrows_proved : Rows.MoonNarrowsSaid :=
  OpenClaim.holds_of_wide 3 Tryz.f3 rfl rfl rfl rfl rfl rfl rfl ⟨rfl, rfl, rfl, rfl, rfl⟩ rfl rfl rfl rfl rfl (by kernel_rfl) Tryz.func3 (by kernel_rfl)
    (of_decide_eq_true (by kernel_rfl)) (by unfold Func.isWrapper; first | (rw [if_pos (by decide +kernel)]; kernel_rfl) | (rw [if_neg (by decide +kernel)]; exact ⟨rfl, rfl⟩))
    (fun os started H enc _ => liftedMoonNarrows os started H enc)
end Go.Proofs.YtnehgkfgenhgcaaGreat
