/- MoonPlaces: for every input the statement's call returns true; the arguments read behind it as they did. No conditions. -/
import Derived.Test.YtdhjccionnbljaaM1
import Derived.Test.YtdhjccionnbljaaRows
namespace Go.Proofs.Ytdhjccionnbljaa
open Go Go.RowKit Go.Sx Go.ChangeShapes

theorem ownMoonPlaces : ownKnob Try.prog.godebug = none := by kernel_rfl
theorem laidMoonPlaces : laidOutB Try.prog = true := by kernel_rfl
theorem law_MoonPlaces (x : TSky × TFrac × Int × Unit) (h : TSky.G x.1 ∧ TFrac.G x.2.1 ∧ InK .i64 x.2.2.1 ∧ True) : Does Try.prog 7 [.agg (TSky.c x.1), .agg (TFrac.c x.2.1), DI x.2.2.1] (fun y => y = .v (.bool true)) := by
  obtain ⟨h0, h1, h2, _⟩ := h
  exact d_L02_MoonPlaces (x.1) (x.2.1) (x.2.2.1) true (pl_MoonPlaces (x.1) (x.2.1) (x.2.2.1) h0 h1 h2)
set_option maxRecDepth 100000 in
theorem liftedMoonPlaces (os : Os) (started : os.Started) (H : Type) (enc : TypeId × Value → H) :
    ReturnsInHanded {} Try.checked os 7 .any (Rows.moonPlacesSpec.pre6 enc Try.prog Try.f7 Rows.moonPlacesRow.domain false) (Rows.moonPlacesSpec.post enc Try.prog Try.f7 false true false false) := by
  refine returnsInHanded_of_change_sized (C := Try.checked) ownMoonPlaces started (by kernel_rfl) Try.func7
    (ChangeSpec.witness6 (enc := enc) (C := Try.checked) false ⟨#[], #[.agg #[.slice none 0 0, .slice none 0 0, .slice none 0 0], .agg #[.int .i64 0, .int .i64 0], .int .i64 0], []⟩ 12 (by kernel_rfl) (by kernel_rfl) (by kernel_rfl) (by kernel_rfl)) ?_
  intro W base args ds gs before hval hW _ hwt _
  exact law_contract (P := Try.prog) (ts := [32, 37, 3]) (tb := 4) (OpensArgs.agg op_32 (fun _ => rfl) (by rw [Try.underlying32]) (OpensArgs.agg op_37 (fun _ => rfl) (by rw [Try.underlying37]) (OpensArgs.one (Opens.int Try.underlying3) (by rw [Try.underlying3]) OpensArgs.nil))) (fun x h => law_MoonPlaces x h) (by rw [Try.params7]) laidMoonPlaces (by kernel_rfl) rfl rfl Try.underlying4 (fun ds h => by
    match ds, h with
    | [_, _, _], _ => exact ⟨rfl, rfl, rfl⟩) hval hW hwt
theorem moonPlaces_proved : Rows.MoonPlacesSaid :=
  OpenClaim.holds_of_wide 7 Try.f7 rfl rfl rfl rfl rfl rfl rfl ⟨rfl, rfl, rfl, rfl, rfl⟩ rfl rfl rfl rfl rfl (by kernel_rfl) Try.func7 (by kernel_rfl)
    (of_decide_eq_true (by kernel_rfl)) (by unfold Func.isWrapper; first | (rw [if_pos (by decide +kernel)]; kernel_rfl) | (rw [if_neg (by decide +kernel)]; exact ⟨rfl, rfl⟩))
    (fun os started H enc _ => liftedMoonPlaces os started H enc)
end Go.Proofs.Ytdhjccionnbljaa
